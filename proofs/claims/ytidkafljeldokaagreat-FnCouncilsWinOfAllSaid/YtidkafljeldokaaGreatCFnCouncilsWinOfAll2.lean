/- Part 2 of the texts below the law FnCouncilsWinOfAll. Printed by this session's driver over the kit's printer, but for the hand contracts and the plain laws. -/
import Derived.Test.YtidkafljeldokaaGreatCFnCouncilsWinOfAll1
set_option linter.unusedVariables false
set_option linter.unusedSimpArgs false
namespace Go.Proofs.YtidkafljeldokaaGreat.P
open Go.RowKit Go.Proofs.YtidkafljeldokaaGreatW.PrintWords Go.Proofs.YtidkafljeldokaaGreatW.PrintLast Go.Proofs.YtidkafljeldokaaGreatW.PrintMore
attribute [local go_sem] max2_int min2_int max_two min_two max_three min_three max_four min_four   -- for this text's walks alone
set_option linter.unusedVariables false
set_option linter.unusedSimpArgs false

/-! ### spec_pwCounts: function 36 -/
def spec_pwCounts.l0:Nat → List Bool → Int → List Int → Int → Option (List Int)
 | 0,_,_,_,_=>none
 | k + 1,x0,x1,x5,x6=>if x6 < x1 then ((spec_pwSwings.f k x0 x6).bind fun t2=>(if x5.length < 17592186044416 then (spec_pwCounts.l0 k x0 x1 (x5 ++ [(t2.length:Int)]) (wrap64 (x6 + 1))) else (none))) else (some x5)
def spec_pwCounts.f (k:Nat) (l0:List Bool) (a1:Int):Option (List Int):=spec_pwCounts.l0 k l0 a1 ([]:List Int) 0
set_option maxHeartbeats 8000000 in
set_option maxRecDepth 100000 in
theorem spec_pwCounts.calls (k:Nat) (A0:Option Addr) (c0:Nat) (l0:List Bool) (a1:Int) (r:List Int) (w:World) (hr0:Kd.C Kd.bool w A0 l0.length l0) (hc0:l0.length ≤ c0) (h:spec_pwCounts.f k l0 a1 = some r) :
  Calls Tryz.prog 36 #[.slice A0 l0.length c0,.int .i64 a1] w fun e w'=>∃ v0_:Value,e = .returned (v0_) ∧ Kd.R (Kd.int .i64) 3 w' w.heap.size (fun _=>True) v0_ r ∧ Below w.heap.size w w':=by
 have HR0:=aM hr0;have HC0:=aM hc0;clear hr0 hc0;have HB:=aM (Below.refl w.heap.size w);have H:(spec_pwCounts.l0 k l0 a1 ([]:List Int) 0) = some r:=h;clear h;have H':=aM H;clear H;go_enter Tryz.func36,Tryz.ntmps36;go_wp2
 go_loopg [5,6] k (fun kq v5 v6 w'=>∃ (x5_1:List Int) (x6_1:Int),v6 = .int .i64 x6_1 ∧ Aside0 (spec_pwCounts.l0 kq l0 a1 x5_1 x6_1 = some r) ∧ Aside0 (kq ≤ k) ∧ Aside0 (Kd.R (Kd.int .i64) 3 w' w.heap.size (fun _=>True) v5 x5_1) ∧ Aside0 (Below w.heap.size w w'))
 case atStart=>exact ⟨(([]:List Int)),(0),qrs,H',⟨Nat.le_refl _⟩,⟨by first|exact Kd.R_nil _ _ _ _ _|exact Kd.N_nil _ _ _ _ _|exact Kd.V_nil _ _ _ _ _|exact Kd.Q_nil _ _ _ _ _|exact Kd.S_nil _ _ _ _ _⟩,⟨by exact bw⟩⟩
 case round =>
  clear H'
  try clear p2
  obtain ⟨x5_1,x6_1,rfl,HA,HK1,HO_5,HB⟩:=hrel
  cases gk with
  | zero=>exact absurd HA.out (by simp [spec_pwCounts.l0])
  | succ k1 =>
   have H:=HA.out;clear HA;simp only [spec_pwCounts.l0] at H;by_cases c3:x6_1 < a1
   ·rw [if_pos c3] at H;have c3b0:=decide_eq_true c3;clear c3;replace H:=oB H;obtain ⟨t9,A4,H⟩:=H;(try dsimp only at H)
    replace H:=iN H;obtain ⟨c5,H⟩:=H;have LMc5:=aM c5;clear c5;obtain ⟨y12,hy12⟩:∃ y_:List Int,y_ = (x5_1 ++ [(t9.length:Int)]):=⟨_,rfl⟩;replace H:(spec_pwCounts.l0 k1 l0 a1 y12 (wrap64 (x6_1 + 1))) = some r:=yR hy12 H;have Ny12:=aM hy12;clear hy12;have H':=aM H;clear H;go_wp2_with (first|((with_reducible refine gate_callee (f:=66) rfl ?_);refine gL 15 Tryz.func66 #[.slice A0 l0.length c0,.int .i64 x6_1] ?_;(with_reducible refine (spec_pwSwings.calls k1 _ _ l0 x6_1 t9 _ ?side1 ?side2 A4.out).mono ?_);(case side1=>exact qcs HR0.out HB.out);(case side2=>exact HC0.out);rintro e w6 ⟨v10,rfl,ho0,hb⟩;refine ⟨_,rfl,?_⟩;have HO11:=aM (Kd.R_lower (Kd.R_new' ho0 (Kd.R_lt (qra HO_5.out))) (below_size bw));replace HO_5:=aM (Kd.R_elder' (qra HO_5.out) (Kd.R_base ho0) hb);replace HB:=aM (below_step bw hb);(try clear hb);(try clear ho0);obtain ⟨Ao7,co7,eo7⟩:=Kd.R_slice HO11.out;subst eo7)|((with_reducible refine gate_builtin (b:=.append) (xs:=#[.tmp 12,.tmp 17]) rfl ?_);at_builtin;refine Kd.R_append (Kd.int .i64) (w0:=w) w.heap.size rfl (.tmp 12) (.tmp 17) 22 3 (.int .i64 0) 8 rfl Tryz.underlying22 info3 rfl (by decide) (by omega) u5 x5_1 (t9.length:Int) [.int .i64 (t9.length:Int)] (fun k_=>some k_ ≠ (.slice Ao7 t9.length co7:Value).ownBlock) (fun _=>False) rfl rfl ?aP (fun _ hk=>hk.elim) ?aF ?aO ?aB ?aS ?aL ?_;(case aP=>exact rfl);(case aB=>exact bw);(case aF=>exact (fun k_ hk=>Kd.fresh' (Kd.R_lt (qra HO11.out)) k_ hk));(case aO=>exact (by (with_reducible repeat (first|apply Kd.R_alloc|apply Kd.R_drewN|apply Kd.R_drew));exact Kd.R_mono HO_5.out (fun _ hk=>hk.2)));(case aS=>exact (below_size bw));(case aL=>have:=LMc5.out;omega);intro v13 w8 ho hb hg hat;rw [← Ny12.out] at ho;replace HO11:=aM (Kd.R_after (ok:=(fun _=>True)) (qra HO11.out) hg hat);replace HB:=aM (hb);have HO14:=aM (ho);clear HO_5;clear ho hb hg hat))
    go_roundg k1
    case measure=>have:=HK1.out;omega
    case rel=>exact ⟨(y12),(wrap64 (x6_1 + 1)),qrs,H',⟨by have:=HK1.out;omega⟩,⟨by (with_reducible repeat (first|apply Kd.R_alloc|apply Kd.R_drewN|apply Kd.R_drew));exact Kd.R_mono HO14.out (fun _ hk=>trivial)⟩,⟨by exact bw⟩⟩
   ·rw [if_neg c3] at H;have c3b0:=decide_eq_false c3;clear c3;obtain rfl:=Option.some.inj H;go_wp2
    go_ret
    exact ⟨_,eE,by (with_reducible repeat (first|apply Kd.R_alloc|apply Kd.R_drewN|apply Kd.R_drew));exact HO_5.out,by exact bw⟩


/-! ### spec_pwCommon: function 67 -/
def spec_pwCommon.l0:Nat → Int → Int → Option (Int)
 | 0,_,_=>none
 | k + 1,x0,x1=>if x1 > 0 then (if x1 = 0 then (none) else (spec_pwCommon.l0 k x1 (Int.tmod x0 x1))) else (some x0)
def spec_pwCommon.f (k:Nat) (a0:Int) (a1:Int):Option (Int):=spec_pwCommon.l0 k a0 a1
set_option maxHeartbeats 8000000 in
set_option maxRecDepth 100000 in
theorem spec_pwCommon.calls (k:Nat) (a0:Int) (a1:Int) (r:Int) (w:World) (h:spec_pwCommon.f k a0 a1 = some r) :
  Calls Tryz.prog 67 #[.int .i64 a0,.int .i64 a1] w fun e w'=>e = .returned (.int .i64 r) ∧ Drawn0 w w':=by
 have H:(spec_pwCommon.l0 k a0 a1) = some r:=h;clear h;have H':=aM H;clear H;go_enter Tryz.func67,Tryz.ntmps67;go_wp2
 repeat (go_quiet (fail);try go_wp2)
 go_loopg [0,1] k (fun kq v0 v1 w'=>∃ (x0_1:Int) (x1_1:Int),v0 = .int .i64 x0_1 ∧ v1 = .int .i64 x1_1 ∧ Aside0 (spec_pwCommon.l0 kq x0_1 x1_1 = some r) ∧ Aside0 (kq ≤ k) ∧ Drawn0 w w')
 case atStart=>exact ⟨(a0),(a1),qrs,qrs,H',⟨Nat.le_refl _⟩,by repeat (first|exact Drawn0.refl _|apply Drawn0.step)⟩
 case round =>
  clear H'
  try clear p2
  obtain ⟨x0_1,x1_1,rfl,rfl,HA,HK1,⟨m1,rfl⟩⟩:=hrel
  cases gk with
  | zero=>exact absurd HA.out (by simp [spec_pwCommon.l0])
  | succ k1 =>
   have H:=HA.out;clear HA;simp only [spec_pwCommon.l0] at H;by_cases c3:x1_1 > 0
   ·rw [if_pos c3] at H;have c3b0:decide (0 < x1_1) = true:=decide_eq_true c3;clear c3;replace H:=iM H;obtain ⟨c4,H⟩:=H;have c4b0:(x1_1 == 0) = false:=beq_eq_false_iff_ne.mpr c4;have c4b1:(x1_1 != 0) = true:=bne_iff_ne.mpr c4;have H':=aM H;clear H;go_wp2
    repeat (go_quiet (fail);try go_wp2)
    go_roundg k1
    case measure=>have:=HK1.out;omega
    case rel=>exact ⟨(x1_1),(Int.tmod x0_1 x1_1),qrs,qrs,H',⟨by have:=HK1.out;omega⟩,by repeat (first|exact Drawn0.refl _|apply Drawn0.step)⟩
   ·rw [if_neg c3] at H;have c3b0:decide (0 < x1_1) = false:=decide_eq_false c3;clear c3;obtain rfl:=Option.some.inj H;go_wp2
    repeat (go_quiet (fail);try go_wp2)
    go_ret
    exact ⟨qrs,dR⟩


/-! ### spec_pwShare: function 37 -/
def spec_pwShare.f (k:Nat) (a0:Int) (a1:Int):Option (Int × Int):=(spec_pwCommon.f k a0 a1).bind fun t2=>(if t2 = 0 then (none) else (some (wrap64 (Int.tdiv a0 t2),wrap64 (Int.tdiv a1 t2))))
def spec_pwShare.T2:Bool × List (List Nat × List Nat):=(true,[([],[]),([],[]),([0,1],[0,1]),([],[]),([],[]),([3,4],[3,4]),([2,5],[2,5]),([6,0,1,2,3,4,5,6],[6])])
def spec_pwShare.B2:List Nat:=[0,0,3,0,0,24,63,127]
theorem spec_pwShare.tab2:rtab .any (opsOf Tryz.f37 2) = spec_pwShare.T2:=by kernel_rfl
theorem spec_pwShare.bits2:waitsOk spec_pwShare.T2.2 spec_pwShare.B2 = true:=by kernel_rfl
set_option maxHeartbeats 8000000 in
set_option maxRecDepth 100000 in
theorem spec_pwShare.calls (k:Nat) (a0:Int) (a1:Int) (r1:Int) (r2:Int) (w:World) (h:spec_pwShare.f k a0 a1 = some (r1,r2)) :
  Calls Tryz.prog 37 #[.int .i64 a0,.int .i64 a1] w fun e w'=>e = .returned (.agg #[.int .i64 r1,.int .i64 r2]) ∧ Below w.heap.size w w':=by
 have hu44:=Tryz.underlying44;have HB:=aM (Below.refl w.heap.size w);have H:((spec_pwCommon.f k a0 a1).bind fun t10=>(if t10 = 0 then (none) else (some (wrap64 (Int.tdiv a0 t10),wrap64 (Int.tdiv a1 t10))))) = some (r1,r2):=h;clear h;replace H:=oB H;obtain ⟨t10,A3,H⟩:=H;(try dsimp only at H)
 replace H:=iM H;obtain ⟨c4,H⟩:=H;have c4b0:(t10 == 0) = false:=beq_eq_false_iff_ne.mpr c4;have c4b1:(t10 != 0) = true:=bne_iff_ne.mpr c4;simp only [Option.some.injEq,Prod.mk.injEq] at H;obtain ⟨rfl,rfl⟩:=H;go_enter Tryz.func37,Tryz.ntmps37
 try go_wp2_with (first|((with_reducible refine gate_dst (N:=4) rfl ?_);refine bE 4 #[.int .i64 0,.int .i64 0] 44 ?_;intro gb9 hg w5 hbox hb;have BK9:=aM (hbox);have GW9:=aM (gS hg);have GE9:=aM (gS hg);replace HB:=aM (below_step bw hb);clear hb hbox hg)|((with_reducible refine gate_callee (f:=67) rfl ?_);refine gL 8 Tryz.func67 #[.int .i64 a0,.int .i64 a1] ?_;(with_reducible refine (spec_pwCommon.calls k a0 a1 t10 _ A3.out).mono ?_);rintro e w' ⟨rfl,⟨nd,rfl⟩⟩;refine ⟨_,rfl,?_⟩;(try (rw [drewN_self w5];generalize hq_:World.drewN w5 _ = w5;have n0_:Aside0 (w5.heap[gb9]? = some (.cells #[.int .i64 0,.int .i64 0] 44 (0,0))):=⟨by rw [← hq_];exact (bk1 BK9.out)⟩;have n1_:Aside0 (Below w.heap.size w w5):=⟨by rw [← hq_];exact bw⟩;clear BK9 HB hq_;have BK9:=n0_;have HB:=n1_;clear n0_ n1_))))
 replace BK9:=aM (blk_drew BK9.out);replace HB:=aM (below_drew1 HB.out);refine start_ (n:=8) (S:=fun w'=>True) (ds:=[]) (mA 8 0) kR rfl rfl trivial (fun hHeld=>?_);refine with_tabW spec_pwShare.tab2 spec_pwShare.bits2 (fun HT_ HW_=>?_)
 generalize w5.drew = w6 at BK9 HB hHeld ⊢
 refine pT 0 9 HT_.out ?_;refine pT 1 10 HT_.out ?_;refine pT 2 11 HT_.out ?_;refine pT 3 12 HT_.out ?_;refine pT 4 13 HT_.out ?_;refine pT 5 14 HT_.out ?_;refine pT 6 15 HT_.out ?_;refine oN 7 none HT_.out fun K hK=>?_
 have hs7:w6.cell? ⟨gb9,0,none⟩ = some (.int .i64 0):=(blk_cell BK9.out 0).trans rfl;have hfs7:=blk_frozen BK9.out 0;have hs8:w6.cell? ⟨gb9,1,none⟩ = some (.int .i64 0):=(blk_cell BK9.out 1).trans rfl;have hfs8:=blk_frozen BK9.out 1;refine skip_ (w1:=?_) (by rfl) rfl ?_ ?_;rotate_left
 ·go_simp
  rfl
 refine hK.out _ _ trivial (fun hHeld=>?_);clear hK K;refine done_ (done_of HT_.out kR) ?_
 try go_wp2
 refine bodyPost_ret (results_cell_row rfl _ _ gb9 44 #[.int .i64 (wrap64 (Int.tdiv a0 t10)),.int .i64 (wrap64 (Int.tdiv a1 t10))] (0,0) _ rfl (by (with_reducible repeat (first|refine blk_drewN ?_ _|refine blk_drew ?_|refine blk_alloc ?_ _));refine blk_put (cs:=#[.int .i64 (wrap64 (Int.tdiv a0 t10)),.int .i64 0]) ?_ 1 _ rfl;(with_reducible repeat (first|refine blk_drewN ?_ _|refine blk_drew ?_|refine blk_alloc ?_ _));refine blk_put (cs:=#[.int .i64 0,.int .i64 0]) ?_ 0 _ rfl;(with_reducible repeat (first|refine blk_drewN ?_ _|refine blk_drew ?_|refine blk_alloc ?_ _));exact BK9.out) Tryz.underlying44 rfl kR) rfl ?_;exact ⟨eE,by exact bw⟩


/-! ### spec_CouncilPowers: function 7 -/
def spec_CouncilPowers.l0:Nat → Int → List (S_impl_Share) → List Int → Int → Int → Option ((List (S_impl_Share)) × Bool)
 | 0,_,_,_,_,_=>none
 | k + 1,x6,x7,x20,x21,x22=>if x22 < x21 then (if 0 ≤ x22 then (if x22 < (x20.length:Int) then (if 0 ≤ (wrap64 (x6 - 1)) then ((spec_pwShare.f k (rd x20 x22) (shl .i64 1 (wrap64 (x6 - 1)))).bind fun bt1=>(if x7.length < 8796093022208 then (spec_CouncilPowers.l0 k x6 (x7 ++ [(⟨bt1.1,bt1.2⟩:S_impl_Share)]) x20 x21 (wrap64 (x22 + 1))) else (none))) else (none)) else (none)) else (none)) else (some (x7,true))
def spec_CouncilPowers.f (k:Nat) (a0_0:Int) (l0_1:List Int) (l1:List (S_impl_Committee)):Option ((List (S_impl_Share)) × Bool):=(spec_AreCouncil.f k a0_0 l0_1 l1).bind fun t2=>(if t2 = true then ((spec_chMembers.f k l1).bind fun t3=>((spec_chCouncil.f k a0_0 l0_1 l1).bind fun t4=>((spec_pwCounts.f k t4 t3).bind fun t5=>(spec_CouncilPowers.l0 k t3 ([]:List (S_impl_Share)) t5 (t5.length:Int) 0)))) else (some (([]:List (S_impl_Share)),false)))
set_option maxHeartbeats 8000000 in
set_option maxRecDepth 100000 in
theorem spec_CouncilPowers.calls (k:Nat) (a0_0:Int) (A0_1:Option Addr) (c0_1:Nat) (l0_1:List Int) (A1:Option Addr) (c1:Nat) (l1:List (S_impl_Committee)) (r1:List (S_impl_Share)) (r2:Bool) (w:World) (hr0_1:Kd.C (Kd.int .i64) w A0_1 l0_1.length l0_1) (hc0_1:l0_1.length ≤ c0_1) (hr1:Kd.C k_impl_Committee w A1 l1.length l1) (hc1:l1.length ≤ c1) (h:spec_CouncilPowers.f k a0_0 l0_1 l1 = some (r1,r2)) :
  Calls Tryz.prog 7 #[.agg #[.int .i64 a0_0,.slice A0_1 l0_1.length c0_1],.slice A1 l1.length c1] w fun e w'=>∃ v0_:Value,e = .returned (.tuple #[v0_,.bool r2]) ∧ Kd.R k_impl_Share 44 w' w.heap.size (fun _=>True) v0_ r1 ∧ Below w.heap.size w w':=by
 have hu24:=Tryz.underlying24;have HR0_1:=aM hr0_1;have HC0_1:=aM hc0_1;clear hr0_1 hc0_1;have HR1:=aM hr1;have HC1:=aM hc1;clear hr1 hc1;have HB:=aM (Below.refl w.heap.size w);have H:((spec_AreCouncil.f k a0_0 l0_1 l1).bind fun t34=>(if t34 = true then ((spec_chMembers.f k l1).bind fun t35=>((spec_chCouncil.f k a0_0 l0_1 l1).bind fun t38=>((spec_pwCounts.f k t38 t35).bind fun t41=>(spec_CouncilPowers.l0 k t35 ([]:List (S_impl_Share)) t41 (t41.length:Int) 0)))) else (some (([]:List (S_impl_Share)),false)))) = some (r1,r2):=h;clear h;replace H:=oB H;obtain ⟨t34,A3,H⟩:=H;(try dsimp only at H)
 by_cases c4:t34 = true
 ·subst c4;rw [if_pos rfl] at H;replace H:=oB H;obtain ⟨t35,A5,H⟩:=H;(try dsimp only at H)
  replace H:=oB H;obtain ⟨t38,A6,H⟩:=H;(try dsimp only at H)
  replace H:=oB H;obtain ⟨t41,A7,H⟩:=H;(try dsimp only at H)
  have H':=aM H;clear H;go_enter Tryz.func7,Tryz.ntmps7;go_wp2_with (first|((with_reducible refine gate_dst (N:=2) rfl ?_);refine bE 2 #[.int .i64 a0_0,.slice A0_1 l0_1.length c0_1] 24 ?_;intro gb30 hg w8 hbox hb;have BK30:=aM (hbox);have GW30:=aM (gS hg);have GE30:=aM (gS hg);replace HB:=aM (below_step bw hb);clear hb hbox hg;have hcz9_0:=cz BK30.out 0;have hcz9_1:=cz BK30.out 1;have hfz9_0:=blk_frozen BK30.out 0;have hfz9_1:=blk_frozen BK30.out 1)|((with_reducible refine gate_callee (f:=13) rfl ?_);refine gL 12 Tryz.func13 #[.agg #[.int .i64 a0_0,.slice A0_1 l0_1.length c0_1],.slice A1 l1.length c1] ?_;(with_reducible refine (spec_AreCouncil.calls k a0_0 _ _ l0_1 _ _ l1 true _ ?side1 ?side2 ?side3 ?side4 A3.out).mono ?_);(case side1=>exact qcs HR0_1.out HB.out);(case side2=>exact HC0_1.out);(case side3=>exact qcs HR1.out HB.out);(case side4=>exact HC1.out);rintro e w10 ⟨rfl,hb⟩;refine ⟨_,rfl,?_⟩;replace BK30:=aM (bB BK30.out hb);replace HB:=aM (below_step bw hb);(try clear hb))|((with_reducible refine gate_callee (f:=32) rfl ?_);refine gL 15 Tryz.func32 #[.slice A1 l1.length c1] ?_;(with_reducible refine (spec_chMembers.calls k _ _ l1 t35 _ ?side1 ?side2 A5.out).mono ?_);(case side1=>exact qcs HR1.out HB.out);(case side2=>exact HC1.out);rintro e w11 ⟨rfl,hb⟩;refine ⟨_,rfl,?_⟩;replace BK30:=aM (bB BK30.out hb);replace HB:=aM (below_step bw hb);(try clear hb);have hcz12_0:=cz BK30.out 0;have hcz12_1:=cz BK30.out 1;have hfz12_0:=blk_frozen BK30.out 0;have hfz12_1:=blk_frozen BK30.out 1)|((with_reducible refine gate_callee (f:=33) rfl ?_);refine gL 18 Tryz.func33 #[.agg #[.int .i64 a0_0,.slice A0_1 l0_1.length c0_1],.slice A1 l1.length c1] ?_;(with_reducible refine (spec_chCouncil.calls k a0_0 _ _ l0_1 _ _ l1 t38 _ ?side1 ?side2 ?side3 ?side4 A6.out).mono ?_);(case side1=>exact qcs HR0_1.out HB.out);(case side2=>exact HC0_1.out);(case side3=>exact qcs HR1.out HB.out);(case side4=>exact HC1.out);rintro e w13 ⟨v39,rfl,ho0,hb⟩;refine ⟨_,rfl,?_⟩;have HO40:=aM (Kd.R_lower ho0 (below_size bw));replace BK30:=aM (bB BK30.out hb);replace HB:=aM (below_step bw hb);(try clear hb);(try clear ho0);obtain ⟨Ao14,co14,eo14⟩:=Kd.R_slice HO40.out;subst eo14)|((with_reducible refine gate_callee (f:=36) rfl ?_);refine gL 20 Tryz.func36 #[.slice Ao14 t38.length co14,.int .i64 t35] ?_;(with_reducible refine (spec_pwCounts.calls k _ _ t38 t35 t41 _ ?side1 ?side2 A7.out).mono ?_);(case side1=>exact qc (Kd.R_reads' HO40.out).2.2);(case side2=>exact (Kd.R_reads' HO40.out).2.1);rintro e w15 ⟨v42,rfl,ho0,hb⟩;refine ⟨_,rfl,?_⟩;replace HO40:=aM (Kd.R_below (qra HO40.out) hb);have HO43:=aM (Kd.R_lower ho0 (below_size bw));replace BK30:=aM (bB BK30.out hb);replace HB:=aM (below_step bw hb);(try clear hb);(try clear ho0);obtain ⟨Ao16,co16,eo16⟩:=Kd.R_slice HO43.out;subst eo16))
  go_loopg [7,22] k (fun kq v7 v22 w'=>∃ (x7_1:List (S_impl_Share)) (x22_1:Int),v22 = .int .i64 x22_1 ∧ Aside0 (spec_CouncilPowers.l0 kq t35 x7_1 t41 (t41.length:Int) x22_1 = some (r1,r2)) ∧ Aside0 (kq ≤ k) ∧ Aside0 (Kd.R k_impl_Share 44 w' w.heap.size (fun _=>True) v7 x7_1) ∧ Aside0 (Kd.R (Kd.int .i64) 3 w' w.heap.size (fun _=>True) (.slice Ao16 t41.length co16) t41) ∧ Aside0 (w'.heap[gb30]? = some (.cells #[.int .i64 a0_0,(.slice A0_1 l0_1.length c0_1)] 24 (0,0))) ∧ Aside0 (Below w.heap.size w w'))
  case atStart=>exact ⟨(([]:List (S_impl_Share))),(0),qrs,H',⟨Nat.le_refl _⟩,⟨by first|exact Kd.R_nil _ _ _ _ _|exact Kd.N_nil _ _ _ _ _|exact Kd.V_nil _ _ _ _ _|exact Kd.Q_nil _ _ _ _ _|exact Kd.S_nil _ _ _ _ _⟩,⟨qra HO43.out⟩,⟨bk1 BK30.out⟩,⟨by exact bw⟩⟩
  case round =>
   clear H';(try clear c1);(try clear c4);(try clear hcz12_0);(try clear hcz12_1);(try clear hcz9_0);(try clear hcz9_1);(try clear hfz12_0);(try clear hfz12_1);(try clear hfz9_0);(try clear hfz9_1)
   obtain ⟨x7_1,x22_1,rfl,HA,HK1,HO_7,HO_20,BK30,HB⟩:=hrel
   cases gk with
   | zero=>exact absurd HA.out (by simp [spec_CouncilPowers.l0])
   | succ k1 =>
    have H:=HA.out;clear HA;simp only [spec_CouncilPowers.l0] at H;by_cases c17:x22_1 < (t41.length:Int)
    ·rw [if_pos c17] at H;have c17b0:=decide_eq_true c17;clear c17;replace H:=iN H;obtain ⟨c18,H⟩:=H;have c18b0:decide (0 ≤ x22_1) = true:=decide_eq_true c18;clear c18;replace H:=iN H;obtain ⟨c19,H⟩:=H;have c19b0:decide (x22_1 < (t41.length:Int)) = true:=decide_eq_true c19;clear c19;obtain ⟨ji20,hji20⟩:∃ j_:Int,(wrap64 (t35 - 1)) = j_:=⟨_,rfl⟩;(first|rw [hji20] at H|simp only [hji20] at H)
     have hji20w:(IntKind.i64.wrap (t35 - 1)) = ji20:=(i64_w _).trans hji20;replace H:=iN H;obtain ⟨c21,H⟩:=H;have c21b0:=eq_true c21;have c21b1:decide (0 ≤ (ji20)) = true:=decide_eq_true c21;clear c21;obtain ⟨ji22,hji22⟩:∃ j_:Int,(shl .i64 1 (ji20)) = j_:=⟨_,rfl⟩;(first|rw [hji22] at H|simp only [hji22] at H)
     have hji22_:(IntKind.i64.wrap (1 * 2 ^ min (ji20).toNat 64)) = ji22:=hji22;have hji22z:(ji20) ≤ 64 → (IntKind.i64.wrap (1 * 2 ^ (ji20).toNat)) = ji22:=shl_small hji22;have hji22u:(IntKind.i64.wrap (2 ^ min (ji20).toNat 64)) = ji22:=by have h_:=hji22_;rw [Int.one_mul] at h_;exact h_
     have hji22v:(ji20) ≤ 64 → (IntKind.i64.wrap (2 ^ (ji20).toNat)) = ji22:=fun hle_=>by have h_:=hji22z hle_;rw [Int.one_mul] at h_;exact h_
     have hji22y:(wrap64 (1 * 2 ^ min (ji20).toNat 64)) = ji22:=(i64_w _).symm.trans hji22_;have hji22x:(ji20) ≤ 64 → (wrap64 (1 * 2 ^ (ji20).toNat)) = ji22:=fun h_=>(i64_w _).symm.trans (hji22z h_)
     replace H:=oB H;obtain ⟨⟨t46,t47⟩,A23,H⟩:=H;(try dsimp only at H)
     replace H:=iN H;obtain ⟨c24,H⟩:=H;have LMc24:=aM c24;clear c24;obtain ⟨y48,hy48⟩:∃ y_:List (S_impl_Share),y_ = (x7_1 ++ [(⟨t46,t47⟩:S_impl_Share)]):=⟨_,rfl⟩;replace H:(spec_CouncilPowers.l0 k1 t35 y48 t41 (t41.length:Int) (wrap64 (x22_1 + 1))) = some (r1,r2):=yR hy48 H;have Ny48:=aM hy48;clear hy48;have H':=aM H;clear H;have p45:0 ≤ (x22_1:Int):=of_decide_eq_true ab;have q45:x22_1 < (t41.length:Int):=of_decide_eq_true ab;obtain ⟨ad45,e45,hx45_0⟩:=Kd.at_int (Kd.R_reads' HO_20.out).2.2 x22_1 p45 q45;cases e45
     replace p45:=eq_true p45;replace q45:=eq_true q45;go_wp2_with (first|((with_reducible refine gate_callee (f:=37) rfl ?_);refine goesL_ (some 31) rfl rfl Tryz.func37 kR rfl #[.int .i64 (rd t41 x22_1),.int .i64 ji22] rfl (by (try simp only [List.map_toArray,List.map_cons,List.map_nil]);first|done|(simp only [hji22];rfl)|rfl|(simp only [List.length_drop,List.length_take];rfl)) ?_;(with_reducible refine (spec_pwShare.calls k1 (rd t41 x22_1) ji22 t46 t47 _ A23.out).mono ?_);rintro e w25 ⟨rfl,hb⟩;refine ⟨_,rfl,?_⟩;replace HO_7:=aM (Kd.R_below (qra HO_7.out) hb);replace HO_20:=aM (Kd.R_below (qra HO_20.out) hb);replace BK30:=aM (bB BK30.out hb);replace HB:=aM (below_step bw hb);(try clear hb))|((with_reducible refine gate_builtin (b:=.append) (xs:=#[.tmp 26,.tmp 32]) rfl ?_);at_builtin;refine Kd.R_append k_impl_Share (w0:=w) w.heap.size rfl (.tmp 26) (.tmp 32) 31 44 (.agg #[(.int .i64 0),(.int .i64 0)]) 16 rfl Tryz.underlying31 info44 rfl (by decide) (by omega) u7 x7_1 (⟨t46,t47⟩:S_impl_Share) [.int .i64 t46,.int .i64 t47] (fun _=>True) (fun _=>False) rfl rfl ?aP (fun _ hk=>hk.elim) ?aF ?aO ?aB ?aS ?aL ?_;(case aP=>exact k_impl_Share_mkM _ _ _ (⟨t46,t47⟩:S_impl_Share));(case aB=>exact bw);(case aF=>exact (fun _ _=>trivial));(case aO=>exact (qra HO_7.out));(case aS=>exact (below_size bw));(case aL=>have:=LMc24.out;omega);intro v49 w26 ho hb hg hat;rw [← Ny48.out] at ho;replace HO_20:=aM (Kd.R_over' (qra HO_20.out) (Kd.R_typed (qra HO_7.out)) (by decide) hg);replace BK30:=aM (blk_grown (g:=gb30) (o:=.cells #[.int .i64 a0_0,.slice A0_1 l0_1.length c0_1] 24 (0,0)) (bk1 BK30.out) hg (Kd.R_ne HO_7.out BK30.out (by decide)));replace HB:=aM (hb);have HO50:=aM (ho);clear HO_7;clear ho hb hg hat))
     go_roundg k1
     case measure=>have:=HK1.out;omega
     case rel=>exact ⟨(y48),(wrap64 (x22_1 + 1)),qrs,H',⟨by have:=HK1.out;omega⟩,⟨qra HO50.out⟩,⟨qra HO_20.out⟩,⟨bk1 BK30.out⟩,⟨by exact bw⟩⟩
    ·rw [if_neg c17] at H;have c17b0:=decide_eq_false c17;clear c17;simp only [Option.some.injEq,Prod.mk.injEq] at H;obtain ⟨rfl,rfl⟩:=H;go_wp2
     go_ret2
     exact ⟨_,eE,by (with_reducible repeat (first|apply Kd.R_alloc|apply Kd.R_drewN|apply Kd.R_drew));exact HO_7.out,by exact bw⟩
 ·replace c4:=Bool.eq_false_iff.mpr c4;subst c4;rw [if_neg (show ¬ (false = true) by decide)] at H;simp only [Option.some.injEq,Prod.mk.injEq] at H;obtain ⟨rfl,rfl⟩:=H;go_enter Tryz.func7,Tryz.ntmps7;go_wp2_with (first|((with_reducible refine gate_dst (N:=2) rfl ?_);refine bE 2 #[.int .i64 a0_0,.slice A0_1 l0_1.length c0_1] 24 ?_;intro gb30 hg w27 hbox hb;have BK30:=aM (hbox);have GW30:=aM (gS hg);have GE30:=aM (gS hg);replace HB:=aM (below_step bw hb);clear hb hbox hg;have hcz28_0:=cz BK30.out 0;have hcz28_1:=cz BK30.out 1;have hfz28_0:=blk_frozen BK30.out 0;have hfz28_1:=blk_frozen BK30.out 1)|((with_reducible refine gate_callee (f:=13) rfl ?_);refine gL 12 Tryz.func13 #[.agg #[.int .i64 a0_0,.slice A0_1 l0_1.length c0_1],.slice A1 l1.length c1] ?_;(with_reducible refine (spec_AreCouncil.calls k a0_0 _ _ l0_1 _ _ l1 false _ ?side1 ?side2 ?side3 ?side4 A3.out).mono ?_);(case side1=>exact qcs HR0_1.out HB.out);(case side2=>exact HC0_1.out);(case side3=>exact qcs HR1.out HB.out);(case side4=>exact HC1.out);rintro e w29 ⟨rfl,hb⟩;refine ⟨_,rfl,?_⟩;replace BK30:=aM (bB BK30.out hb);replace HB:=aM (below_step bw hb);(try clear hb);(try clear hk)))
  go_ret2
  exact ⟨_,eE,by first|exact Kd.R_nil _ _ _ _ _|exact Kd.N_nil _ _ _ _ _|exact Kd.V_nil _ _ _ _ _|exact Kd.Q_nil _ _ _ _ _|exact Kd.S_nil _ _ _ _ _,by exact bw⟩


/-! ### impl_votes_countWins: function 38 -/
def impl_votes_countWins.l0:Nat → Int → List Bool → Int → Int → Option (Int)
 | 0,_,_,_,_=>none
 | k + 1,x3,x7,x8,x9=>if x9 < x8 then (if 0 ≤ x9 then (if x9 < (x7.length:Int) then (if rdOf false x7 x9 = true then (impl_votes_countWins.l0 k (wrap64 (x3 + 1)) x7 x8 (wrap64 (x9 + 1))) else (impl_votes_countWins.l0 k x3 x7 x8 (wrap64 (x9 + 1)))) else (none)) else (none)) else (some x3)
def impl_votes_countWins.f (k:Nat) (a0_0:Int) (l0_1:List Bool):Option (Int):=impl_votes_countWins.l0 k 0 l0_1 (l0_1.length:Int) 0
set_option maxHeartbeats 8000000 in
set_option maxRecDepth 100000 in
theorem impl_votes_countWins.calls (k:Nat) (a0_0:Int) (A0_1:Option Addr) (c0_1:Nat) (l0_1:List Bool) (r:Int) (w:World) (hr0_1:Kd.C Kd.bool w A0_1 l0_1.length l0_1) (hc0_1:l0_1.length ≤ c0_1) (h:impl_votes_countWins.f k a0_0 l0_1 = some r) :
  Calls Tryz.prog 38 #[.agg #[.int .i64 a0_0,.slice A0_1 l0_1.length c0_1]] w fun e w'=>e = .returned (.int .i64 r) ∧ Below w.heap.size w w':=by
 have hu59:=Tryz.underlying59;have HR0_1:=aM hr0_1;have HC0_1:=aM hc0_1;clear hr0_1 hc0_1;have HB:=aM (Below.refl w.heap.size w);have H:(impl_votes_countWins.l0 k 0 l0_1 (l0_1.length:Int) 0) = some r:=h;clear h;have H':=aM H;clear H;go_enter Tryz.func38,Tryz.ntmps38;go_wp2_with (first|((with_reducible refine gate_dst (N:=1) rfl ?_);refine bE 1 #[.int .i64 a0_0,.slice A0_1 l0_1.length c0_1] 59 ?_;intro gb10 hg w2 hbox hb;have BK10:=aM (hbox);have GW10:=aM (gS hg);have GE10:=aM (gS hg);replace HB:=aM (below_step bw hb);clear hb hbox hg;have hcz3_0:=cz BK10.out 0;have hcz3_1:=cz BK10.out 1;have hfz3_0:=blk_frozen BK10.out 0;have hfz3_1:=blk_frozen BK10.out 1))
 go_loopg [3,9] k (fun kq v3 v9 w'=>∃ (x3_1:Int) (x9_1:Int),v3 = .int .i64 x3_1 ∧ v9 = .int .i64 x9_1 ∧ Aside0 (impl_votes_countWins.l0 kq x3_1 l0_1 (l0_1.length:Int) x9_1 = some r) ∧ Aside0 (kq ≤ k) ∧ Aside0 (w'.heap[gb10]? = some (.cells #[.int .i64 a0_0,(.slice A0_1 l0_1.length c0_1)] 59 (0,0))) ∧ Aside0 (Below w.heap.size w w'))
 case atStart=>exact ⟨(0),(0),qrs,qrs,H',⟨Nat.le_refl _⟩,⟨bk1 BK10.out⟩,⟨by exact bw⟩⟩
 case round =>
  clear H';(try clear hcz3_0);(try clear hcz3_1);(try clear hfz3_0);(try clear hfz3_1)
  obtain ⟨x3_1,x9_1,rfl,rfl,HA,HK1,BK10,HB⟩:=hrel
  cases gk with
  | zero=>exact absurd HA.out (by simp [impl_votes_countWins.l0])
  | succ k1 =>
   have H:=HA.out;clear HA;simp only [impl_votes_countWins.l0] at H;by_cases c4:x9_1 < (l0_1.length:Int)
   ·rw [if_pos c4] at H;have c4b0:=decide_eq_true c4;clear c4;replace H:=iN H;obtain ⟨c5,H⟩:=H;have c5b0:decide (0 ≤ x9_1) = true:=decide_eq_true c5;clear c5;replace H:=iN H;obtain ⟨c6,H⟩:=H;have c6b0:decide (x9_1 < (l0_1.length:Int)) = true:=decide_eq_true c6;clear c6;obtain ⟨bq7,hbq7⟩:∃ b_:Bool,b_ = (rdOf false l0_1 x9_1):=⟨_,rfl⟩;rw [← hbq7] at H;have Nbq7:=aM hbq7;clear hbq7;by_cases c8:bq7 = true
    ·subst c8;rw [if_pos rfl] at H;have H':=aM H;clear H;have p11:0 ≤ (x9_1:Int):=of_decide_eq_true ab;have q11:x9_1 < (l0_1.length:Int):=of_decide_eq_true ab;obtain ⟨ad11,e11,hx11_0⟩:=Kd.at_bool HR0_1.out x9_1 p11 q11;(try rw [← Nbq7.out] at hx11_0)
     cases e11
     replace hx11_0:=(HB.out.cell (World.block_lt_of_cell? w _ hx11_0)).trans hx11_0;replace p11:=eq_true p11;replace q11:=eq_true q11;go_wp2
     go_roundg k1
     case measure=>have:=HK1.out;omega
     case rel=>exact ⟨(wrap64 (x3_1 + 1)),(wrap64 (x9_1 + 1)),qrs,qrs,H',⟨by have:=HK1.out;omega⟩,⟨bk1 BK10.out⟩,⟨by exact bw⟩⟩
    ·replace c8:=Bool.eq_false_iff.mpr c8;subst c8;rw [if_neg (show ¬ (false = true) by decide)] at H;have H':=aM H;clear H;have p11:0 ≤ (x9_1:Int):=of_decide_eq_true ab;have q11:x9_1 < (l0_1.length:Int):=of_decide_eq_true ab;obtain ⟨ad11,e11,hx11_0⟩:=Kd.at_bool HR0_1.out x9_1 p11 q11;(try rw [← Nbq7.out] at hx11_0)
     cases e11
     replace hx11_0:=(HB.out.cell (World.block_lt_of_cell? w _ hx11_0)).trans hx11_0;replace p11:=eq_true p11;replace q11:=eq_true q11;go_wp2
     go_roundg k1
     case measure=>have:=HK1.out;omega
     case rel=>exact ⟨(x3_1),(wrap64 (x9_1 + 1)),qrs,qrs,H',⟨by have:=HK1.out;omega⟩,⟨bk1 BK10.out⟩,⟨by exact bw⟩⟩
   ·rw [if_neg c4] at H;have c4b0:=decide_eq_false c4;clear c4;obtain rfl:=Option.some.inj H;go_wp2
    go_ret
    exact ⟨eE,by exact bw⟩


/-! ### impl_CountCouncilWins: function 8 -/
def impl_CountCouncilWins.f (k:Nat) (a0_0:Int) (l0_1:List Int) (l1:List (S_impl_Committee)):Option (Int × Bool):=(impl_AreCouncil.f k a0_0 l0_1 l1).bind fun t2=>(if t2 = true then ((impl_councilVotes.f k a0_0 l0_1 l1).bind fun bt3=>((impl_votes_countWins.f k bt3.1 bt3.2).bind fun t4=>(some (t4,true)))) else (some (0,false)))
set_option maxHeartbeats 8000000 in
set_option maxRecDepth 100000 in
theorem impl_CountCouncilWins.calls (k:Nat) (a0_0:Int) (A0_1:Option Addr) (c0_1:Nat) (l0_1:List Int) (A1:Option Addr) (c1:Nat) (l1:List (S_impl_Committee)) (r1:Int) (r2:Bool) (w:World) (hr0_1:Kd.C (Kd.int .i64) w A0_1 l0_1.length l0_1) (hc0_1:l0_1.length ≤ c0_1) (hr1:Kd.C k_impl_Committee w A1 l1.length l1) (hc1:l1.length ≤ c1) (h:impl_CountCouncilWins.f k a0_0 l0_1 l1 = some (r1,r2)) :
  Calls Tryz.prog 8 #[.agg #[.int .i64 a0_0,.slice A0_1 l0_1.length c0_1],.slice A1 l1.length c1] w fun e w'=>e = .returned (.tuple #[.int .i64 r1,.bool r2]) ∧ Below w.heap.size w w':=by
 have hu24:=Tryz.underlying24;have HR0_1:=aM hr0_1;have HC0_1:=aM hc0_1;clear hr0_1 hc0_1;have HR1:=aM hr1;have HC1:=aM hc1;clear hr1 hc1;have HB:=aM (Below.refl w.heap.size w);have H:((impl_AreCouncil.f k a0_0 l0_1 l1).bind fun t18=>(if t18 = true then ((impl_councilVotes.f k a0_0 l0_1 l1).bind fun bt19=>((impl_votes_countWins.f k bt19.1 bt19.2).bind fun t23=>(some (t23,true)))) else (some (0,false)))) = some (r1,r2):=h;clear h;replace H:=oB H;obtain ⟨t18,A3,H⟩:=H;(try dsimp only at H)
 by_cases c4:t18 = true
 ·subst c4;rw [if_pos rfl] at H;replace H:=oB H;obtain ⟨⟨t19,t20⟩,A5,H⟩:=H;(try dsimp only at H)
  replace H:=oB H;obtain ⟨t23,A6,H⟩:=H;(try dsimp only at H)
  simp only [Option.some.injEq,Prod.mk.injEq] at H;obtain ⟨rfl,rfl⟩:=H;go_enter Tryz.func8,Tryz.ntmps8;go_wp2_with (first|((with_reducible refine gate_dst (N:=2) rfl ?_);refine bE 2 #[.int .i64 a0_0,.slice A0_1 l0_1.length c0_1] 24 ?_;intro gb17 hg w7 hbox hb;have BK17:=aM (hbox);have GW17:=aM (gS hg);have GE17:=aM (gS hg);replace HB:=aM (below_step bw hb);clear hb hbox hg;have hcz8_0:=cz BK17.out 0;have hcz8_1:=cz BK17.out 1;have hfz8_0:=blk_frozen BK17.out 0;have hfz8_1:=blk_frozen BK17.out 1)|((with_reducible refine gate_callee (f:=12) rfl ?_);refine gL 8 Tryz.func12 #[.agg #[.int .i64 a0_0,.slice A0_1 l0_1.length c0_1],.slice A1 l1.length c1] ?_;(with_reducible refine (impl_AreCouncil.calls k a0_0 _ _ l0_1 _ _ l1 true _ ?side1 ?side2 ?side3 ?side4 A3.out).mono ?_);(case side1=>exact qcs HR0_1.out HB.out);(case side2=>exact HC0_1.out);(case side3=>exact qcs HR1.out HB.out);(case side4=>exact HC1.out);rintro e w9 ⟨rfl,hb⟩;refine ⟨_,rfl,?_⟩;replace BK17:=aM (bB BK17.out hb);replace HB:=aM (below_step bw hb);(try clear hb);have hcz10_0:=cz BK17.out 0;have hcz10_1:=cz BK17.out 1;have hfz10_0:=blk_frozen BK17.out 0;have hfz10_1:=blk_frozen BK17.out 1)|((with_reducible refine gate_callee (f:=29) rfl ?_);refine gL 12 Tryz.func29 #[.agg #[.int .i64 a0_0,.slice A0_1 l0_1.length c0_1],.slice A1 l1.length c1] ?_;(with_reducible refine (impl_councilVotes.calls k a0_0 _ _ l0_1 _ _ l1 t19 t20 _ ?side1 ?side2 ?side3 ?side4 A5.out).mono ?_);(case side1=>exact qcs HR0_1.out HB.out);(case side2=>exact HC0_1.out);(case side3=>exact qcs HR1.out HB.out);(case side4=>exact HC1.out);rintro e w11 ⟨v21,rfl,ho0,hb⟩;refine ⟨_,rfl,?_⟩;have HO22:=aM (Kd.R_lower ho0 (below_size bw));replace BK17:=aM (bB BK17.out hb);replace HB:=aM (below_step bw hb);(try clear hb);(try clear ho0);obtain ⟨Ao12,co12,eo12⟩:=Kd.R_slice HO22.out;subst eo12)|((with_reducible refine gate_callee (f:=38) rfl ?_);refine gL 13 Tryz.func38 #[.agg #[.int .i64 t19,.slice Ao12 t20.length co12]] ?_;(with_reducible refine (impl_votes_countWins.calls k t19 _ _ t20 t23 _ ?side1 ?side2 A6.out).mono ?_);(case side1=>exact qc (Kd.R_reads' HO22.out).2.2);(case side2=>exact (Kd.R_reads' HO22.out).2.1);rintro e w13 ⟨rfl,hb⟩;refine ⟨_,rfl,?_⟩;replace HO22:=aM (Kd.R_below (qra HO22.out) hb);replace BK17:=aM (bB BK17.out hb);replace HB:=aM (below_step bw hb);(try clear hb)))
  go_ret2
  exact ⟨eE,by exact bw⟩
 ·replace c4:=Bool.eq_false_iff.mpr c4;subst c4;rw [if_neg (show ¬ (false = true) by decide)] at H;simp only [Option.some.injEq,Prod.mk.injEq] at H;obtain ⟨rfl,rfl⟩:=H;go_enter Tryz.func8,Tryz.ntmps8;go_wp2_with (first|((with_reducible refine gate_dst (N:=2) rfl ?_);refine bE 2 #[.int .i64 a0_0,.slice A0_1 l0_1.length c0_1] 24 ?_;intro gb17 hg w14 hbox hb;have BK17:=aM (hbox);have GW17:=aM (gS hg);have GE17:=aM (gS hg);replace HB:=aM (below_step bw hb);clear hb hbox hg;have hcz15_0:=cz BK17.out 0;have hcz15_1:=cz BK17.out 1;have hfz15_0:=blk_frozen BK17.out 0;have hfz15_1:=blk_frozen BK17.out 1)|((with_reducible refine gate_callee (f:=12) rfl ?_);refine gL 8 Tryz.func12 #[.agg #[.int .i64 a0_0,.slice A0_1 l0_1.length c0_1],.slice A1 l1.length c1] ?_;(with_reducible refine (impl_AreCouncil.calls k a0_0 _ _ l0_1 _ _ l1 false _ ?side1 ?side2 ?side3 ?side4 A3.out).mono ?_);(case side1=>exact qcs HR0_1.out HB.out);(case side2=>exact HC0_1.out);(case side3=>exact qcs HR1.out HB.out);(case side4=>exact HC1.out);rintro e w16 ⟨rfl,hb⟩;refine ⟨_,rfl,?_⟩;replace BK17:=aM (bB BK17.out hb);replace HB:=aM (below_step bw hb);(try clear hb)))
  go_ret2
  exact ⟨eE,by exact bw⟩


/-! ### spec_CountCouncilWins: function 9 -/
def spec_CountCouncilWins.l0:Nat → Int → List Bool → Int → Int → Option (Int × Bool)
 | 0,_,_,_,_=>none
 | k + 1,x6,x15,x16,x17=>if x17 < x16 then (if 0 ≤ x17 then (if x17 < (x15.length:Int) then (if rdOf false x15 x17 = true then (spec_CountCouncilWins.l0 k (wrap64 (x6 + 1)) x15 x16 (wrap64 (x17 + 1))) else (spec_CountCouncilWins.l0 k x6 x15 x16 (wrap64 (x17 + 1)))) else (none)) else (none)) else (some (x6,true))
def spec_CountCouncilWins.f (k:Nat) (a0_0:Int) (l0_1:List Int) (l1:List (S_impl_Committee)):Option (Int × Bool):=(spec_AreCouncil.f k a0_0 l0_1 l1).bind fun t2=>(if t2 = true then ((spec_chCouncil.f k a0_0 l0_1 l1).bind fun t3=>(spec_CountCouncilWins.l0 k 0 t3 (t3.length:Int) 0)) else (some (0,false)))
set_option maxHeartbeats 8000000 in
set_option maxRecDepth 100000 in
theorem spec_CountCouncilWins.calls (k:Nat) (a0_0:Int) (A0_1:Option Addr) (c0_1:Nat) (l0_1:List Int) (A1:Option Addr) (c1:Nat) (l1:List (S_impl_Committee)) (r1:Int) (r2:Bool) (w:World) (hr0_1:Kd.C (Kd.int .i64) w A0_1 l0_1.length l0_1) (hc0_1:l0_1.length ≤ c0_1) (hr1:Kd.C k_impl_Committee w A1 l1.length l1) (hc1:l1.length ≤ c1) (h:spec_CountCouncilWins.f k a0_0 l0_1 l1 = some (r1,r2)) :
  Calls Tryz.prog 9 #[.agg #[.int .i64 a0_0,.slice A0_1 l0_1.length c0_1],.slice A1 l1.length c1] w fun e w'=>e = .returned (.tuple #[.int .i64 r1,.bool r2]) ∧ Below w.heap.size w w':=by
 have hu24:=Tryz.underlying24;have HR0_1:=aM hr0_1;have HC0_1:=aM hc0_1;clear hr0_1 hc0_1;have HR1:=aM hr1;have HC1:=aM hc1;clear hr1 hc1;have HB:=aM (Below.refl w.heap.size w);have H:((spec_AreCouncil.f k a0_0 l0_1 l1).bind fun t21=>(if t21 = true then ((spec_chCouncil.f k a0_0 l0_1 l1).bind fun t22=>(spec_CountCouncilWins.l0 k 0 t22 (t22.length:Int) 0)) else (some (0,false)))) = some (r1,r2):=h;clear h;replace H:=oB H;obtain ⟨t21,A3,H⟩:=H;(try dsimp only at H)
 by_cases c4:t21 = true
 ·subst c4;rw [if_pos rfl] at H;replace H:=oB H;obtain ⟨t22,A5,H⟩:=H;(try dsimp only at H)
  have H':=aM H;clear H;go_enter Tryz.func9,Tryz.ntmps9;go_wp2_with (first|((with_reducible refine gate_dst (N:=2) rfl ?_);refine bE 2 #[.int .i64 a0_0,.slice A0_1 l0_1.length c0_1] 24 ?_;intro gb20 hg w6 hbox hb;have BK20:=aM (hbox);have GW20:=aM (gS hg);have GE20:=aM (gS hg);replace HB:=aM (below_step bw hb);clear hb hbox hg;have hcz7_0:=cz BK20.out 0;have hcz7_1:=cz BK20.out 1;have hfz7_0:=blk_frozen BK20.out 0;have hfz7_1:=blk_frozen BK20.out 1)|((with_reducible refine gate_callee (f:=13) rfl ?_);refine gL 11 Tryz.func13 #[.agg #[.int .i64 a0_0,.slice A0_1 l0_1.length c0_1],.slice A1 l1.length c1] ?_;(with_reducible refine (spec_AreCouncil.calls k a0_0 _ _ l0_1 _ _ l1 true _ ?side1 ?side2 ?side3 ?side4 A3.out).mono ?_);(case side1=>exact qcs HR0_1.out HB.out);(case side2=>exact HC0_1.out);(case side3=>exact qcs HR1.out HB.out);(case side4=>exact HC1.out);rintro e w8 ⟨rfl,hb⟩;refine ⟨_,rfl,?_⟩;replace BK20:=aM (bB BK20.out hb);replace HB:=aM (below_step bw hb);(try clear hb);have hcz9_0:=cz BK20.out 0;have hcz9_1:=cz BK20.out 1;have hfz9_0:=blk_frozen BK20.out 0;have hfz9_1:=blk_frozen BK20.out 1)|((with_reducible refine gate_callee (f:=33) rfl ?_);refine gL 15 Tryz.func33 #[.agg #[.int .i64 a0_0,.slice A0_1 l0_1.length c0_1],.slice A1 l1.length c1] ?_;(with_reducible refine (spec_chCouncil.calls k a0_0 _ _ l0_1 _ _ l1 t22 _ ?side1 ?side2 ?side3 ?side4 A5.out).mono ?_);(case side1=>exact qcs HR0_1.out HB.out);(case side2=>exact HC0_1.out);(case side3=>exact qcs HR1.out HB.out);(case side4=>exact HC1.out);rintro e w10 ⟨v23,rfl,ho0,hb⟩;refine ⟨_,rfl,?_⟩;have HO25:=aM (Kd.R_lower ho0 (below_size bw));replace BK20:=aM (bB BK20.out hb);replace HB:=aM (below_step bw hb);(try clear hb);(try clear ho0);obtain ⟨Ao11,co11,eo11⟩:=Kd.R_slice HO25.out;subst eo11))
  go_loopg [6,17] k (fun kq v6 v17 w'=>∃ (x6_1:Int) (x17_1:Int),v6 = .int .i64 x6_1 ∧ v17 = .int .i64 x17_1 ∧ Aside0 (spec_CountCouncilWins.l0 kq x6_1 t22 (t22.length:Int) x17_1 = some (r1,r2)) ∧ Aside0 (kq ≤ k) ∧ Aside0 (Kd.R Kd.bool 4 w' w.heap.size (fun _=>True) (.slice Ao11 t22.length co11) t22) ∧ Aside0 (w'.heap[gb20]? = some (.cells #[.int .i64 a0_0,(.slice A0_1 l0_1.length c0_1)] 24 (0,0))) ∧ Aside0 (Below w.heap.size w w'))
  case atStart=>exact ⟨(0),(0),qrs,qrs,H',⟨Nat.le_refl _⟩,⟨qra HO25.out⟩,⟨bk1 BK20.out⟩,⟨by exact bw⟩⟩
  case round =>
   clear H';(try clear c1);(try clear c4);(try clear hcz7_0);(try clear hcz7_1);(try clear hcz9_0);(try clear hcz9_1);(try clear hfz7_0);(try clear hfz7_1);(try clear hfz9_0);(try clear hfz9_1)
   obtain ⟨x6_1,x17_1,rfl,rfl,HA,HK1,HO_15,BK20,HB⟩:=hrel
   cases gk with
   | zero=>exact absurd HA.out (by simp [spec_CountCouncilWins.l0])
   | succ k1 =>
    have H:=HA.out;clear HA;simp only [spec_CountCouncilWins.l0] at H;by_cases c12:x17_1 < (t22.length:Int)
    ·rw [if_pos c12] at H;have c12b0:=decide_eq_true c12;clear c12;replace H:=iN H;obtain ⟨c13,H⟩:=H;have c13b0:decide (0 ≤ x17_1) = true:=decide_eq_true c13;clear c13;replace H:=iN H;obtain ⟨c14,H⟩:=H;have c14b0:decide (x17_1 < (t22.length:Int)) = true:=decide_eq_true c14;clear c14;obtain ⟨bq15,hbq15⟩:∃ b_:Bool,b_ = (rdOf false t22 x17_1):=⟨_,rfl⟩;rw [← hbq15] at H;have Nbq15:=aM hbq15;clear hbq15;by_cases c16:bq15 = true
     ·subst c16;rw [if_pos rfl] at H;have H':=aM H;clear H;have p26:0 ≤ (x17_1:Int):=of_decide_eq_true ab;have q26:x17_1 < (t22.length:Int):=of_decide_eq_true ab;obtain ⟨ad26,e26,hx26_0⟩:=Kd.at_bool (Kd.R_reads' HO_15.out).2.2 x17_1 p26 q26;(try rw [← Nbq15.out] at hx26_0)
      cases e26
      replace p26:=eq_true p26;replace q26:=eq_true q26;go_wp2
      go_roundg k1
      case measure=>have:=HK1.out;omega
      case rel=>exact ⟨(wrap64 (x6_1 + 1)),(wrap64 (x17_1 + 1)),qrs,qrs,H',⟨by have:=HK1.out;omega⟩,⟨qra HO_15.out⟩,⟨bk1 BK20.out⟩,⟨by exact bw⟩⟩
     ·replace c16:=Bool.eq_false_iff.mpr c16;subst c16;rw [if_neg (show ¬ (false = true) by decide)] at H;have H':=aM H;clear H;have p26:0 ≤ (x17_1:Int):=of_decide_eq_true ab;have q26:x17_1 < (t22.length:Int):=of_decide_eq_true ab;obtain ⟨ad26,e26,hx26_0⟩:=Kd.at_bool (Kd.R_reads' HO_15.out).2.2 x17_1 p26 q26;(try rw [← Nbq15.out] at hx26_0)
      cases e26
      replace p26:=eq_true p26;replace q26:=eq_true q26;go_wp2
      go_roundg k1
      case measure=>have:=HK1.out;omega
      case rel=>exact ⟨(x6_1),(wrap64 (x17_1 + 1)),qrs,qrs,H',⟨by have:=HK1.out;omega⟩,⟨qra HO_15.out⟩,⟨bk1 BK20.out⟩,⟨by exact bw⟩⟩
    ·rw [if_neg c12] at H;have c12b0:=decide_eq_false c12;clear c12;simp only [Option.some.injEq,Prod.mk.injEq] at H;obtain ⟨rfl,rfl⟩:=H;go_wp2
     go_ret2
     exact ⟨eE,by exact bw⟩
 ·replace c4:=Bool.eq_false_iff.mpr c4;subst c4;rw [if_neg (show ¬ (false = true) by decide)] at H;simp only [Option.some.injEq,Prod.mk.injEq] at H;obtain ⟨rfl,rfl⟩:=H;go_enter Tryz.func9,Tryz.ntmps9;go_wp2_with (first|((with_reducible refine gate_dst (N:=2) rfl ?_);refine bE 2 #[.int .i64 a0_0,.slice A0_1 l0_1.length c0_1] 24 ?_;intro gb20 hg w17 hbox hb;have BK20:=aM (hbox);have GW20:=aM (gS hg);have GE20:=aM (gS hg);replace HB:=aM (below_step bw hb);clear hb hbox hg;have hcz18_0:=cz BK20.out 0;have hcz18_1:=cz BK20.out 1;have hfz18_0:=blk_frozen BK20.out 0;have hfz18_1:=blk_frozen BK20.out 1)|((with_reducible refine gate_callee (f:=13) rfl ?_);refine gL 11 Tryz.func13 #[.agg #[.int .i64 a0_0,.slice A0_1 l0_1.length c0_1],.slice A1 l1.length c1] ?_;(with_reducible refine (spec_AreCouncil.calls k a0_0 _ _ l0_1 _ _ l1 false _ ?side1 ?side2 ?side3 ?side4 A3.out).mono ?_);(case side1=>exact qcs HR0_1.out HB.out);(case side2=>exact HC0_1.out);(case side3=>exact qcs HR1.out HB.out);(case side4=>exact HC1.out);rintro e w19 ⟨rfl,hb⟩;refine ⟨_,rfl,?_⟩;replace BK20:=aM (bB BK20.out hb);replace HB:=aM (below_step bw hb);(try clear hb)))
  go_ret2
  exact ⟨eE,by exact bw⟩


/-! ### laws_mSame: function 68 -/
def laws_mSame.l0:Nat → List Int → List Int → Int → Int → Option (Bool)
 | 0,_,_,_,_=>none
 | k + 1,x0,x1,x12,x13=>if x13 < x12 then (if 0 ≤ x13 then (if x13 < (x0.length:Int) then (if x13 < (x1.length:Int) then (if (rd x0 x13) = (rd x1 x13) then (laws_mSame.l0 k x0 x1 x12 (wrap64 (x13 + 1))) else (some false)) else (none)) else (none)) else (none)) else (some true)
def laws_mSame.f (k:Nat) (l0:List Int) (l1:List Int):Option (Bool):=if (l0.length:Int) = (l1.length:Int) then (laws_mSame.l0 k l0 l1 (l0.length:Int) 0) else (some false)
set_option maxHeartbeats 8000000 in
set_option maxRecDepth 100000 in
theorem laws_mSame.calls (k:Nat) (A0:Option Addr) (c0:Nat) (l0:List Int) (A1:Option Addr) (c1:Nat) (l1:List Int) (r:Bool) (w:World) (hr0:Kd.C (Kd.int .i64) w A0 l0.length l0) (hc0:l0.length ≤ c0) (hr1:Kd.C (Kd.int .i64) w A1 l1.length l1) (hc1:l1.length ≤ c1) (h:laws_mSame.f k l0 l1 = some r) :
  Calls Tryz.prog 68 #[.slice A0 l0.length c0,.slice A1 l1.length c1] w fun e w'=>e = .returned (.bool r) ∧ Drawn0 w w':=by
 have HR0:=aM hr0;have HC0:=aM hc0;clear hr0 hc0;have HR1:=aM hr1;have HC1:=aM hc1;clear hr1 hc1;have H:(if (l0.length:Int) = (l1.length:Int) then (laws_mSame.l0 k l0 l1 (l0.length:Int) 0) else (some false)) = some r:=h;clear h;by_cases c3:(l0.length:Int) = (l1.length:Int)
 ·rw [if_pos c3] at H;have c3b0:((l0.length:Int) == (l1.length:Int)) = true:=beq_iff_eq.mpr c3;have c3b1:((l0.length:Int) != (l1.length:Int)) = false:=bne_eq_false_iff_eq.mpr c3;have c3b2:(l0.length == l1.length) = true:=by first|simpa using c3|(simp at c3 ⊢;omega)
  clear c3;have H':=aM H;clear H;go_enter Tryz.func68,Tryz.ntmps68;go_wp2
  repeat (go_quiet (fail);try go_wp2)
  go_loopg [13] k (fun kq v13 w'=>∃ (x13_1:Int),v13 = .int .i64 x13_1 ∧ Aside0 (laws_mSame.l0 kq l0 l1 (l0.length:Int) x13_1 = some r) ∧ Aside0 (kq ≤ k) ∧ Drawn0 w w')
  case atStart=>exact ⟨(0),qrs,H',⟨Nat.le_refl _⟩,by repeat (first|exact Drawn0.refl _|apply Drawn0.step)⟩
  case round =>
   clear H';(try clear c1);(try clear c3);(try clear c3b0);(try clear c3b1);(try clear c3b2)
   obtain ⟨x13_1,rfl,HA,HK1,⟨m1,rfl⟩⟩:=hrel
   cases gk with
   | zero=>exact absurd HA.out (by simp [laws_mSame.l0])
   | succ k1 =>
    have H:=HA.out;clear HA;simp only [laws_mSame.l0] at H;by_cases c4:x13_1 < (l0.length:Int)
    ·rw [if_pos c4] at H;have c4b0:=decide_eq_true c4;clear c4;replace H:=iN H;obtain ⟨c5,H⟩:=H;have c5b0:decide (0 ≤ x13_1) = true:=decide_eq_true c5;clear c5;replace H:=iN H;obtain ⟨c6,H⟩:=H;have c6b0:decide (x13_1 < (l0.length:Int)) = true:=decide_eq_true c6;clear c6;replace H:=iN H;obtain ⟨c7,H⟩:=H;have c7b0:decide (x13_1 < (l1.length:Int)) = true:=decide_eq_true c7;clear c7;by_cases c8:(rd l0 x13_1) = (rd l1 x13_1)
     ·rw [if_pos c8] at H;have c8b0:((rd l0 x13_1) == (rd l1 x13_1)) = true:=beq_iff_eq.mpr c8;have c8b1:((rd l0 x13_1) != (rd l1 x13_1)) = false:=bne_eq_false_iff_eq.mpr c8;clear c8;have H':=aM H;clear H;have p9:0 ≤ (x13_1:Int):=of_decide_eq_true ab;have q9:x13_1 < (l0.length:Int):=of_decide_eq_true ab;obtain ⟨ad9,e9,hx9_0⟩:=Kd.at_int HR0.out x13_1 p9 q9;cases e9
      replace p9:=eq_true p9;replace q9:=eq_true q9;have p10:0 ≤ (x13_1:Int):=of_decide_eq_true ab;have q10:x13_1 < (l1.length:Int):=of_decide_eq_true ab;obtain ⟨ad10,e10,hx10_0⟩:=Kd.at_int HR1.out x13_1 p10 q10;cases e10
      replace p10:=eq_true p10;replace q10:=eq_true q10;go_wp2
      repeat (go_quiet (fail);try go_wp2)
      go_roundg k1
      case measure=>have:=HK1.out;omega
      case rel=>exact ⟨(wrap64 (x13_1 + 1)),qrs,H',⟨by have:=HK1.out;omega⟩,by repeat (first|exact Drawn0.refl _|apply Drawn0.step)⟩
     ·rw [if_neg c8] at H;have c8b0:((rd l0 x13_1) == (rd l1 x13_1)) = false:=beq_eq_false_iff_ne.mpr c8;have c8b1:((rd l0 x13_1) != (rd l1 x13_1)) = true:=bne_iff_ne.mpr c8;obtain rfl:=Option.some.inj H;have p9:0 ≤ (x13_1:Int):=of_decide_eq_true ab;have q9:x13_1 < (l0.length:Int):=of_decide_eq_true ab;obtain ⟨ad9,e9,hx9_0⟩:=Kd.at_int HR0.out x13_1 p9 q9;cases e9
      replace p9:=eq_true p9;replace q9:=eq_true q9;have p10:0 ≤ (x13_1:Int):=of_decide_eq_true ab;have q10:x13_1 < (l1.length:Int):=of_decide_eq_true ab;obtain ⟨ad10,e10,hx10_0⟩:=Kd.at_int HR1.out x13_1 p10 q10;cases e10
      replace p10:=eq_true p10;replace q10:=eq_true q10;go_wp2
      repeat (go_quiet (fail);try go_wp2)
      go_ret
      exact ⟨qrs,dR⟩
    ·rw [if_neg c4] at H;have c4b0:=decide_eq_false c4;clear c4;obtain rfl:=Option.some.inj H;go_wp2
     repeat (go_quiet (fail);try go_wp2)
     go_ret
     exact ⟨qrs,dR⟩
 ·rw [if_neg c3] at H;have c3b0:((l0.length:Int) == (l1.length:Int)) = false:=beq_eq_false_iff_ne.mpr c3;have c3b1:((l0.length:Int) != (l1.length:Int)) = true:=bne_iff_ne.mpr c3;have c3b2:(l0.length == l1.length) = false:=by first|simpa using c3|(simp at c3 ⊢;omega)
  obtain rfl:=Option.some.inj H;go_enter Tryz.func68,Tryz.ntmps68;go_wp2
  repeat (go_quiet (fail);try go_wp2)
  go_ret
  exact ⟨qrs,dR⟩


/-! ### laws_mSets: function 39 -/
def laws_mSets.l0:Nat → List (List Int) → List (List Int) → Int → Int → Option (Bool)
 | 0,_,_,_,_=>none
 | k + 1,x0,x1,x12,x13=>if x13 < x12 then (if 0 ≤ x13 then (if x13 < (x0.length:Int) then (if x13 < (x1.length:Int) then ((laws_mSame.f k (rd_LI x0 x13) (rd_LI x1 x13)).bind fun t2=>(if t2 = true then (laws_mSets.l0 k x0 x1 x12 (wrap64 (x13 + 1))) else (some false))) else (none)) else (none)) else (none)) else (some true)
def laws_mSets.f (k:Nat) (l0:List (List Int)) (l1:List (List Int)):Option (Bool):=if (l0.length:Int) = (l1.length:Int) then (laws_mSets.l0 k l0 l1 (l0.length:Int) 0) else (some false)
set_option maxHeartbeats 8000000 in
set_option maxRecDepth 100000 in
theorem laws_mSets.calls (k:Nat) (A0:Option Addr) (c0:Nat) (l0:List (List Int)) (A1:Option Addr) (c1:Nat) (l1:List (List Int)) (r:Bool) (w:World) (hr0:Kd.C (Kd.slice 3 (Kd.int .i64)) w A0 l0.length l0) (hc0:l0.length ≤ c0) (hr1:Kd.C (Kd.slice 3 (Kd.int .i64)) w A1 l1.length l1) (hc1:l1.length ≤ c1) (h:laws_mSets.f k l0 l1 = some r) :
  Calls Tryz.prog 39 #[.slice A0 l0.length c0,.slice A1 l1.length c1] w fun e w'=>e = .returned (.bool r) ∧ Drawn0 w w':=by
 have HR0:=aM hr0;have HC0:=aM hc0;clear hr0 hc0;have HR1:=aM hr1;have HC1:=aM hc1;clear hr1 hc1;have H:(if (l0.length:Int) = (l1.length:Int) then (laws_mSets.l0 k l0 l1 (l0.length:Int) 0) else (some false)) = some r:=h;clear h;by_cases c3:(l0.length:Int) = (l1.length:Int)
 ·rw [if_pos c3] at H;have c3b0:((l0.length:Int) == (l1.length:Int)) = true:=beq_iff_eq.mpr c3;have c3b1:((l0.length:Int) != (l1.length:Int)) = false:=bne_eq_false_iff_eq.mpr c3;have c3b2:(l0.length == l1.length) = true:=by first|simpa using c3|(simp at c3 ⊢;omega)
  clear c3;have H':=aM H;clear H;go_enter Tryz.func39,Tryz.ntmps39;go_wp2
  repeat (go_quiet (fail);try go_wp2)
  go_loopg [13] k (fun kq v13 w'=>∃ (x13_1:Int),v13 = .int .i64 x13_1 ∧ Aside0 (laws_mSets.l0 kq l0 l1 (l0.length:Int) x13_1 = some r) ∧ Aside0 (kq ≤ k) ∧ Drawn0 w w')
  case atStart=>exact ⟨(0),qrs,H',⟨Nat.le_refl _⟩,by repeat (first|exact Drawn0.refl _|apply Drawn0.step)⟩
  case round =>
   clear H';(try clear c1);(try clear c3);(try clear c3b0);(try clear c3b1);(try clear c3b2)
   obtain ⟨x13_1,rfl,HA,HK1,⟨m1,rfl⟩⟩:=hrel
   cases gk with
   | zero=>exact absurd HA.out (by simp [laws_mSets.l0])
   | succ k1 =>
    have H:=HA.out;clear HA;simp only [laws_mSets.l0] at H;by_cases c4:x13_1 < (l0.length:Int)
    ·rw [if_pos c4] at H;have c4b0:=decide_eq_true c4;clear c4;replace H:=iN H;obtain ⟨c5,H⟩:=H;have c5b0:decide (0 ≤ x13_1) = true:=decide_eq_true c5;clear c5;replace H:=iN H;obtain ⟨c6,H⟩:=H;have c6b0:decide (x13_1 < (l0.length:Int)) = true:=decide_eq_true c6;clear c6;replace H:=iN H;obtain ⟨c7,H⟩:=H;have c7b0:decide (x13_1 < (l1.length:Int)) = true:=decide_eq_true c7;clear c7;replace H:=oB H;obtain ⟨t12,A8,H⟩:=H;(try dsimp only at H)
     by_cases c9:t12 = true
     ·subst c9;rw [if_pos rfl] at H;have H':=aM H;clear H;have p10:0 ≤ (x13_1:Int):=of_decide_eq_true ab;have q10:x13_1 < (l0.length:Int):=of_decide_eq_true ab;obtain ⟨ad10,A10_0,c359_0,e10,hx10_0,hl10_0,hi10_0⟩:=at_LI HR0.out x13_1 p10 q10;cases e10
      have HR10_0:=aM hi10_0;have HC10_0:=aM hl10_0;clear hi10_0 hl10_0;replace p10:=eq_true p10;replace q10:=eq_true q10;have p11:0 ≤ (x13_1:Int):=of_decide_eq_true ab;have q11:x13_1 < (l1.length:Int):=of_decide_eq_true ab;obtain ⟨ad11,A11_0,c360_0,e11,hx11_0,hl11_0,hi11_0⟩:=at_LI HR1.out x13_1 p11 q11;cases e11
      have HR11_0:=aM hi11_0;have HC11_0:=aM hl11_0;clear hi11_0 hl11_0;replace p11:=eq_true p11;replace q11:=eq_true q11;go_wp2_with (first|(go_at_call 68;(with_reducible refine (laws_mSame.calls k1 _ _ (rd_LI l0 x13_1) _ _ (rd_LI l1 x13_1) true _ ?side1 ?side2 ?side3 ?side4 A8.out).mono ?_);(case side1=>exact qc HR10_0.out);(case side2=>exact HC10_0.out);(case side3=>exact qc HR11_0.out);(case side4=>exact HC11_0.out);rintro e w' ⟨rfl,⟨nd,rfl⟩⟩;(try exact dW)))
      repeat (go_quiet (first|(go_at_call 68;(with_reducible refine (laws_mSame.calls k1 _ _ (rd_LI l0 x13_1) _ _ (rd_LI l1 x13_1) true _ ?side1 ?side2 ?side3 ?side4 A8.out).mono ?_);(case side1=>exact qc HR10_0.out);(case side2=>exact HC10_0.out);(case side3=>exact qc HR11_0.out);(case side4=>exact HC11_0.out);rintro e w' ⟨rfl,⟨nd,rfl⟩⟩;(try exact dW)));try go_wp2_with (first|(go_at_call 68;(with_reducible refine (laws_mSame.calls k1 _ _ (rd_LI l0 x13_1) _ _ (rd_LI l1 x13_1) true _ ?side1 ?side2 ?side3 ?side4 A8.out).mono ?_);(case side1=>exact qc HR10_0.out);(case side2=>exact HC10_0.out);(case side3=>exact qc HR11_0.out);(case side4=>exact HC11_0.out);rintro e w' ⟨rfl,⟨nd,rfl⟩⟩;(try exact dW))))
      go_roundg k1
      case measure=>have:=HK1.out;omega
      case rel=>exact ⟨(wrap64 (x13_1 + 1)),qrs,H',⟨by have:=HK1.out;omega⟩,by repeat (first|exact Drawn0.refl _|apply Drawn0.step)⟩
     ·replace c9:=Bool.eq_false_iff.mpr c9;subst c9;rw [if_neg (show ¬ (false = true) by decide)] at H;obtain rfl:=Option.some.inj H;have p10:0 ≤ (x13_1:Int):=of_decide_eq_true ab;have q10:x13_1 < (l0.length:Int):=of_decide_eq_true ab;obtain ⟨ad10,A10_0,c359_0,e10,hx10_0,hl10_0,hi10_0⟩:=at_LI HR0.out x13_1 p10 q10;cases e10
      have HR10_0:=aM hi10_0;have HC10_0:=aM hl10_0;clear hi10_0 hl10_0;replace p10:=eq_true p10;replace q10:=eq_true q10;have p11:0 ≤ (x13_1:Int):=of_decide_eq_true ab;have q11:x13_1 < (l1.length:Int):=of_decide_eq_true ab;obtain ⟨ad11,A11_0,c360_0,e11,hx11_0,hl11_0,hi11_0⟩:=at_LI HR1.out x13_1 p11 q11;cases e11
      have HR11_0:=aM hi11_0;have HC11_0:=aM hl11_0;clear hi11_0 hl11_0;replace p11:=eq_true p11;replace q11:=eq_true q11;go_wp2_with (first|(go_at_call 68;(with_reducible refine (laws_mSame.calls k1 _ _ (rd_LI l0 x13_1) _ _ (rd_LI l1 x13_1) false _ ?side1 ?side2 ?side3 ?side4 A8.out).mono ?_);(case side1=>exact qc HR10_0.out);(case side2=>exact HC10_0.out);(case side3=>exact qc HR11_0.out);(case side4=>exact HC11_0.out);rintro e w' ⟨rfl,⟨nd,rfl⟩⟩;(try exact dW)))
      repeat (go_quiet (first|(go_at_call 68;(with_reducible refine (laws_mSame.calls k1 _ _ (rd_LI l0 x13_1) _ _ (rd_LI l1 x13_1) false _ ?side1 ?side2 ?side3 ?side4 A8.out).mono ?_);(case side1=>exact qc HR10_0.out);(case side2=>exact HC10_0.out);(case side3=>exact qc HR11_0.out);(case side4=>exact HC11_0.out);rintro e w' ⟨rfl,⟨nd,rfl⟩⟩;(try exact dW)));try go_wp2_with (first|(go_at_call 68;(with_reducible refine (laws_mSame.calls k1 _ _ (rd_LI l0 x13_1) _ _ (rd_LI l1 x13_1) false _ ?side1 ?side2 ?side3 ?side4 A8.out).mono ?_);(case side1=>exact qc HR10_0.out);(case side2=>exact HC10_0.out);(case side3=>exact qc HR11_0.out);(case side4=>exact HC11_0.out);rintro e w' ⟨rfl,⟨nd,rfl⟩⟩;(try exact dW))))
      go_ret
      exact ⟨qrs,dR⟩
    ·rw [if_neg c4] at H;have c4b0:=decide_eq_false c4;clear c4;obtain rfl:=Option.some.inj H;go_wp2
     repeat (go_quiet (fail);try go_wp2)
     go_ret
     exact ⟨qrs,dR⟩
 ·rw [if_neg c3] at H;have c3b0:((l0.length:Int) == (l1.length:Int)) = false:=beq_eq_false_iff_ne.mpr c3;have c3b1:((l0.length:Int) != (l1.length:Int)) = true:=bne_iff_ne.mpr c3;have c3b2:(l0.length == l1.length) = false:=by first|simpa using c3|(simp at c3 ⊢;omega)
  obtain rfl:=Option.some.inj H;go_enter Tryz.func39,Tryz.ntmps39;go_wp2
  repeat (go_quiet (fail);try go_wp2)
  go_ret
  exact ⟨qrs,dR⟩


/-! ### laws_mGame: function 10 -/
def laws_mGame.f (k:Nat) (a0_0:Int) (l0_1:List (List Int)) (a1_0:Int) (l1_1:List (List Int)):Option (Bool):=if a0_0 = a1_0 then ((laws_mSets.f k l0_1 l1_1).bind fun t2=>(some t2)) else (some false)
set_option maxHeartbeats 8000000 in
set_option maxRecDepth 100000 in
theorem laws_mGame.calls (k:Nat) (a0_0:Int) (A0_1:Option Addr) (c0_1:Nat) (l0_1:List (List Int)) (a1_0:Int) (A1_1:Option Addr) (c1_1:Nat) (l1_1:List (List Int)) (r:Bool) (w:World) (hr0_1:Kd.C (Kd.slice 3 (Kd.int .i64)) w A0_1 l0_1.length l0_1) (hc0_1:l0_1.length ≤ c0_1) (hr1_1:Kd.C (Kd.slice 3 (Kd.int .i64)) w A1_1 l1_1.length l1_1) (hc1_1:l1_1.length ≤ c1_1) (h:laws_mGame.f k a0_0 l0_1 a1_0 l1_1 = some r) :
  Calls Tryz.prog 10 #[.agg #[.int .i64 a0_0,.slice A0_1 l0_1.length c0_1],.agg #[.int .i64 a1_0,.slice A1_1 l1_1.length c1_1]] w fun e w'=>e = .returned (.bool r) ∧ Below w.heap.size w w':=by
 have hu28:=Tryz.underlying28;have HR0_1:=aM hr0_1;have HC0_1:=aM hc0_1;clear hr0_1 hc0_1;have HR1_1:=aM hr1_1;have HC1_1:=aM hc1_1;clear hr1_1 hc1_1;have HB:=aM (Below.refl w.heap.size w);have H:(if a0_0 = a1_0 then ((laws_mSets.f k l0_1 l1_1).bind fun t17=>(some t17)) else (some false)) = some r:=h;clear h;by_cases c3:a0_0 = a1_0
 ·rw [if_pos c3] at H;have c3b0:(a0_0 == a1_0) = true:=beq_iff_eq.mpr c3;have c3b1:(a0_0 != a1_0) = false:=bne_eq_false_iff_eq.mpr c3;clear c3;replace H:=oB H;obtain ⟨t17,A4,H⟩:=H;(try dsimp only at H)
  obtain rfl:=Option.some.inj H;go_enter Tryz.func10,Tryz.ntmps10;go_wp2_with (first|((with_reducible refine gate_dst (N:=2) rfl ?_);refine bE 2 #[.int .i64 a0_0,.slice A0_1 l0_1.length c0_1] 28 ?_;intro gb15 hg w5 hbox hb;have BK15:=aM (hbox);have GW15:=aM (gS hg);have GE15:=aM (gS hg);replace HB:=aM (below_step bw hb);clear hb hbox hg)|((with_reducible refine gate_dst (N:=3) rfl ?_);refine bE 3 #[.int .i64 a1_0,.slice A1_1 l1_1.length c1_1] 28 ?_;intro gb16 hg w6 hbox hb;have BK16:=aM (hbox);have GW16:=aM (gS hg);have GE16:=aM (gS hg);replace HB:=aM (below_step bw hb);have NB15_16:=aM (nL BK15.out hg);have NB16_15:=aM (nR BK15.out hg);replace BK15:=aM (bB BK15.out hb);clear hb hbox hg;have hnb7:=NB15_16.out;have hnc7:=NB16_15.out;have hcz8_0:=cz BK15.out 0;have hcz8_1:=cz BK15.out 1;have hfz8_0:=blk_frozen BK15.out 0;have hfz8_1:=blk_frozen BK15.out 1;have hcz9_0:=cz BK16.out 0;have hcz9_1:=cz BK16.out 1;have hfz9_0:=blk_frozen BK16.out 0;have hfz9_1:=blk_frozen BK16.out 1)|(go_at_call 39;(with_reducible refine (laws_mSets.calls k _ _ l0_1 _ _ l1_1 t17 _ ?side1 ?side2 ?side3 ?side4 A4.out).mono ?_);(case side1=>exact qcs HR0_1.out HB.out);(case side2=>exact HC0_1.out);(case side3=>exact qcs HR1_1.out HB.out);(case side4=>exact HC1_1.out);rintro e w' ⟨rfl,⟨nd,rfl⟩⟩))
  go_ret
  exact ⟨eE,by exact bw⟩
 ·rw [if_neg c3] at H;have c3b0:(a0_0 == a1_0) = false:=beq_eq_false_iff_ne.mpr c3;have c3b1:(a0_0 != a1_0) = true:=bne_iff_ne.mpr c3;obtain rfl:=Option.some.inj H;go_enter Tryz.func10,Tryz.ntmps10;go_wp2_with (first|((with_reducible refine gate_dst (N:=2) rfl ?_);refine bE 2 #[.int .i64 a0_0,.slice A0_1 l0_1.length c0_1] 28 ?_;intro gb15 hg w10 hbox hb;have BK15:=aM (hbox);have GW15:=aM (gS hg);have GE15:=aM (gS hg);replace HB:=aM (below_step bw hb);clear hb hbox hg)|((with_reducible refine gate_dst (N:=3) rfl ?_);refine bE 3 #[.int .i64 a1_0,.slice A1_1 l1_1.length c1_1] 28 ?_;intro gb16 hg w11 hbox hb;have BK16:=aM (hbox);have GW16:=aM (gS hg);have GE16:=aM (gS hg);replace HB:=aM (below_step bw hb);have NB15_16:=aM (nL BK15.out hg);have NB16_15:=aM (nR BK15.out hg);replace BK15:=aM (bB BK15.out hb);clear hb hbox hg;have hnb12:=NB15_16.out;have hnc12:=NB16_15.out;have hcz13_0:=cz BK15.out 0;have hcz13_1:=cz BK15.out 1;have hfz13_0:=blk_frozen BK15.out 0;have hfz13_1:=blk_frozen BK15.out 1;have hcz14_0:=cz BK16.out 0;have hcz14_1:=cz BK16.out 1;have hfz14_0:=blk_frozen BK16.out 0;have hfz14_1:=blk_frozen BK16.out 1))
  go_ret
  exact ⟨eE,by exact bw⟩


theorem eqA44 (d:Nat) (w:World) (x0 y0:Int) (x1 y1:Int) :
  (Op.equalIn (d + 2) 44 (.agg #[.int .i64 x0,.int .i64 x1]) (.agg #[.int .i64 y0,.int .i64 y1])).run Tryz.prog w = .ok (x0 == y0 && (x1 == y1)) w:=by
 refine eqA_of Tryz.underlying44 kR ?_;refine eqf_cons (by rfl) (by go_simp;rfl) (by go_simp;rfl) (by go_simp) ?_;exact eqf_last (by rfl) (by go_simp;rfl) (by go_simp;rfl) (by go_simp)

attribute [local go_sem high] eqA44
/-! ### laws_mShares: function 11 -/
def laws_mShares.l0:Nat → List (S_impl_Share) → List (S_impl_Share) → Int → Int → Option (Bool)
 | 0,_,_,_,_=>none
 | k + 1,x0,x1,x12,x13=>if x13 < x12 then (if 0 ≤ x13 then (if x13 < (x0.length:Int) then (if x13 < (x1.length:Int) then (if (!(((rd_impl_Share x0 x13).f0) == ((rd_impl_Share x1 x13).f0)) || (!(((rd_impl_Share x0 x13).f1) == ((rd_impl_Share x1 x13).f1)))) = true then (some false) else (laws_mShares.l0 k x0 x1 x12 (wrap64 (x13 + 1)))) else (none)) else (none)) else (none)) else (some true)
def laws_mShares.f (k:Nat) (l0:List (S_impl_Share)) (l1:List (S_impl_Share)):Option (Bool):=if (l0.length:Int) = (l1.length:Int) then (laws_mShares.l0 k l0 l1 (l0.length:Int) 0) else (some false)
set_option maxHeartbeats 8000000 in
set_option maxRecDepth 100000 in
theorem laws_mShares.calls (k:Nat) (A0:Option Addr) (c0:Nat) (l0:List (S_impl_Share)) (A1:Option Addr) (c1:Nat) (l1:List (S_impl_Share)) (r:Bool) (w:World) (hr0:Kd.C k_impl_Share w A0 l0.length l0) (hc0:l0.length ≤ c0) (hr1:Kd.C k_impl_Share w A1 l1.length l1) (hc1:l1.length ≤ c1) (h:laws_mShares.f k l0 l1 = some r) :
  Calls Tryz.prog 11 #[.slice A0 l0.length c0,.slice A1 l1.length c1] w fun e w'=>e = .returned (.bool r) ∧ Drawn0 w w':=by
 have hu44:=Tryz.underlying44;have HR0:=aM hr0;have HC0:=aM hc0;clear hr0 hc0;have HR1:=aM hr1;have HC1:=aM hc1;clear hr1 hc1;have H:(if (l0.length:Int) = (l1.length:Int) then (laws_mShares.l0 k l0 l1 (l0.length:Int) 0) else (some false)) = some r:=h;clear h;by_cases c3:(l0.length:Int) = (l1.length:Int)
 ·rw [if_pos c3] at H;have c3b0:((l0.length:Int) == (l1.length:Int)) = true:=beq_iff_eq.mpr c3;have c3b1:((l0.length:Int) != (l1.length:Int)) = false:=bne_eq_false_iff_eq.mpr c3;have c3b2:(l0.length == l1.length) = true:=by first|simpa using c3|(simp at c3 ⊢;omega)
  clear c3;have H':=aM H;clear H;go_enter Tryz.func11,Tryz.ntmps11;go_wp2
  repeat (go_quiet (fail);try go_wp2)
  go_loopg [13] k (fun kq v13 w'=>∃ (x13_1:Int),v13 = .int .i64 x13_1 ∧ Aside0 (laws_mShares.l0 kq l0 l1 (l0.length:Int) x13_1 = some r) ∧ Aside0 (kq ≤ k) ∧ Drawn0 w w')
  case atStart=>exact ⟨(0),qrs,H',⟨Nat.le_refl _⟩,by repeat (first|exact Drawn0.refl _|apply Drawn0.step)⟩
  case round =>
   clear H';(try clear c1);(try clear c3);(try clear c3b0);(try clear c3b1);(try clear c3b2)
   obtain ⟨x13_1,rfl,HA,HK1,⟨m1,rfl⟩⟩:=hrel
   cases gk with
   | zero=>exact absurd HA.out (by simp [laws_mShares.l0])
   | succ k1 =>
    have H:=HA.out;clear HA;simp only [laws_mShares.l0] at H;by_cases c4:x13_1 < (l0.length:Int)
    ·rw [if_pos c4] at H;have c4b0:=decide_eq_true c4;clear c4;replace H:=iN H;obtain ⟨c5,H⟩:=H;have c5b0:decide (0 ≤ x13_1) = true:=decide_eq_true c5;clear c5;replace H:=iN H;obtain ⟨c6,H⟩:=H;have c6b0:decide (x13_1 < (l0.length:Int)) = true:=decide_eq_true c6;clear c6;replace H:=iN H;obtain ⟨c7,H⟩:=H;have c7b0:decide (x13_1 < (l1.length:Int)) = true:=decide_eq_true c7;clear c7;by_cases c8:(!(((rd_impl_Share l0 x13_1).f0) == ((rd_impl_Share l1 x13_1).f0)) || (!(((rd_impl_Share l0 x13_1).f1) == ((rd_impl_Share l1 x13_1).f1)))) = true
     ·rw [if_pos c8] at H;have c8b0:(!(((rd_impl_Share l0 x13_1).f0) == ((rd_impl_Share l1 x13_1).f0)) || (!(((rd_impl_Share l0 x13_1).f1) == ((rd_impl_Share l1 x13_1).f1)))) = true:=c8;clear c8;obtain rfl:=Option.some.inj H;have p9:0 ≤ (x13_1:Int):=of_decide_eq_true ab;have q9:x13_1 < (l0.length:Int):=of_decide_eq_true ab;obtain ⟨ad9,e9,hx9_0,hx9_1⟩:=at_impl_Share HR0.out x13_1 p9 q9;cases e9
      replace p9:=eq_true p9;replace q9:=eq_true q9;have p10:0 ≤ (x13_1:Int):=of_decide_eq_true ab;have q10:x13_1 < (l1.length:Int):=of_decide_eq_true ab;obtain ⟨ad10,e10,hx10_0,hx10_1⟩:=at_impl_Share HR1.out x13_1 p10 q10;cases e10
      replace p10:=eq_true p10;replace q10:=eq_true q10;go_wp2
      repeat (go_quiet (fail);try go_wp2)
      go_ret
      exact ⟨qrs,dR⟩
     ·rw [if_neg c8] at H;have c8b0:(!(((rd_impl_Share l0 x13_1).f0) == ((rd_impl_Share l1 x13_1).f0)) || (!(((rd_impl_Share l0 x13_1).f1) == ((rd_impl_Share l1 x13_1).f1)))) = false:=by simpa using c8
      clear c8;have H':=aM H;clear H;have p9:0 ≤ (x13_1:Int):=of_decide_eq_true ab;have q9:x13_1 < (l0.length:Int):=of_decide_eq_true ab;obtain ⟨ad9,e9,hx9_0,hx9_1⟩:=at_impl_Share HR0.out x13_1 p9 q9;cases e9
      replace p9:=eq_true p9;replace q9:=eq_true q9;have p10:0 ≤ (x13_1:Int):=of_decide_eq_true ab;have q10:x13_1 < (l1.length:Int):=of_decide_eq_true ab;obtain ⟨ad10,e10,hx10_0,hx10_1⟩:=at_impl_Share HR1.out x13_1 p10 q10;cases e10
      replace p10:=eq_true p10;replace q10:=eq_true q10;go_wp2
      repeat (go_quiet (fail);try go_wp2)
      go_roundg k1
      case measure=>have:=HK1.out;omega
      case rel=>exact ⟨(wrap64 (x13_1 + 1)),qrs,H',⟨by have:=HK1.out;omega⟩,by repeat (first|exact Drawn0.refl _|apply Drawn0.step)⟩
    ·rw [if_neg c4] at H;have c4b0:=decide_eq_false c4;clear c4;obtain rfl:=Option.some.inj H;go_wp2
     repeat (go_quiet (fail);try go_wp2)
     go_ret
     exact ⟨qrs,dR⟩
 ·rw [if_neg c3] at H;have c3b0:((l0.length:Int) == (l1.length:Int)) = false:=beq_eq_false_iff_ne.mpr c3;have c3b1:((l0.length:Int) != (l1.length:Int)) = true:=bne_iff_ne.mpr c3;have c3b2:(l0.length == l1.length) = false:=by first|simpa using c3|(simp at c3 ⊢;omega)
  obtain rfl:=Option.some.inj H;go_enter Tryz.func11,Tryz.ntmps11;go_wp2
  repeat (go_quiet (fail);try go_wp2)
  go_ret
  exact ⟨qrs,dR⟩


/-! ### slices_IndexFunc_LLint_int: function 93 -/
def slices_IndexFunc_LLint_int.l0:Nat → List (List Int) → (List Int → Option (Bool)) → Int → Int → Option (Int)
 | 0,_,_,_,_=>none
 | k + 1,x0,x1,x7,x8=>if x8 < x7 then (if 0 ≤ x8 then (if x8 < (x0.length:Int) then ((x1 (rd_LI x0 x8)).bind fun t2=>(if t2 = true then (some x8) else (slices_IndexFunc_LLint_int.l0 k x0 x1 x7 (wrap64 (x8 + 1))))) else (none)) else (none)) else (some (-1))
def slices_IndexFunc_LLint_int.f (k:Nat) (l0:List (List Int)) (a1:(List Int → Option (Bool))):Option (Int):=slices_IndexFunc_LLint_int.l0 k l0 a1 (l0.length:Int) 0
set_option maxHeartbeats 8000000 in
set_option maxRecDepth 100000 in
theorem slices_IndexFunc_LLint_int.calls (k:Nat) (A0:Option Addr) (c0:Nat) (l0:List (List Int)) (a1:(List Int → Option (Bool))) (g1_:Nat) (lb1_:Array Value) (eg1_:∀ (args:Array Value) (w:World),(callFunc g1_ args).run Tryz.prog w = .ok (.enter g1_ args) w) (r:Int) (w:World) (hr0:Kd.C (Kd.slice 3 (Kd.int .i64)) w A0 l0.length l0) (hc0:l0.length ≤ c0) (hp1:∀ (W:World) (A0_:Option Addr) (c0_:Nat) (l0_:List Int) (r0_:Bool),a1 l0_ = some r0_ → Below w.heap.size w W → Kd.C (Kd.int .i64) W A0_ l0_.length l0_ → l0_.length ≤ c0_ → Calls Tryz.prog g1_ (#[.slice A0_ l0_.length c0_] ++ lb1_) W fun e w'=>e = .returned (.bool r0_) ∧ Below W.heap.size W w') (h:slices_IndexFunc_LLint_int.f k l0 a1 = some r) :
  Calls Tryz.prog 93 #[.slice A0 l0.length c0,.func (.func g1_) #[] lb1_] w fun e w'=>e = .returned (.int .i64 r) ∧ Below w.heap.size w w':=by
 have HR0:=aM hr0;have HC0:=aM hc0;clear hr0 hc0;have HP1:=aM hp1;clear hp1;have HB:=aM (Below.refl w.heap.size w);have H:(slices_IndexFunc_LLint_int.l0 k l0 a1 (l0.length:Int) 0) = some r:=h;clear h;have H':=aM H;clear H;go_enter Tryz.func93,Tryz.ntmps93;go_wp2
 go_loopg [8] k (fun kq v8 w'=>∃ (x8_1:Int),v8 = .int .i64 x8_1 ∧ Aside0 (slices_IndexFunc_LLint_int.l0 kq l0 a1 (l0.length:Int) x8_1 = some r) ∧ Aside0 (kq ≤ k) ∧ Aside0 (Below w.heap.size w w'))
 case atStart=>exact ⟨(0),qrs,H',⟨Nat.le_refl _⟩,⟨by exact bw⟩⟩
 case round =>
  clear H';obtain ⟨x8_1,rfl,HA,HK1,HB⟩:=hrel
  cases gk with
  | zero=>exact absurd HA.out (by simp [slices_IndexFunc_LLint_int.l0])
  | succ k1 =>
   have H:=HA.out;clear HA;simp only [slices_IndexFunc_LLint_int.l0] at H;by_cases c3:x8_1 < (l0.length:Int)
   ·rw [if_pos c3] at H;have c3b0:=decide_eq_true c3;clear c3;replace H:=iN H;obtain ⟨c4,H⟩:=H;have c4b0:decide (0 ≤ x8_1) = true:=decide_eq_true c4;clear c4;replace H:=iN H;obtain ⟨c5,H⟩:=H;have c5b0:decide (x8_1 < (l0.length:Int)) = true:=decide_eq_true c5;clear c5;replace H:=oB H;obtain ⟨t11,A6,H⟩:=H;(try dsimp only at H)
    by_cases c7:t11 = true
    ·subst c7;rw [if_pos rfl] at H;obtain rfl:=Option.some.inj H;have p10:0 ≤ (x8_1:Int):=of_decide_eq_true ab;have q10:x8_1 < (l0.length:Int):=of_decide_eq_true ab;obtain ⟨ad10,A10_0,c367_0,e10,hx10_0,hl10_0,hi10_0⟩:=at_LI HR0.out x8_1 p10 q10;cases e10
     replace hx10_0:=(HB.out.cell (World.block_lt_of_cell? w _ hx10_0)).trans hx10_0;have HR10_0:=aM hi10_0;have HC10_0:=aM hl10_0;clear hi10_0 hl10_0;replace p10:=eq_true p10;replace q10:=eq_true q10;go_wp2_with (first|((with_reducible refine gate_fn (t:=11) rfl ?_);refine goesFL_ (some 16) rfl rfl eg1_ #[.slice A10_0 (rd_LI l0 x8_1).length c367_0] rfl rfl mq ?_;(with_reducible refine (HP1.out _ _ _ (rd_LI l0 x8_1) true A6.out ?side1 ?side2 ?side3).mono ?_);(case side1=>exact bw);(case side2=>exact qcs HR10_0.out HB.out);(case side3=>exact HC10_0.out);rintro e w8 ⟨rfl,hb⟩;refine ⟨_,rfl,?_⟩;replace HB:=aM (below_step bw hb);(try clear hb)))
     go_ret
     exact ⟨eE,by exact bw⟩
    ·replace c7:=Bool.eq_false_iff.mpr c7;subst c7;rw [if_neg (show ¬ (false = true) by decide)] at H;have H':=aM H;clear H;have p10:0 ≤ (x8_1:Int):=of_decide_eq_true ab;have q10:x8_1 < (l0.length:Int):=of_decide_eq_true ab;obtain ⟨ad10,A10_0,c367_0,e10,hx10_0,hl10_0,hi10_0⟩:=at_LI HR0.out x8_1 p10 q10;cases e10
     replace hx10_0:=(HB.out.cell (World.block_lt_of_cell? w _ hx10_0)).trans hx10_0;have HR10_0:=aM hi10_0;have HC10_0:=aM hl10_0;clear hi10_0 hl10_0;replace p10:=eq_true p10;replace q10:=eq_true q10;go_wp2_with (first|((with_reducible refine gate_fn (t:=11) rfl ?_);refine goesFL_ (some 16) rfl rfl eg1_ #[.slice A10_0 (rd_LI l0 x8_1).length c367_0] rfl rfl mq ?_;(with_reducible refine (HP1.out _ _ _ (rd_LI l0 x8_1) false A6.out ?side1 ?side2 ?side3).mono ?_);(case side1=>exact bw);(case side2=>exact qcs HR10_0.out HB.out);(case side3=>exact HC10_0.out);rintro e w9 ⟨rfl,hb⟩;refine ⟨_,rfl,?_⟩;replace HB:=aM (below_step bw hb);(try clear hb)))
     go_roundg k1
     case measure=>have:=HK1.out;omega
     case rel=>exact ⟨(wrap64 (x8_1 + 1)),qrs,H',⟨by have:=HK1.out;omega⟩,⟨by exact bw⟩⟩
   ·rw [if_neg c3] at H;have c3b0:=decide_eq_false c3;clear c3;obtain rfl:=Option.some.inj H;go_wp2
    go_ret
    exact ⟨eE,by exact bw⟩


/-! ### slices_ContainsFunc_LLint_int: function 74 -/
def slices_ContainsFunc_LLint_int.f (k:Nat) (l0:List (List Int)) (a1:(List Int → Option (Bool))):Option (Bool):=(slices_IndexFunc_LLint_int.f k l0 a1).bind fun t2=>(some (decide (t2 ≥ 0)))
set_option maxHeartbeats 8000000 in
set_option maxRecDepth 100000 in
theorem slices_ContainsFunc_LLint_int.calls (k:Nat) (A0:Option Addr) (c0:Nat) (l0:List (List Int)) (a1:(List Int → Option (Bool))) (g1_:Nat) (lb1_:Array Value) (eg1_:∀ (args:Array Value) (w:World),(callFunc g1_ args).run Tryz.prog w = .ok (.enter g1_ args) w) (r:Bool) (w:World) (hr0:Kd.C (Kd.slice 3 (Kd.int .i64)) w A0 l0.length l0) (hc0:l0.length ≤ c0) (hp1:∀ (W:World) (A0_:Option Addr) (c0_:Nat) (l0_:List Int) (r0_:Bool),a1 l0_ = some r0_ → Below w.heap.size w W → Kd.C (Kd.int .i64) W A0_ l0_.length l0_ → l0_.length ≤ c0_ → Calls Tryz.prog g1_ (#[.slice A0_ l0_.length c0_] ++ lb1_) W fun e w'=>e = .returned (.bool r0_) ∧ Below W.heap.size W w') (h:slices_ContainsFunc_LLint_int.f k l0 a1 = some r) :
  Calls Tryz.prog 74 #[.slice A0 l0.length c0,.func (.func g1_) #[] lb1_] w fun e w'=>e = .returned (.bool r) ∧ Below w.heap.size w w':=by
 have HR0:=aM hr0;have HC0:=aM hc0;clear hr0 hc0;have HP1:=aM hp1;clear hp1;have HB:=aM (Below.refl w.heap.size w);have H:((slices_IndexFunc_LLint_int.f k l0 a1).bind fun t5=>(some (decide (t5 ≥ 0)))) = some r:=h;clear h;replace H:=oB H;obtain ⟨t5,A3,H⟩:=H;(try dsimp only at H)
 obtain rfl:=Option.some.inj H;go_enter Tryz.func74,Tryz.ntmps74;go_wp2_with (first|((with_reducible refine gate_callee (f:=93) rfl ?_);refine gL 7 Tryz.func93 #[.slice A0 l0.length c0,.func (.func g1_) #[] lb1_] ?_;(with_reducible refine (slices_IndexFunc_LLint_int.calls k _ _ l0 a1 g1_ lb1_ eg1_ t5 _ ?side1 ?side2 ?side3 A3.out).mono ?_);(case side1=>exact qc HR0.out);(case side2=>exact HC0.out);(case side3=>exact (fun W_ A0_ c0_ l0_ r0_ hx_ hb_ hr0_ hc0_=>HP1.out W_ A0_ c0_ l0_ r0_ hx_ (below_step bw hb_) hr0_ hc0_));rintro e w4 ⟨rfl,hb⟩;refine ⟨_,rfl,?_⟩;replace HB:=aM (below_step bw hb);(try clear hb)))
 go_ret
 exact ⟨eE,by exact bw⟩


/-! ### impl_isIncreasing: function 82 -/
def impl_isIncreasing.l0:Nat → List Int → Int → Int → Option (Bool)
 | 0,_,_,_=>none
 | k + 1,x0,x5,x6=>if x6 < x5 then (if x6 > 0 then (if 0 ≤ x6 then (if x6 < (x0.length:Int) then (if 0 ≤ (wrap64 (x6 - 1)) then (if (wrap64 (x6 - 1)) < (x0.length:Int) then (if (rd x0 x6) ≤ (rd x0 (wrap64 (x6 - 1))) then (some false) else (impl_isIncreasing.l0 k x0 x5 (wrap64 (x6 + 1)))) else (none)) else (none)) else (none)) else (none)) else (impl_isIncreasing.l0 k x0 x5 (wrap64 (x6 + 1)))) else (some true)
def impl_isIncreasing.f (k:Nat) (l0:List Int):Option (Bool):=impl_isIncreasing.l0 k l0 (l0.length:Int) 0
set_option maxHeartbeats 8000000 in
set_option maxRecDepth 100000 in
theorem impl_isIncreasing.calls (k:Nat) (A0:Option Addr) (c0:Nat) (l0:List Int) (r:Bool) (w:World) (hr0:Kd.C (Kd.int .i64) w A0 l0.length l0) (hc0:l0.length ≤ c0) (h:impl_isIncreasing.f k l0 = some r) :
  Calls Tryz.prog 82 #[.slice A0 l0.length c0] w fun e w'=>e = .returned (.bool r) ∧ Drawn0 w w':=by
 have HR0:=aM hr0;have HC0:=aM hc0;clear hr0 hc0;have H:(impl_isIncreasing.l0 k l0 (l0.length:Int) 0) = some r:=h;clear h;have H':=aM H;clear H;go_enter Tryz.func82,Tryz.ntmps82;go_wp2
 repeat (go_quiet (fail);try go_wp2)
 go_loopg [6] k (fun kq v6 w'=>∃ (x6_1:Int),v6 = .int .i64 x6_1 ∧ Aside0 (impl_isIncreasing.l0 kq l0 (l0.length:Int) x6_1 = some r) ∧ Aside0 (kq ≤ k) ∧ Drawn0 w w')
 case atStart=>exact ⟨(0),qrs,H',⟨Nat.le_refl _⟩,by repeat (first|exact Drawn0.refl _|apply Drawn0.step)⟩
 case round =>
  clear H';obtain ⟨x6_1,rfl,HA,HK1,⟨m1,rfl⟩⟩:=hrel
  cases gk with
  | zero=>exact absurd HA.out (by simp [impl_isIncreasing.l0])
  | succ k1 =>
   have H:=HA.out;clear HA;simp only [impl_isIncreasing.l0] at H;by_cases c2:x6_1 < (l0.length:Int)
   ·rw [if_pos c2] at H;have c2b0:=decide_eq_true c2;clear c2;by_cases c3:x6_1 > 0
    ·rw [if_pos c3] at H;have c3b0:decide (0 < x6_1) = true:=decide_eq_true c3;clear c3;replace H:=iN H;obtain ⟨c4,H⟩:=H;have c4b0:decide (0 ≤ x6_1) = true:=decide_eq_true c4;clear c4;replace H:=iN H;obtain ⟨c5,H⟩:=H;have c5b0:decide (x6_1 < (l0.length:Int)) = true:=decide_eq_true c5;clear c5;obtain ⟨ji6,hji6⟩:∃ j_:Int,(wrap64 (x6_1 - 1)) = j_:=⟨_,rfl⟩;(first|rw [hji6] at H|simp only [hji6] at H)
     have hji6w:(IntKind.i64.wrap (x6_1 - 1)) = ji6:=(i64_w _).trans hji6;replace H:=iN H;obtain ⟨c7,H⟩:=H;have c7b0:decide (0 ≤ (ji6)) = true:=decide_eq_true c7;clear c7;replace H:=iN H;obtain ⟨c8,H⟩:=H;have c8b0:decide ((ji6) < (l0.length:Int)) = true:=decide_eq_true c8;clear c8;by_cases c9:(rd l0 x6_1) ≤ (rd l0 (ji6))
     ·rw [if_pos c9] at H;have c9b0:=decide_eq_true c9;clear c9;obtain rfl:=Option.some.inj H;have p10:0 ≤ (x6_1:Int):=of_decide_eq_true ab;have q10:x6_1 < (l0.length:Int):=of_decide_eq_true ab;obtain ⟨ad10,e10,hx10_0⟩:=Kd.at_int HR0.out x6_1 p10 q10;cases e10
      replace p10:=eq_true p10;replace q10:=eq_true q10;have p11:0 ≤ ((ji6):Int):=of_decide_eq_true ab;have q11:(ji6) < (l0.length:Int):=of_decide_eq_true ab;obtain ⟨ad11,e11,hx11_0⟩:=Kd.at_int HR0.out (ji6) p11 q11;obtain rfl:ad10 = ad11:=(by injection e11);replace p11:=eq_true p11;replace q11:=eq_true q11;go_wp2
      repeat (go_quiet (fail);try go_wp2)
      go_ret
      exact ⟨by first|rfl|(simp;done)|(simp only [← hji6] <;> (first|rfl|simp))|(simp [*];done),by repeat (first|exact Drawn0.refl _|apply Drawn0.step)⟩
     ·rw [if_neg c9] at H;have c9b0:=decide_eq_false c9;clear c9;have H':=aM H;clear H;have p10:0 ≤ (x6_1:Int):=of_decide_eq_true ab;have q10:x6_1 < (l0.length:Int):=of_decide_eq_true ab;obtain ⟨ad10,e10,hx10_0⟩:=Kd.at_int HR0.out x6_1 p10 q10;cases e10
      replace p10:=eq_true p10;replace q10:=eq_true q10;have p11:0 ≤ ((ji6):Int):=of_decide_eq_true ab;have q11:(ji6) < (l0.length:Int):=of_decide_eq_true ab;obtain ⟨ad11,e11,hx11_0⟩:=Kd.at_int HR0.out (ji6) p11 q11;obtain rfl:ad10 = ad11:=(by injection e11);replace p11:=eq_true p11;replace q11:=eq_true q11;go_wp2
      repeat (go_quiet (fail);try go_wp2)
      go_roundg k1
      case measure=>have:=HK1.out;omega
      case rel=>exact ⟨(wrap64 (x6_1 + 1)),qrs,H',⟨by have:=HK1.out;omega⟩,by repeat (first|exact Drawn0.refl _|apply Drawn0.step)⟩
    ·rw [if_neg c3] at H;have c3b0:decide (0 < x6_1) = false:=decide_eq_false c3;clear c3;have H':=aM H;clear H;go_wp2
     repeat (go_quiet (fail);try go_wp2)
     go_roundg k1
     case measure=>have:=HK1.out;omega
     case rel=>exact ⟨(wrap64 (x6_1 + 1)),qrs,H',⟨by have:=HK1.out;omega⟩,by repeat (first|exact Drawn0.refl _|apply Drawn0.step)⟩
   ·rw [if_neg c2] at H;have c2b0:=decide_eq_false c2;clear c2;obtain rfl:=Option.some.inj H;go_wp2
    repeat (go_quiet (fail);try go_wp2)
    go_ret
    exact ⟨qrs,dR⟩


/-! ### impl_isSet: function 51 -/
def impl_isSet.f (k:Nat) (l0:List Int) (a1:Int):Option (Bool):=(impl_areIn.f k l0 0 (wrap64 (a1 - 1))).bind fun t2=>(if t2 = true then ((impl_isIncreasing.f k l0).bind fun t3=>(some t3)) else (some false))
set_option maxHeartbeats 8000000 in
set_option maxRecDepth 100000 in
theorem impl_isSet.calls (k:Nat) (A0:Option Addr) (c0:Nat) (l0:List Int) (a1:Int) (r:Bool) (w:World) (hr0:Kd.C (Kd.int .i64) w A0 l0.length l0) (hc0:l0.length ≤ c0) (h:impl_isSet.f k l0 a1 = some r) :
  Calls Tryz.prog 51 #[.slice A0 l0.length c0,.int .i64 a1] w fun e w'=>e = .returned (.bool r) ∧ Below w.heap.size w w':=by
 have HR0:=aM hr0;have HC0:=aM hc0;clear hr0 hc0;have HB:=aM (Below.refl w.heap.size w);have H:((impl_areIn.f k l0 0 (wrap64 (a1 - 1))).bind fun t8=>(if t8 = true then ((impl_isIncreasing.f k l0).bind fun t9=>(some t9)) else (some false))) = some r:=h;clear h;replace H:=oB H;obtain ⟨t8,A3,H⟩:=H;(try dsimp only at H)
 by_cases c4:t8 = true
 ·subst c4;rw [if_pos rfl] at H;replace H:=oB H;obtain ⟨t9,A5,H⟩:=H;(try dsimp only at H)
  obtain rfl:=Option.some.inj H;go_enter Tryz.func51,Tryz.ntmps51;go_wp2_with (first|((with_reducible refine gate_callee (f:=58) rfl ?_);refine gL 8 Tryz.func58 #[.slice A0 l0.length c0,.int .i64 0,.int .i64 (wrap64 (a1 - 1))] ?_;(with_reducible refine (impl_areIn.calls k _ _ l0 0 (wrap64 (a1 - 1)) true _ ?side1 ?side2 A3.out).mono ?_);(case side1=>exact qc HR0.out);(case side2=>exact HC0.out);rintro e w6 ⟨rfl,hb⟩;refine ⟨_,rfl,?_⟩;replace HB:=aM (below_step bw hb);(try clear hb))|(go_at_call 82;(with_reducible refine (impl_isIncreasing.calls k _ _ l0 t9 _ ?side1 ?side2 A5.out).mono ?_);(case side1=>exact qcs HR0.out HB.out);(case side2=>exact HC0.out);rintro e w' ⟨rfl,⟨nd,rfl⟩⟩))
  go_ret
  exact ⟨eE,by exact bw⟩
 ·replace c4:=Bool.eq_false_iff.mpr c4;subst c4;rw [if_neg (show ¬ (false = true) by decide)] at H;obtain rfl:=Option.some.inj H;go_enter Tryz.func51,Tryz.ntmps51;go_wp2_with (first|((with_reducible refine gate_callee (f:=58) rfl ?_);refine gL 8 Tryz.func58 #[.slice A0 l0.length c0,.int .i64 0,.int .i64 (wrap64 (a1 - 1))] ?_;(with_reducible refine (impl_areIn.calls k _ _ l0 0 (wrap64 (a1 - 1)) false _ ?side1 ?side2 A3.out).mono ?_);(case side1=>exact qc HR0.out);(case side2=>exact HC0.out);rintro e w7 ⟨rfl,hb⟩;refine ⟨_,rfl,?_⟩;replace HB:=aM (below_step bw hb);(try clear hb)))
  go_ret
  exact ⟨eE,by exact bw⟩


/-! ### impl_areSets_1: function 76 -/
def impl_areSets_1.f (k:Nat) (l0:List Int) (a1:Int):Option (Bool):=if (l0.length:Int) = 0 then (some true) else ((impl_isSet.f k l0 a1).bind fun t2=>(some (!t2)))
set_option maxHeartbeats 8000000 in
set_option maxRecDepth 100000 in
theorem impl_areSets_1.calls (k:Nat) (A0:Option Addr) (c0:Nat) (l0:List Int) (gc1:Nat) (a1:Int) (r:Bool) (w:World) (hr0:Kd.C (Kd.int .i64) w A0 l0.length l0) (hc0:l0.length ≤ c0) (hb1:w.heap[gc1]? = some (.cells #[.int .i64 a1] 3 (0,0))) (h:impl_areSets_1.f k l0 a1 = some r) :
  Calls Tryz.prog 76 #[.slice A0 l0.length c0,.pointer (some ⟨gc1,0,none⟩)] w fun e w'=>e = .returned (.bool r) ∧ Below w.heap.size w w':=by
 have HR0:=aM hr0;have HC0:=aM hc0;clear hr0 hc0;have BK1:=aM hb1;clear hb1;have HB:=aM (Below.refl w.heap.size w);have H:(if (l0.length:Int) = 0 then (some true) else ((impl_isSet.f k l0 a1).bind fun t7=>(some (!t7)))) = some r:=h;clear h;by_cases c3:(l0.length:Int) = 0
 ·rw [if_pos c3] at H;have c3b0:((l0.length:Int) == 0) = true:=beq_iff_eq.mpr c3;have c3b1:((l0.length:Int) != 0) = false:=bne_eq_false_iff_eq.mpr c3;clear c3;obtain rfl:=Option.some.inj H;go_enter Tryz.func76,Tryz.ntmps76;go_wp2
  go_ret
  exact ⟨eE,by exact bw⟩
 ·rw [if_neg c3] at H;have c3b0:((l0.length:Int) == 0) = false:=beq_eq_false_iff_ne.mpr c3;have c3b1:((l0.length:Int) != 0) = true:=bne_iff_ne.mpr c3;have c3b2:¬ (l0 = []):=fun h_=>c3 (by rw [h_];rfl)
  replace H:=oB H;obtain ⟨t7,A4,H⟩:=H;(try dsimp only at H)
  obtain rfl:=Option.some.inj H;have hcz5_0:=cz BK1.out 0;have hfz5_0:=blk_frozen BK1.out 0;go_enter Tryz.func76,Tryz.ntmps76;go_wp2_with (first|(go_at_call 51;(with_reducible refine (impl_isSet.calls k _ _ l0 a1 t7 _ ?side1 ?side2 A4.out).mono ?_);(case side1=>exact qc HR0.out);(case side2=>exact HC0.out);rintro e w6 ⟨rfl,hb⟩;replace BK1:=aM (bB BK1.out hb);replace HB:=aM (below_step bw hb);(try clear hb)))
  go_ret
  exact ⟨eE,by exact bw⟩
theorem impl_areSets_1.enters:∀ (args:Array Value) (w:World),(callFunc 76 args).run Tryz.prog w = .ok (.enter 76 args) w:=enters_of Tryz.func76 kR rfl


/-! ### impl_areSets: function 45 -/
def impl_areSets.f (k:Nat) (l0:List (List Int)) (a1:Int):Option (Bool):=(slices_ContainsFunc_LLint_int.f k l0 (fun y0_=>impl_areSets_1.f k y0_ a1)).bind fun t2=>(some (!t2))
set_option maxHeartbeats 8000000 in
set_option maxRecDepth 100000 in
theorem impl_areSets.calls (k:Nat) (A0:Option Addr) (c0:Nat) (l0:List (List Int)) (a1:Int) (r:Bool) (w:World) (hr0:Kd.C (Kd.slice 3 (Kd.int .i64)) w A0 l0.length l0) (hc0:l0.length ≤ c0) (h:impl_areSets.f k l0 a1 = some r) :
  Calls Tryz.prog 45 #[.slice A0 l0.length c0,.int .i64 a1] w fun e w'=>e = .returned (.bool r) ∧ Below w.heap.size w w':=by
 have hmf:∀ (fn:Fn) (first cap:Array Value) (w:World),(Instr.makeFunc fn first cap).run Tryz.prog w = .ok (.func fn first cap) w:=fun _ _ _ _=>rfl
 have HR0:=aM hr0;have HC0:=aM hc0;clear hr0 hc0;have HB:=aM (Below.refl w.heap.size w);have H:((slices_ContainsFunc_LLint_int.f k l0 (fun y0_=>impl_areSets_1.f k y0_ a1)).bind fun t7=>(some (!t7))) = some r:=h;clear h;replace H:=oB H;obtain ⟨t7,A3,H⟩:=H;(try dsimp only at H)
 obtain rfl:=Option.some.inj H;go_enter Tryz.func45,Tryz.ntmps45;go_wp2_with (first|((with_reducible refine gate_dst (N:=3) rfl ?_);refine bE 3 #[.int .i64 a1] 3 ?_;intro gb6 hg w4 hbox hb;have BK6:=aM (hbox);have GW6:=aM (gS hg);have GE6:=aM (gS hg);replace HB:=aM (below_step bw hb);clear hb hbox hg)|((with_reducible refine gate_callee (f:=74) rfl ?_);refine gL 7 Tryz.func74 #[.slice A0 l0.length c0,.func (.func 76) #[] #[.pointer (some ⟨gb6,0,none⟩)]] ?_;(with_reducible refine (slices_ContainsFunc_LLint_int.calls k _ _ l0 (fun y0_=>impl_areSets_1.f k y0_ a1) 76 #[.pointer (some ⟨gb6,0,none⟩)] impl_areSets_1.enters t7 _ ?side1 ?side2 ?side3 A3.out).mono ?_);(case side1=>exact qcs HR0.out HB.out);(case side2=>exact HC0.out);(case side3=>exact (fun W_ A0_ c0_ l0_ r0_ hx_ hb_ hr0_ hc0_=>(impl_areSets_1.calls k A0_ c0_ l0_ gb6 a1 r0_ W_ hr0_ hc0_ (box_later (bk1 BK6.out) hb_) hx_).mono (fun _ _ h_=>h_)));rintro e w5 ⟨rfl,hb⟩;refine ⟨_,rfl,?_⟩;replace BK6:=aM (bB BK6.out hb);replace HB:=aM (below_step bw hb);(try clear hb)))
 go_ret
 exact ⟨eE,by exact bw⟩


/-! ### impl_maskOf: function 47 -/
def impl_maskOf.l0:Nat → Int → List Int → Int → Int → Option (Int)
 | 0,_,_,_,_=>none
 | k + 1,x3,x6,x7,x8=>if x8 < x7 then (if 0 ≤ x8 then (if x8 < (x6.length:Int) then (if 0 ≤ (rd x6 x8) then (impl_maskOf.l0 k (Go.bits .or .i64 x3 (shl .i64 1 (rd x6 x8))) x6 x7 (wrap64 (x8 + 1))) else (none)) else (none)) else (none)) else (some x3)
def impl_maskOf.f (k:Nat) (l0:List Int):Option (Int):=impl_maskOf.l0 k 0 l0 (l0.length:Int) 0
set_option maxHeartbeats 8000000 in
set_option maxRecDepth 100000 in
theorem impl_maskOf.calls (k:Nat) (A0:Option Addr) (c0:Nat) (l0:List Int) (r:Int) (w:World) (hr0:Kd.C (Kd.int .i64) w A0 l0.length l0) (hc0:l0.length ≤ c0) (h:impl_maskOf.f k l0 = some r) :
  Calls Tryz.prog 47 #[.slice A0 l0.length c0] w fun e w'=>e = .returned (.int .i64 r) ∧ Drawn0 w w':=by
 have HR0:=aM hr0;have HC0:=aM hc0;clear hr0 hc0;have H:(impl_maskOf.l0 k 0 l0 (l0.length:Int) 0) = some r:=h;clear h;have H':=aM H;clear H;go_enter Tryz.func47,Tryz.ntmps47;go_wp2
 go_loopg [3,8] k (fun kq v3 v8 w'=>∃ (x3_1:Int) (x8_1:Int),v3 = .int .i64 x3_1 ∧ v8 = .int .i64 x8_1 ∧ Aside0 (impl_maskOf.l0 kq x3_1 l0 (l0.length:Int) x8_1 = some r) ∧ Aside0 (kq ≤ k) ∧ Drawn0 w w')
 case atStart=>exact ⟨(0),(0),qrs,qrs,H',⟨Nat.le_refl _⟩,by repeat (first|exact Drawn0.refl _|apply Drawn0.step)⟩
 case round =>
  clear H';obtain ⟨x3_1,x8_1,rfl,rfl,HA,HK1,⟨m1,rfl⟩⟩:=hrel
  cases gk with
  | zero=>exact absurd HA.out (by simp [impl_maskOf.l0])
  | succ k1 =>
   have H:=HA.out;clear HA;simp only [impl_maskOf.l0] at H;by_cases c2:x8_1 < (l0.length:Int)
   ·rw [if_pos c2] at H;have c2b0:=decide_eq_true c2;clear c2;replace H:=iN H;obtain ⟨c3,H⟩:=H;have c3b0:decide (0 ≤ x8_1) = true:=decide_eq_true c3;clear c3;replace H:=iN H;obtain ⟨c4,H⟩:=H;have c4b0:decide (x8_1 < (l0.length:Int)) = true:=decide_eq_true c4;clear c4;replace H:=iN H;obtain ⟨c5,H⟩:=H;have c5b0:=eq_true c5;have c5b1:decide (0 ≤ (rd l0 x8_1)) = true:=decide_eq_true c5;clear c5;obtain ⟨ji6,hji6⟩:∃ j_:Int,(shl .i64 1 (rd l0 x8_1)) = j_:=⟨_,rfl⟩;(first|rw [hji6] at H|simp only [hji6] at H)
    have hji6_:(IntKind.i64.wrap (1 * 2 ^ min (rd l0 x8_1).toNat 64)) = ji6:=hji6;have hji6z:(rd l0 x8_1) ≤ 64 → (IntKind.i64.wrap (1 * 2 ^ (rd l0 x8_1).toNat)) = ji6:=shl_small hji6;have hji6u:(IntKind.i64.wrap (2 ^ min (rd l0 x8_1).toNat 64)) = ji6:=by have h_:=hji6_;rw [Int.one_mul] at h_;exact h_
    have hji6v:(rd l0 x8_1) ≤ 64 → (IntKind.i64.wrap (2 ^ (rd l0 x8_1).toNat)) = ji6:=fun hle_=>by have h_:=hji6z hle_;rw [Int.one_mul] at h_;exact h_
    have hji6y:(wrap64 (1 * 2 ^ min (rd l0 x8_1).toNat 64)) = ji6:=(i64_w _).symm.trans hji6_;have hji6x:(rd l0 x8_1) ≤ 64 → (wrap64 (1 * 2 ^ (rd l0 x8_1).toNat)) = ji6:=fun h_=>(i64_w _).symm.trans (hji6z h_)
    have H':=aM H;clear H;have p7:0 ≤ (x8_1:Int):=of_decide_eq_true ab;have q7:x8_1 < (l0.length:Int):=of_decide_eq_true ab;obtain ⟨ad7,e7,hx7_0⟩:=Kd.at_int HR0.out x8_1 p7 q7;cases e7
    replace p7:=eq_true p7;replace q7:=eq_true q7;go_wp2
    go_roundg k1
    case measure=>have:=HK1.out;omega
    case rel=>exact ⟨(Go.bits .or .i64 x3_1 (ji6)),(wrap64 (x8_1 + 1)),(by first|rfl|(simp;done)|(simp only [← hji6] <;> (first|rfl|simp))|(simp [*];done)),qrs,H',⟨by have:=HK1.out;omega⟩,by repeat (first|exact Drawn0.refl _|apply Drawn0.step)⟩
   ·rw [if_neg c2] at H;have c2b0:=decide_eq_false c2;clear c2;obtain rfl:=Option.some.inj H;go_wp2
    go_ret
    exact ⟨qrs,dR⟩


/-! ### impl_IsGame: function 16 -/
mutual
def impl_IsGame.j0:Nat → Bool → Int → List (List Int) → Option (Bool)
 | 0,_,_,_=>none
 | k + 1,x24,x9,x10=>if x24 = true then (some false) else (impl_IsGame.l0 k x10 (x10.length:Int) 0 x9 x10)
def impl_IsGame.l0:Nat → List (List Int) → Int → Int → Int → List (List Int) → Option (Bool)
 | 0,_,_,_,_,_=>none
 | k + 1,x26,x27,x28,x9,x10=>if x28 < x27 then (if 0 ≤ x28 then (if x28 < (x26.length:Int) then (if x28 > 0 then (if 0 ≤ (wrap64 (x28 - 1)) then (if (wrap64 (x28 - 1)) < (x10.length:Int) then ((slices_Compare_int_int.f k (rd_LI x10 (wrap64 (x28 - 1))) (rd_LI x26 x28)).bind fun t5=>(impl_IsGame.j2 k x28 (rd_LI x26 x28) x26 x27 x28 (decide (t5 ≥ 0)) x9 x10)) else (none)) else (none)) else (impl_IsGame.j2 k x28 (rd_LI x26 x28) x26 x27 x28 false x9 x10)) else (none)) else (none)) else (some true)
def impl_IsGame.j2:Nat → Int → List Int → List (List Int) → Int → Int → Bool → Int → List (List Int) → Option (Bool)
 | 0,_,_,_,_,_,_,_,_=>none
 | k + 1,x3,x4,x26,x27,x28,x45,x9,x10=>if x45 = true then (some false) else (impl_IsGame.l1 k x3 x4 x26 x27 x28 x10 (x10.length:Int) 0 x9 x10)
def impl_IsGame.l1:Nat → Int → List Int → List (List Int) → Int → Int → List (List Int) → Int → Int → Int → List (List Int) → Option (Bool)
 | 0,_,_,_,_,_,_,_,_,_,_=>none
 | k + 1,x3,x4,x26,x27,x28,x47,x48,x49,x9,x10=>if x49 < x48 then (if 0 ≤ x49 then (if x49 < (x47.length:Int) then (if x49 = x3 then (impl_IsGame.l1 k x3 x4 x26 x27 x28 x47 x48 (wrap64 (x49 + 1)) x9 x10) else ((impl_maskOf.f k x4).bind fun t6=>((impl_maskOf.f k (rd_LI x47 x49)).bind fun t7=>((impl_maskOf.f k (rd_LI x47 x49)).bind fun t8=>(if (Go.bits .and .i64 t6 t7) = t8 then (some false) else (impl_IsGame.l1 k x3 x4 x26 x27 x28 x47 x48 (wrap64 (x49 + 1)) x9 x10)))))) else (none)) else (none)) else (impl_IsGame.l0 k x26 x27 (wrap64 (x28 + 1)) x9 x10)
end
def impl_IsGame.f (k:Nat) (a0_0:Int) (l0_1:List (List Int)):Option (Bool):=(impl_within.f a0_0 1 9).bind fun t2=>(if t2 = true then (if (l0_1.length:Int) = 0 then (impl_IsGame.j0 k true a0_0 l0_1) else ((impl_areSets.f k l0_1 a0_0).bind fun t3=>(impl_IsGame.j0 k (!t3) a0_0 l0_1))) else (impl_IsGame.j0 k true a0_0 l0_1))
set_option maxHeartbeats 8000000 in
set_option maxRecDepth 100000 in
theorem impl_IsGame.calls (k:Nat) (a0_0:Int) (A0_1:Option Addr) (c0_1:Nat) (l0_1:List (List Int)) (r:Bool) (w:World) (hr0_1:Kd.C (Kd.slice 3 (Kd.int .i64)) w A0_1 l0_1.length l0_1) (hc0_1:l0_1.length ≤ c0_1) (h:impl_IsGame.f k a0_0 l0_1 = some r) :
  Calls Tryz.prog 16 #[.agg #[.int .i64 a0_0,.slice A0_1 l0_1.length c0_1]] w fun e w'=>e = .returned (.bool r) ∧ Below w.heap.size w w':=by
 have hu28:=Tryz.underlying28;have HR0_1:=aM hr0_1;have HC0_1:=aM hc0_1;clear hr0_1 hc0_1;have HB:=aM (Below.refl w.heap.size w);have H:((impl_within.f a0_0 1 9).bind fun t35=>(if t35 = true then (if (l0_1.length:Int) = 0 then (impl_IsGame.j0 k true a0_0 l0_1) else ((impl_areSets.f k l0_1 a0_0).bind fun t36=>(impl_IsGame.j0 k (!t36) a0_0 l0_1))) else (impl_IsGame.j0 k true a0_0 l0_1))) = some r:=h;clear h;have HC2:=aM H;clear H;go_enter Tryz.func16,Tryz.ntmps16;go_upto_region 1 with (first|((with_reducible refine gate_dst (N:=1) rfl ?_);(try (refine gate_guard (by rfl) ?_;dsimp only));refine bE 1 #[.int .i64 a0_0,.slice A0_1 l0_1.length c0_1] 28 ?_;intro gb34 hg w3 hbox hb;have BK34:=aM (hbox);have GW34:=aM (gS hg);have GE34:=aM (gS hg);replace HB:=aM (below_step bw hb);clear hb hbox hg))
 (try simp only [Act.put,sA,sZ,sS])
 go_cut [24] (fun v24 wc=>∃ (kq:Nat) (x24_1:Bool),v24 = .bool x24_1 ∧ Aside0 (impl_IsGame.j0 kq x24_1 a0_0 l0_1 = some r) ∧ Aside0 (kq ≤ k) ∧ Aside0 (wc.heap[gb34]? = some (.cells #[.int .i64 a0_0,(.slice A0_1 l0_1.length c0_1)] 28 (0,0))) ∧ Aside0 (Below w.heap.size w wc))
 case first =>
  have H:=HC2.out;clear HC2;replace H:=oB H;obtain ⟨t35,A4,H⟩:=H;(try dsimp only at H)
  by_cases c5:t35 = true
  ·subst c5;rw [if_pos rfl] at H;by_cases c6:(l0_1.length:Int) = 0
   ·rw [if_pos c6] at H;have c6b0:((l0_1.length:Int) == 0) = true:=beq_iff_eq.mpr c6;have c6b1:((l0_1.length:Int) != 0) = false:=bne_eq_false_iff_eq.mpr c6;clear c6;(first|rw [c6b0]|(simp only [i64_w,i32_w];rw [c6b0])|skip)
    have H':=aM H;clear H;have hcz7_0:=cz BK34.out 0;have hcz7_1:=cz BK34.out 1;have hfz7_0:=blk_frozen BK34.out 0;have hfz7_1:=blk_frozen BK34.out 1;go_wp2_with (first|((with_reducible refine gate_callee (f:=44) rfl ?_);refine gL 9 Tryz.func44 #[.int .i64 a0_0,.int .i64 1,.int .i64 9] ?_;(with_reducible refine (impl_within.calls a0_0 1 9 true _ A4.out).mono ?_);rintro e w' ⟨rfl,⟨nd,rfl⟩⟩;refine ⟨_,rfl,?_⟩))
    go_meet
    case rel=>exact ⟨_,(true),qrs,H',⟨by first|omega|exact Nat.le_refl _⟩,⟨bk1 BK34.out⟩,⟨by exact bw⟩⟩
   ·rw [if_neg c6] at H;have c6b0:((l0_1.length:Int) == 0) = false:=beq_eq_false_iff_ne.mpr c6;have c6b1:((l0_1.length:Int) != 0) = true:=bne_iff_ne.mpr c6;have c6b2:¬ (l0_1 = []):=fun h_=>c6 (by rw [h_];rfl)
    (first|rw [c6b0]|(simp only [i64_w,i32_w];rw [c6b0])|skip)
    replace H:=oB H;obtain ⟨t36,A8,H⟩:=H;(try dsimp only at H)
    have H':=aM H;clear H;have hcz9_0:=cz BK34.out 0;have hcz9_1:=cz BK34.out 1;have hfz9_0:=blk_frozen BK34.out 0;have hfz9_1:=blk_frozen BK34.out 1;go_wp2_with (first|((with_reducible refine gate_callee (f:=44) rfl ?_);refine gL 9 Tryz.func44 #[.int .i64 a0_0,.int .i64 1,.int .i64 9] ?_;(with_reducible refine (impl_within.calls a0_0 1 9 true _ A4.out).mono ?_);rintro e w' ⟨rfl,⟨nd,rfl⟩⟩;refine ⟨_,rfl,?_⟩)|(go_at_call 45;(with_reducible refine (impl_areSets.calls k _ _ l0_1 a0_0 t36 _ ?side1 ?side2 A8.out).mono ?_);(case side1=>exact qc (Kd.C_below HR0_1.out bw));(case side2=>exact HC0_1.out);rintro e w10 ⟨rfl,hb⟩;replace BK34:=aM (bB BK34.out hb);replace HB:=aM (below_step bw hb);(try clear hb)))
    go_meet
    case rel=>exact ⟨_,(!t36),qrs,H',⟨by first|omega|exact Nat.le_refl _⟩,⟨bk1 BK34.out⟩,⟨by exact bw⟩⟩
  ·replace c5:=Bool.eq_false_iff.mpr c5;subst c5;rw [if_neg (show ¬ (false = true) by decide)] at H;have H':=aM H;clear H;have hcz11_0:=cz BK34.out 0;have hcz11_1:=cz BK34.out 1;have hfz11_0:=blk_frozen BK34.out 0;have hfz11_1:=blk_frozen BK34.out 1;go_wp2_with (first|((with_reducible refine gate_callee (f:=44) rfl ?_);refine gL 9 Tryz.func44 #[.int .i64 a0_0,.int .i64 1,.int .i64 9] ?_;(with_reducible refine (impl_within.calls a0_0 1 9 false _ A4.out).mono ?_);rintro e w' ⟨rfl,⟨nd,rfl⟩⟩;refine ⟨_,rfl,?_⟩))
   go_meet
   case rel=>exact ⟨_,(true),qrs,H',⟨by first|omega|exact Nat.le_refl _⟩,⟨bk1 BK34.out⟩,⟨by exact bw⟩⟩
 case rest =>
  clear HC2;(try clear c5);(try clear c6);(try clear c6b0);(try clear c6b1);(try clear c6b2);(try clear hcz11_0);(try clear hcz11_1);(try clear hcz7_0);(try clear hcz7_1);(try clear hcz9_0);(try clear hcz9_1);(try clear hfz11_0);(try clear hfz11_1);(try clear hfz7_0);(try clear hfz7_1);(try clear hfz9_0);(try clear hfz9_1)
  obtain ⟨kq,x24_1,rfl,HA,HJ1,BK34,HB⟩:=hcut
  cases kq with
  | zero=>exact absurd HA.out (by simp [impl_IsGame.j0])
  | succ kj1 =>
   have H:=HA.out;clear HA;simp only [impl_IsGame.j0] at H;by_cases c12:x24_1 = true
   ·subst c12;rw [if_pos rfl] at H;obtain rfl:=Option.some.inj H;go_wp2
    go_ret
    exact ⟨eE,by exact bw⟩
   ·replace c12:=Bool.eq_false_iff.mpr c12;subst c12;rw [if_neg (show ¬ (false = true) by decide)] at H;have H':=aM H;clear H;have hcz13_0:=cz BK34.out 0;have hcz13_1:=cz BK34.out 1;have hfz13_0:=blk_frozen BK34.out 0;have hfz13_1:=blk_frozen BK34.out 1;go_wp2
    go_loopg [28] kj1 (fun kq v28 w'=>∃ (x28_2:Int),v28 = .int .i64 x28_2 ∧ Aside0 (impl_IsGame.l0 kq l0_1 (l0_1.length:Int) x28_2 a0_0 l0_1 = some r) ∧ Aside0 (kq ≤ kj1) ∧ Aside0 (w'.heap[gb34]? = some (.cells #[.int .i64 a0_0,(.slice A0_1 l0_1.length c0_1)] 28 (0,0))) ∧ Aside0 (Below w.heap.size w w'))
    case atStart=>exact ⟨(0),qrs,H',⟨Nat.le_refl _⟩,⟨bk1 BK34.out⟩,⟨by exact bw⟩⟩
    case round =>
     clear H';(try clear c12);(try clear hcz13_0);(try clear hcz13_1);(try clear hfz13_0);(try clear hfz13_1)
     obtain ⟨x28_2,rfl,HA,HK2,BK34,HB⟩:=hrel
     cases gk with
     | zero=>exact absurd HA.out (by simp [impl_IsGame.l0])
     | succ k2 =>
      have H:=HA.out;clear HA;simp only [impl_IsGame.l0] at H;by_cases c14:x28_2 < (l0_1.length:Int)
      ·rw [if_pos c14] at H;have c14b0:=decide_eq_true c14;clear c14;replace H:=iN H;obtain ⟨c15,H⟩:=H;have c15b0:decide (0 ≤ x28_2) = true:=decide_eq_true c15;clear c15;replace H:=iN H;obtain ⟨c16,H⟩:=H;have c16b0:decide (x28_2 < (l0_1.length:Int)) = true:=decide_eq_true c16;clear c16;have HC17:=aM H;clear H;have p37:0 ≤ (x28_2:Int):=of_decide_eq_true ab;have q37:x28_2 < (l0_1.length:Int):=of_decide_eq_true ab;obtain ⟨ad37,A37_0,c381_0,e37,hx37_0,hl37_0,hi37_0⟩:=at_LI HR0_1.out x28_2 p37 q37;cases e37
       replace hx37_0:=(HB.out.cell (World.block_lt_of_cell? w _ hx37_0)).trans hx37_0;have HR37_0:=aM hi37_0;have HC37_0:=aM hl37_0;clear hi37_0 hl37_0;replace p37:=eq_true p37;replace q37:=eq_true q37;go_upto_region 6 with (fail)
       go_cut [45] (fun v45 wc=>∃ (kq:Nat) (x45_16:Bool),v45 = .bool x45_16 ∧ Aside0 (impl_IsGame.j2 kq x28_2 (rd_LI l0_1 x28_2) l0_1 (l0_1.length:Int) x28_2 x45_16 a0_0 l0_1 = some r) ∧ Aside0 (kq ≤ k2) ∧ Aside0 (wc.heap[gb34]? = some (.cells #[.int .i64 a0_0,(.slice (some ad37) l0_1.length c0_1)] 28 (0,0))) ∧ Aside0 (Below w.heap.size w wc))
       case first =>
        have H:=HC17.out;clear HC17;by_cases c18:x28_2 > 0
        ·rw [if_pos c18] at H;have c18b0:decide (0 < x28_2) = true:=decide_eq_true c18;clear c18;(first|rw [c18b0]|(simp only [i64_w,i32_w];rw [c18b0])|skip)
         obtain ⟨ji19,hji19⟩:∃ j_:Int,(wrap64 (x28_2 - 1)) = j_:=⟨_,rfl⟩;(first|rw [hji19] at H|simp only [hji19] at H)
         have hji19w:(IntKind.i64.wrap (x28_2 - 1)) = ji19:=(i64_w _).trans hji19;replace H:=iN H;obtain ⟨c20,H⟩:=H;have c20b0:decide (0 ≤ (ji19)) = true:=decide_eq_true c20;clear c20;replace H:=iN H;obtain ⟨c21,H⟩:=H;have c21b0:decide ((ji19) < (l0_1.length:Int)) = true:=decide_eq_true c21;clear c21;replace H:=oB H;obtain ⟨t39,A22,H⟩:=H;(try dsimp only at H)
         have H':=aM H;clear H;have hcz23_0:=cz BK34.out 0;have hcz23_1:=cz BK34.out 1;have hfz23_0:=blk_frozen BK34.out 0;have hfz23_1:=blk_frozen BK34.out 1;have p38:0 ≤ ((ji19):Int):=of_decide_eq_true ab;have q38:(ji19) < (l0_1.length:Int):=of_decide_eq_true ab;obtain ⟨ad38,A38_0,c382_0,e38,hx38_0,hl38_0,hi38_0⟩:=at_LI HR0_1.out (ji19) p38 q38;obtain rfl:ad37 = ad38:=(by injection e38);replace hx38_0:=(HB.out.cell (World.block_lt_of_cell? w _ hx38_0)).trans hx38_0;have HR38_0:=aM hi38_0;have HC38_0:=aM hl38_0;clear hi38_0 hl38_0;replace p38:=eq_true p38;replace q38:=eq_true q38;go_wp2_with (first|(go_at_call 46;(with_reducible refine (slices_Compare_int_int.calls k2 _ _ (rd_LI l0_1 (ji19)) _ _ (rd_LI l0_1 x28_2) t39 _ ?side1 ?side2 ?side3 ?side4 A22.out).mono ?_);(case side1=>exact qcs HR38_0.out HB.out);(case side2=>exact HC38_0.out);(case side3=>exact qcs HR37_0.out HB.out);(case side4=>exact HC37_0.out);rintro e w' ⟨rfl,⟨nd,rfl⟩⟩))
         go_meet
         case rel=>exact ⟨_,(decide (t39 ≥ 0)),qrs,H',⟨by have:=HJ1.out;have:=HK2.out;first|omega|exact Nat.le_refl _⟩,⟨bk1 BK34.out⟩,⟨by exact bw⟩⟩
        ·rw [if_neg c18] at H;have c18b0:decide (0 < x28_2) = false:=decide_eq_false c18;clear c18;(first|rw [c18b0]|(simp only [i64_w,i32_w];rw [c18b0])|skip)
         have H':=aM H;clear H;go_wp2
         go_meet
         case rel=>exact ⟨_,(false),qrs,H',⟨by have:=HJ1.out;have:=HK2.out;first|omega|exact Nat.le_refl _⟩,⟨bk1 BK34.out⟩,⟨by exact bw⟩⟩
       case rest =>
        clear HC17;(try clear c14);(try clear c14b0);(try clear c15);(try clear c15b0);(try clear c16);(try clear c16b0);(try clear c18);(try clear c18b0);(try clear c20);(try clear c20b0);(try clear c21);(try clear c21b0);(try clear hcz23_0);(try clear hcz23_1);(try clear hfz23_0);(try clear hfz23_1);(try clear hx37_0);(try clear hx38_0);(try clear p37);(try clear p38);(try clear q37);(try clear q38)
        obtain ⟨kq,x45_16,rfl,HA,HJ16,BK34,HB⟩:=hcut
        cases kq with
        | zero=>exact absurd HA.out (by simp [impl_IsGame.j2])
        | succ kj16 =>
         have H:=HA.out;clear HA;simp only [impl_IsGame.j2] at H;by_cases c24:x45_16 = true
         ·subst c24;rw [if_pos rfl] at H;obtain rfl:=Option.some.inj H;go_wp2
          go_ret
          exact ⟨eE,by exact bw⟩
         ·replace c24:=Bool.eq_false_iff.mpr c24;subst c24;rw [if_neg (show ¬ (false = true) by decide)] at H;have H':=aM H;clear H;have hcz25_0:=cz BK34.out 0;have hcz25_1:=cz BK34.out 1;have hfz25_0:=blk_frozen BK34.out 0;have hfz25_1:=blk_frozen BK34.out 1;go_wp2
          go_loopg [49] kj16 (fun kq v49 w'=>∃ (x49_4:Int),v49 = .int .i64 x49_4 ∧ Aside0 (impl_IsGame.l1 kq x28_2 (rd_LI l0_1 x28_2) l0_1 (l0_1.length:Int) x28_2 l0_1 (l0_1.length:Int) x49_4 a0_0 l0_1 = some r) ∧ Aside0 (kq ≤ kj16) ∧ Aside0 (w'.heap[gb34]? = some (.cells #[.int .i64 a0_0,(.slice (some ad37) l0_1.length c0_1)] 28 (0,0))) ∧ Aside0 (Below w.heap.size w w'))
          case atStart=>exact ⟨(0),qrs,H',⟨Nat.le_refl _⟩,⟨bk1 BK34.out⟩,⟨by exact bw⟩⟩
          case round =>
           clear H';(try clear c24);(try clear hcz25_0);(try clear hcz25_1);(try clear hfz25_0);(try clear hfz25_1)
           obtain ⟨x49_4,rfl,HA,HK4,BK34,HB⟩:=hrel
           cases gk with
           | zero=>exact absurd HA.out (by simp [impl_IsGame.l1])
           | succ k4 =>
            have H:=HA.out;clear HA;simp only [impl_IsGame.l1] at H;by_cases c26:x49_4 < (l0_1.length:Int)
            ·rw [if_pos c26] at H;have c26b0:=decide_eq_true c26;clear c26;replace H:=iN H;obtain ⟨c27,H⟩:=H;have c27b0:decide (0 ≤ x49_4) = true:=decide_eq_true c27;clear c27;replace H:=iN H;obtain ⟨c28,H⟩:=H;have c28b0:decide (x49_4 < (l0_1.length:Int)) = true:=decide_eq_true c28;clear c28;by_cases c29:x49_4 = x28_2
             ·rw [if_pos c29] at H;have c29b0:(x49_4 == x28_2) = true:=beq_iff_eq.mpr c29;have c29b1:(x49_4 != x28_2) = false:=bne_eq_false_iff_eq.mpr c29;clear c29;have H':=aM H;clear H;have p40:0 ≤ (x49_4:Int):=of_decide_eq_true ab;have q40:x49_4 < (l0_1.length:Int):=of_decide_eq_true ab;obtain ⟨ad40,A40_0,c384_0,e40,hx40_0,hl40_0,hi40_0⟩:=at_LI HR0_1.out x49_4 p40 q40;obtain rfl:ad37 = ad40:=(by injection e40);replace hx40_0:=(HB.out.cell (World.block_lt_of_cell? w _ hx40_0)).trans hx40_0;have HR40_0:=aM hi40_0;have HC40_0:=aM hl40_0;clear hi40_0 hl40_0;replace p40:=eq_true p40;replace q40:=eq_true q40;go_wp2
              go_roundg k4
              case measure=>have:=HJ1.out;have:=HK2.out;have:=HJ16.out;have:=HK4.out;omega
              case rel=>exact ⟨(wrap64 (x49_4 + 1)),qrs,H',⟨by have:=HJ1.out;have:=HK2.out;have:=HJ16.out;have:=HK4.out;omega⟩,⟨bk1 BK34.out⟩,⟨by exact bw⟩⟩
             ·rw [if_neg c29] at H;have c29b0:(x49_4 == x28_2) = false:=beq_eq_false_iff_ne.mpr c29;have c29b1:(x49_4 != x28_2) = true:=bne_iff_ne.mpr c29;replace H:=oB H;obtain ⟨t41,A30,H⟩:=H;(try dsimp only at H)
              replace H:=oB H;obtain ⟨t42,A31,H⟩:=H;(try dsimp only at H)
              replace H:=oB H;obtain ⟨t43,A32,H⟩:=H;(try dsimp only at H)
              obtain rfl:t42 = t43:=Option.some.inj (A31.out.symm.trans A32.out);by_cases c33:(Go.bits .and .i64 t41 t42) = t42
              ·rw [if_pos c33] at H;have c33b0:((Go.bits .and .i64 t41 t42) == t42) = true:=beq_iff_eq.mpr c33;have c33b1:((Go.bits .and .i64 t41 t42) != t42) = false:=bne_eq_false_iff_eq.mpr c33;clear c33;obtain rfl:=Option.some.inj H;have p40:0 ≤ (x49_4:Int):=of_decide_eq_true ab;have q40:x49_4 < (l0_1.length:Int):=of_decide_eq_true ab;obtain ⟨ad40,A40_0,c384_0,e40,hx40_0,hl40_0,hi40_0⟩:=at_LI HR0_1.out x49_4 p40 q40;obtain rfl:ad37 = ad40:=(by injection e40);replace hx40_0:=(HB.out.cell (World.block_lt_of_cell? w _ hx40_0)).trans hx40_0;have HR40_0:=aM hi40_0;have HC40_0:=aM hl40_0;clear hi40_0 hl40_0;replace p40:=eq_true p40;replace q40:=eq_true q40;go_wp2_with (first|(go_at_call 47;(with_reducible refine (impl_maskOf.calls k4 _ _ (rd_LI l0_1 x28_2) t41 _ ?side1 ?side2 A30.out).mono ?_);(case side1=>exact qcs HR37_0.out HB.out);(case side2=>exact HC37_0.out);rintro e w' ⟨rfl,⟨nd,rfl⟩⟩)|(go_at_call 47;(with_reducible refine (impl_maskOf.calls k4 _ _ (rd_LI l0_1 x49_4) t42 _ ?side1 ?side2 A31.out).mono ?_);(case side1=>exact qc (Kd.C_below HR40_0.out bw));(case side2=>exact HC40_0.out);rintro e w' ⟨rfl,⟨nd,rfl⟩⟩)|(go_at_call 47;(with_reducible refine (impl_maskOf.calls k4 _ _ (rd_LI l0_1 x49_4) t42 _ ?side1 ?side2 A32.out).mono ?_);(case side1=>exact qc (Kd.C_below HR40_0.out bw));(case side2=>exact HC40_0.out);rintro e w' ⟨rfl,⟨nd,rfl⟩⟩))
               go_ret
               exact ⟨eE,by exact bw⟩
              ·rw [if_neg c33] at H;have c33b0:((Go.bits .and .i64 t41 t42) == t42) = false:=beq_eq_false_iff_ne.mpr c33;have c33b1:((Go.bits .and .i64 t41 t42) != t42) = true:=bne_iff_ne.mpr c33;have H':=aM H;clear H;have p40:0 ≤ (x49_4:Int):=of_decide_eq_true ab;have q40:x49_4 < (l0_1.length:Int):=of_decide_eq_true ab;obtain ⟨ad40,A40_0,c384_0,e40,hx40_0,hl40_0,hi40_0⟩:=at_LI HR0_1.out x49_4 p40 q40;obtain rfl:ad37 = ad40:=(by injection e40);replace hx40_0:=(HB.out.cell (World.block_lt_of_cell? w _ hx40_0)).trans hx40_0;have HR40_0:=aM hi40_0;have HC40_0:=aM hl40_0;clear hi40_0 hl40_0;replace p40:=eq_true p40;replace q40:=eq_true q40;go_wp2_with (first|(go_at_call 47;(with_reducible refine (impl_maskOf.calls k4 _ _ (rd_LI l0_1 x28_2) t41 _ ?side1 ?side2 A30.out).mono ?_);(case side1=>exact qcs HR37_0.out HB.out);(case side2=>exact HC37_0.out);rintro e w' ⟨rfl,⟨nd,rfl⟩⟩)|(go_at_call 47;(with_reducible refine (impl_maskOf.calls k4 _ _ (rd_LI l0_1 x49_4) t42 _ ?side1 ?side2 A31.out).mono ?_);(case side1=>exact qc (Kd.C_below HR40_0.out bw));(case side2=>exact HC40_0.out);rintro e w' ⟨rfl,⟨nd,rfl⟩⟩)|(go_at_call 47;(with_reducible refine (impl_maskOf.calls k4 _ _ (rd_LI l0_1 x49_4) t42 _ ?side1 ?side2 A32.out).mono ?_);(case side1=>exact qc (Kd.C_below HR40_0.out bw));(case side2=>exact HC40_0.out);rintro e w' ⟨rfl,⟨nd,rfl⟩⟩))
               go_roundg k4
               case measure=>have:=HJ1.out;have:=HK2.out;have:=HJ16.out;have:=HK4.out;omega
               case rel=>exact ⟨(wrap64 (x49_4 + 1)),qrs,H',⟨by have:=HJ1.out;have:=HK2.out;have:=HJ16.out;have:=HK4.out;omega⟩,⟨bk1 BK34.out⟩,⟨by exact bw⟩⟩
            ·rw [if_neg c26] at H;have c26b0:=decide_eq_false c26;clear c26;have H':=aM H;clear H;go_wp2
             go_roundg k4
             case measure=>have:=HJ1.out;have:=HK2.out;have:=HJ16.out;have:=HK4.out;omega
             case rel=>exact ⟨(wrap64 (x28_2 + 1)),qrs,H',⟨by have:=HJ1.out;have:=HK2.out;have:=HJ16.out;have:=HK4.out;omega⟩,⟨bk1 BK34.out⟩,⟨by exact bw⟩⟩
      ·rw [if_neg c14] at H;have c14b0:=decide_eq_false c14;clear c14;obtain rfl:=Option.some.inj H;go_wp2
       go_ret
       exact ⟨eE,by exact bw⟩


/-! ### impl_votesBy_1_1: function 92 -/
def impl_votesBy_1_1.f (a0:Int) (a1:Int):Option (Bool):=some ((Go.bits .and .i64 a1 a0) == a0)
set_option maxHeartbeats 8000000 in
set_option maxRecDepth 100000 in
theorem impl_votesBy_1_1.calls (a0:Int) (gc1:Nat) (a1:Int) (r:Bool) (w:World) (hb1:w.heap[gc1]? = some (.cells #[.int .i64 a1] 3 (0,0))) (h:impl_votesBy_1_1.f a0 a1 = some r) :
  Calls Tryz.prog 92 #[.int .i64 a0,.pointer (some ⟨gc1,0,none⟩)] w fun e w'=>e = .returned (.bool r) ∧ Drawn0 w w':=by
 have BK1:=aM hb1;clear hb1;have H:(some ((Go.bits .and .i64 a1 a0) == a0)) = some r:=h;clear h;obtain rfl:=Option.some.inj H;have hcz3_0:=cz BK1.out 0;have hfz3_0:=blk_frozen BK1.out 0;go_enter Tryz.func92,Tryz.ntmps92;go_wp2
 go_ret
 exact ⟨qrs,dR⟩
theorem impl_votesBy_1_1.enters:∀ (args:Array Value) (w:World),(callFunc 92 args).run Tryz.prog w = .ok (.enter 92 args) w:=enters_of Tryz.func92 kR rfl


/-! ### impl_votesBy_1: function 91 -/
def impl_votesBy_1.f (k:Nat) (a0:Int) (l1:List Int):Option (Bool):=(slices_ContainsFunc_int_int.f k l1 (fun y0_=>impl_votesBy_1_1.f y0_ a0)).bind fun t2=>(some t2)
set_option maxHeartbeats 8000000 in
set_option maxRecDepth 100000 in
theorem impl_votesBy_1.calls (k:Nat) (a0:Int) (gc1:Nat) (A1:Option Addr) (c1:Nat) (l1:List Int) (r:Bool) (w:World) (hr1:Kd.C (Kd.int .i64) w A1 l1.length l1) (hc1:l1.length ≤ c1) (hb1:w.heap[gc1]? = some (.cells #[.slice A1 l1.length c1] 22 (0,0))) (h:impl_votesBy_1.f k a0 l1 = some r) :
  Calls Tryz.prog 91 #[.int .i64 a0,.pointer (some ⟨gc1,0,none⟩)] w fun e w'=>e = .returned (.bool r) ∧ Below w.heap.size w w':=by
 have hmf:∀ (fn:Fn) (first cap:Array Value) (w:World),(Instr.makeFunc fn first cap).run Tryz.prog w = .ok (.func fn first cap) w:=fun _ _ _ _=>rfl
 have HR1:=aM hr1;have HC1:=aM hc1;clear hr1 hc1;have BK1:=aM hb1;clear hb1;have HB:=aM (Below.refl w.heap.size w);have H:((slices_ContainsFunc_int_int.f k l1 (fun y0_=>impl_votesBy_1_1.f y0_ a0)).bind fun t9=>(some t9)) = some r:=h;clear h;replace H:=oB H;obtain ⟨t9,A3,H⟩:=H;(try dsimp only at H)
 obtain rfl:=Option.some.inj H;go_enter Tryz.func91,Tryz.ntmps91;go_wp2_with (first|((with_reducible refine gate_dst (N:=2) rfl ?_);refine bE 2 #[.int .i64 a0] 3 ?_;intro gb8 hg w4 hbox hb;have BK8:=aM (hbox);have GW8:=aM (gS hg);have GE8:=aM (gS hg);replace HB:=aM (below_step bw hb);have NB1_388:=aM (nL BK1.out hg);have NB8_1:=aM (nR BK1.out hg);replace BK1:=aM (bB BK1.out hb);clear hb hbox hg;have hnb5:=NB1_388.out;have hnc5:=NB8_1.out;have hcz6_0:=cz BK1.out 0;have hfz6_0:=blk_frozen BK1.out 0)|((with_reducible refine gate_callee (f:=85) rfl ?_);refine gL 6 Tryz.func85 #[.slice A1 l1.length c1,.func (.func 92) #[] #[.pointer (some ⟨gb8,0,none⟩)]] ?_;(with_reducible refine (slices_ContainsFunc_int_int.calls k _ _ l1 (fun y0_=>impl_votesBy_1_1.f y0_ a0) 92 #[.pointer (some ⟨gb8,0,none⟩)] impl_votesBy_1_1.enters t9 _ ?side1 ?side2 ?side3 A3.out).mono ?_);(case side1=>exact qcs HR1.out HB.out);(case side2=>exact HC1.out);(case side3=>exact (fun W_ a0_ r0_ hx_ hb_ =>(impl_votesBy_1_1.calls a0_ gb8 a0 r0_ W_  (box_later (bk1 BK8.out) hb_) hx_).mono (fun _ _ h_=>⟨h_.1,h_.2.below⟩)));rintro e w7 ⟨rfl,hb⟩;refine ⟨_,rfl,?_⟩;replace BK1:=aM (bB BK1.out hb);replace BK8:=aM (bB BK8.out hb);replace HB:=aM (below_step bw hb);(try clear hb)))
 go_ret
 exact ⟨eE,by exact bw⟩
theorem impl_votesBy_1.enters:∀ (args:Array Value) (w:World),(callFunc 91 args).run Tryz.prog w = .ok (.enter 91 args) w:=enters_of Tryz.func91 kR rfl


/-! ### impl_votesBy: function 71 -/
def impl_votesBy.l0:Nat → Int → List (List Int) → Int → Int → List Int → Option (Int × List Bool)
 | 0,_,_,_,_,_=>none
 | k + 1,x0,x9,x10,x11,x4=>if x11 < x10 then (if 0 ≤ x11 then (if x11 < (x9.length:Int) then ((impl_maskOf.f k (rd_LI x9 x11)).bind fun t2=>(if x4.length < 17592186044416 then (impl_votesBy.l0 k x0 x9 x10 (wrap64 (x11 + 1)) (x4 ++ [t2])) else (none))) else (none)) else (none)) else ((impl_votesOf.f k x0 (fun y0_=>impl_votesBy_1.f k y0_ x4)).bind fun bt3=>(some (bt3.1,bt3.2)))
def impl_votesBy.f (k:Nat) (a0:Int) (l1:List (List Int)):Option (Int × List Bool):=impl_votesBy.l0 k a0 l1 (l1.length:Int) 0 (([]:List Int))
set_option maxHeartbeats 8000000 in
set_option maxRecDepth 100000 in
theorem impl_votesBy.calls (k:Nat) (a0:Int) (A1:Option Addr) (c1:Nat) (l1:List (List Int)) (r1:Int) (r2:List Bool) (w:World) (hr1:Kd.C (Kd.slice 3 (Kd.int .i64)) w A1 l1.length l1) (hc1:l1.length ≤ c1) (h:impl_votesBy.f k a0 l1 = some (r1,r2)) :
  Calls Tryz.prog 71 #[.int .i64 a0,.slice A1 l1.length c1] w fun e w'=>∃ v1_:Value,e = .returned (.agg #[.int .i64 r1,v1_]) ∧ Kd.R Kd.bool 4 w' w.heap.size (fun _=>True) v1_ r2 ∧ Below w.heap.size w w':=by
 have hmf:∀ (fn:Fn) (first cap:Array Value) (w:World),(Instr.makeFunc fn first cap).run Tryz.prog w = .ok (.func fn first cap) w:=fun _ _ _ _=>rfl
 have hu59:=Tryz.underlying59;have HR1:=aM hr1;have HC1:=aM hc1;clear hr1 hc1;have HB:=aM (Below.refl w.heap.size w);have H:(impl_votesBy.l0 k a0 l1 (l1.length:Int) 0 (([]:List Int))) = some (r1,r2):=h;clear h;obtain ⟨y26,hy26⟩:∃ y_:List Int,y_ = (([]:List Int)):=⟨_,rfl⟩;replace H:(impl_votesBy.l0 k a0 l1 (l1.length:Int) 0 y26) = some (r1,r2):=yR hy26 H;have Ny26:=aM hy26;clear hy26;have H':=aM H;clear H;go_enter Tryz.func71,Tryz.ntmps71;go_wp2_with (first|((with_reducible refine gate_dst (N:=4) rfl ?_);refine bE 4 #[.int .i64 0,.slice none 0 0] 59 ?_;intro gb25 hg w3 hbox hb;have BK25:=aM (hbox);have GW25:=aM (gS hg);have GE25:=aM (gS hg);replace HB:=aM (below_step bw hb);clear hb hbox hg)|((with_reducible refine gate_dst (N:=8) rfl ?_);refine Kd.R_lit (Kd.int .i64) _ 3 ?hg (N:=8) ?hd (xs:=([]:List Int)) (inner:=[]) (ok:=fun _=>True) (okp:=fun _=>True) ?hr ?hp (fun _ hk=>hk) trivial (Below.refl _ _) (Nat.le_refl _) (by simp) ?_;(case hd=>rfl);(case hg=>rfl);(case hr=>first|(go_simp;done)|(go_simp;rfl));(case hp=>exact (Reps.none _ _));intro v27 w4 ho5 hb hg_ hnew_;clear hg_ hnew_;(first|rw [← Ny26.out] at ho5|(simp only [Int.reduceToNat] at ho5;rw [← Ny26.out] at ho5));have HO28:=aM (Kd.R_lower ho5 (below_size bw));replace BK25:=aM (bB BK25.out hb);replace HB:=aM (below_step bw hb);clear hb ho5)|((with_reducible refine gate_dst (N:=5) rfl ?_);refine bE 5 #[.slice none 0 0] 22 ?_;intro gb29 hg w6 hbox hb;replace HO28:=aM (Kd.R_below (qra HO28.out) hb);have BK29:=aM (hbox);have GW29:=aM (gS hg);have GE29:=aM (gS hg);replace HB:=aM (below_step bw hb);have NB25_29:=aM (nL BK25.out hg);have NB29_25:=aM (nR BK25.out hg);replace BK25:=aM (bB BK25.out hb);clear hb hbox hg;obtain ⟨Ao7,co7,eo7⟩:=Kd.R_slice HO28.out;subst eo7;have hnb8:=NB29_25.out;have hnc8:=NB25_29.out;have hcz9_0:=cz BK29.out 0;have hfz9_0:=blk_frozen BK29.out 0))
 go_loopg [11] k (fun kq v11 w'=>∃ (x11_1:Int) (x40_1:List Int) (u40:Value),v11 = .int .i64 x11_1 ∧ Aside0 (impl_votesBy.l0 kq a0 l1 (l1.length:Int) x11_1 x40_1 = some (r1,r2)) ∧ Aside0 (kq ≤ k) ∧ Aside0 (Kd.R (Kd.int .i64) 3 w' w.heap.size (fun _=>True) u40 x40_1) ∧ Aside0 (w'.heap[gb25]? = some (.cells #[.int .i64 0,(.slice none 0 0)] 59 (0,0))) ∧ Aside0 (w'.heap[gb29]? = some (.cells #[u40] 22 (0,0))) ∧ Aside0 (Below w.heap.size w w'))
 case atStart=>exact ⟨(0),(y26),(.slice Ao7 y26.length co7),qrs,H',⟨Nat.le_refl _⟩,⟨by (with_reducible repeat (first|apply Kd.R_alloc|apply Kd.R_drewN|apply Kd.R_drew));exact Kd.R_mono (Kd.R_far (p:=⟨gb29,0,none⟩) (Kd.R_types HO28.out BK29.out (by decide)) (fun _ hk=>hk.2) (.slice Ao7 y26.length co7)) (fun _ hk=>trivial)⟩,⟨by (with_reducible repeat (first|refine blk_drewN ?_ _|refine blk_drew ?_|refine blk_alloc ?_ _));refine blk_far ?_ NB25_29.out _;(with_reducible repeat (first|refine blk_drewN ?_ _|refine blk_drew ?_|refine blk_alloc ?_ _));exact BK25.out⟩,⟨by (with_reducible repeat (first|refine blk_drewN ?_ _|refine blk_drew ?_|refine blk_alloc ?_ _));refine blk_put (cs:=#[.slice none 0 0]) ?_ 0 _ rfl;(with_reducible repeat (first|refine blk_drewN ?_ _|refine blk_drew ?_|refine blk_alloc ?_ _));exact BK29.out⟩,⟨by exact bw⟩⟩
 case round =>
  clear H';(try clear c1);(try clear hcz9_0);(try clear hfz9_0)
  obtain ⟨x11_1,x40_1,u40,rfl,HA,HK1,HO_40,BK25,BK29,HB⟩:=hrel
  cases gk with
  | zero=>exact absurd HA.out (by simp [impl_votesBy.l0])
  | succ k1 =>
   have H:=HA.out;clear HA;simp only [impl_votesBy.l0] at H;by_cases c10:x11_1 < (l1.length:Int)
   ·rw [if_pos c10] at H;have c10b0:=decide_eq_true c10;clear c10;replace H:=iN H;obtain ⟨c11,H⟩:=H;have c11b0:decide (0 ≤ x11_1) = true:=decide_eq_true c11;clear c11;replace H:=iN H;obtain ⟨c12,H⟩:=H;have c12b0:decide (x11_1 < (l1.length:Int)) = true:=decide_eq_true c12;clear c12;replace H:=oB H;obtain ⟨t31,A13,H⟩:=H;(try dsimp only at H)
    replace H:=iN H;obtain ⟨c14,H⟩:=H;have LMc14:=aM c14;clear c14;obtain ⟨y33,hy33⟩:∃ y_:List Int,y_ = (x40_1 ++ [t31]):=⟨_,rfl⟩;replace H:(impl_votesBy.l0 k1 a0 l1 (l1.length:Int) (wrap64 (x11_1 + 1)) y33) = some (r1,r2):=yR hy33 H;have Ny33:=aM hy33;clear hy33;have H':=aM H;clear H;have p30:0 ≤ (x11_1:Int):=of_decide_eq_true ab;have q30:x11_1 < (l1.length:Int):=of_decide_eq_true ab;obtain ⟨ad30,A30_0,c395_0,e30,hx30_0,hl30_0,hi30_0⟩:=at_LI HR1.out x11_1 p30 q30;cases e30
    replace hx30_0:=(HB.out.cell (World.block_lt_of_cell? w _ hx30_0)).trans hx30_0;have HR30_0:=aM hi30_0;have HC30_0:=aM hl30_0;clear hi30_0 hl30_0;replace p30:=eq_true p30;replace q30:=eq_true q30
    try go_wp2
    replace HO_40:=aM (Kd.R_drew HO_40.out);replace BK25:=aM (blk_drew BK25.out);replace BK29:=aM (blk_drew BK29.out);replace HB:=aM (below_drew1 HB.out);refine start_ (n:=6) (S:=fun w'=>w'.cell? ⟨gb29,0,none⟩ = some (u40)) (ds:=[5]) (mA 6 0) kR rfl rfl ((blk_cell BK29.out 0).trans rfl) (fun hHeld=>?_);generalize wr.drew = w15 at HO_40 BK25 BK29 HB hHeld ⊢
    refine pure_ (i:=1) (N:=some 16) (v:=?_) (a':=?_) (mA 6 2) rfl rfl kR (fun _ _ _ h=>h) (Or.inl ⟨by rfl,?_⟩) ?_ ?_;rotate_left
    ·intro w';go_simp
     with_reducible rfl
    rotate_left
    ·simp only [Act.put,sA,sZ,sS,i64_w,i32_w];rfl
    refine take_ (i:=0) (N:=some 15) (v:=?_) (a':=?_) (mA 6 3) rfl rfl kR (fun _ _ _ h=>h) (Or.inl ⟨by rfl,?_⟩) hHeld ?_ ?_;rotate_left
    ·intro w' s0;go_simp
     with_reducible rfl
    rotate_left
    ·simp only [Act.put,sA,sZ,sS,i64_w,i32_w];rfl
    refine one_ (i:=2) (N:=some 17) (mA 6 7) rfl rfl kR (by decide) (fun K hK=>?_);refine gC Tryz.func47 #[.slice A30_0 (rd_LI l1 x11_1).length c395_0] ?_
    with_reducible refine (impl_maskOf.calls k1 _ _ (rd_LI l1 x11_1) t31 _ ?side1 ?side2 A13.out).mono ?_
    (case side1=>exact qcs HR30_0.out HB.out)
    (case side2=>exact HC30_0.out)
    rintro e w' ⟨rfl,⟨nd,rfl⟩⟩
    refine ⟨_,rfl,?_⟩;refine hK.out _ _ ((blk_cell BK29.out 0).trans rfl) (fun hHeld=>?_);clear hK K;refine nM 17 ?_;refine one_ (i:=3) (N:=some 18) (mA 6 15) rfl rfl kR (by decide) (fun K hK=>?_);refine value_ (w1:=?_) (v:=?_) (by rfl) rfl ?_ ?_;rotate_left 2
    ·go_simp
     constructor
     ·rfl
     ·rfl
    refine hK.out _ _ ((blk_cell (blk_alloc BK29.out _) 0).trans rfl) (fun hHeld=>?_);clear hK K;refine nM 18 ?_;refine one_ (i:=4) (N:=some 19) (mA 6 31) rfl rfl kR (by decide) (fun K hK=>?_);refine Kd.R_append_step (Kd.int .i64) (w0:=w) w.heap.size (by rfl) (.tmp 15) (.tmp 18) 22 3 (.int .i64 0) 8 rfl Tryz.underlying22 info3 rfl (by decide) (by omega) u40 x40_1 t31 [.int .i64 t31] (fun _=>True) (fun _=>False) rfl rfl ?aP (fun _ hk=>hk.elim) ?aF ?aO ?aB ?aS ?aL ?_;(case aP=>exact rfl)
    (case aB=>exact bw)
    (case aF=>exact (fun _ _=>trivial))
    (case aO=>exact (qra HO_40.out))
    (case aS=>exact (below_size bw))
    (case aL=>have:=LMc14.out;omega)
    intro v34 w16 ho hb hg hat;rw [← Ny33.out] at ho;replace BK25:=aM (blk_grown (g:=gb25) (o:=.cells #[.int .i64 0,.slice none 0 0] 59 (0,0)) (bk1 BK25.out) hg (Kd.R_ne HO_40.out BK25.out (by decide)));replace BK29:=aM (blk_grown (g:=gb29) (o:=.cells #[u40] 22 (0,0)) (bk1 BK29.out) hg (Kd.R_ne HO_40.out BK29.out (by decide)));replace HB:=aM (hb);have HO35:=aM (ho);clear HO_40;clear ho hb hg hat;obtain ⟨Ao17,co17,eo17⟩:=Kd.R_slice HO35.out;(first|subst eo17|(injection eo17 with f1_ f2_ f3_;have f4_:=f1_.symm;have f5_:=f3_.symm;clear f1_ f2_ f3_;subst f4_;subst f5_))
    refine hK.out _ _ ((blk_cell BK29.out 0).trans rfl) (fun hHeld=>?_);clear hK K;refine nM 19 ?_;refine last_ (i:=5) (N:=none) (mA 6 63) rfl rfl kR (by decide) (fun K hK=>?_);have hs18:w16.cell? ⟨gb29,0,none⟩ = some (u40):=(blk_cell BK29.out 0).trans rfl;have hfs18:=blk_frozen BK29.out 0;have hns18_0:=NB25_29.out;have hms18_0:=NB29_25.out;refine skip_ (w1:=?_) (by rfl) rfl ?_ ?_;rotate_left
    ·go_simp
     rfl
    refine hK.out _ _ ?_;clear hK K;refine done_ kR ?_
    try go_wp2
    go_roundg k1
    case measure=>have:=HK1.out;omega
    case rel=>exact ⟨(wrap64 (x11_1 + 1)),(y33),(.slice Ao17 y33.length co17),qrs,H',⟨by have:=HK1.out;omega⟩,⟨by (with_reducible repeat (first|apply Kd.R_alloc|apply Kd.R_drewN|apply Kd.R_drew));exact Kd.R_mono (Kd.R_far (p:=⟨gb29,0,none⟩) (Kd.R_types HO35.out BK29.out (by decide)) (fun _ hk=>hk.2) (.slice Ao17 y33.length co17)) (fun _ hk=>trivial)⟩,⟨by (with_reducible repeat (first|refine blk_drewN ?_ _|refine blk_drew ?_|refine blk_alloc ?_ _));refine blk_far ?_ NB25_29.out _;(with_reducible repeat (first|refine blk_drewN ?_ _|refine blk_drew ?_|refine blk_alloc ?_ _));exact BK25.out⟩,⟨by (with_reducible repeat (first|refine blk_drewN ?_ _|refine blk_drew ?_|refine blk_alloc ?_ _));refine blk_put (cs:=#[u40]) ?_ 0 _ rfl;(with_reducible repeat (first|refine blk_drewN ?_ _|refine blk_drew ?_|refine blk_alloc ?_ _));exact BK29.out⟩,⟨by exact bw⟩⟩
   ·rw [if_neg c10] at H;have c10b0:=decide_eq_false c10;clear c10;replace H:=oB H;obtain ⟨⟨t36,t37⟩,A19,H⟩:=H;(try dsimp only at H)
    simp only [Option.some.injEq,Prod.mk.injEq] at H;obtain ⟨rfl,rfl⟩:=H;obtain ⟨Ao20,co20,eo20⟩:=Kd.R_slice HO_40.out;subst eo20;go_wp2_with (first|((with_reducible refine gate_callee (f:=60) rfl ?_);refine gL 23 Tryz.func60 #[.int .i64 a0,.func (.func 91) #[] #[.pointer (some ⟨gb29,0,none⟩)]] ?_;(with_reducible refine (impl_votesOf.calls k1 a0 (fun y0_=>impl_votesBy_1.f k1 y0_ x40_1) 91 #[.pointer (some ⟨gb29,0,none⟩)] impl_votesBy_1.enters t36 t37 _ ?side1 A19.out).mono ?_);(case side1=>exact (fun W_ a0_ r0_ hx_ hb_ =>(impl_votesBy_1.calls k1 a0_ gb29 _ _ x40_1 r0_ W_  (Kd.C_below (by repeat (first|exact (Kd.R_reads' HO_40.out).2.2|(with_reducible refine Kd.C_alloc ?_ _)|(with_reducible refine Kd.C_drewN ?_ _)|(with_reducible refine Kd.C_drew ?_))) hb_) (by exact (Kd.R_reads' HO_40.out).2.1) (box_later (bk1 BK29.out) hb_) hx_).mono (fun _ _ h_=>h_)));rintro e w21 ⟨v38,rfl,ho0,hb⟩;refine ⟨_,rfl,?_⟩;replace HO_40:=aM (Kd.R_below (qra HO_40.out) hb);have HO39:=aM (Kd.R_lower ho0 (below_size bw));replace BK25:=aM (bB BK25.out hb);replace BK29:=aM (bB BK29.out hb);replace HB:=aM (below_step bw hb);(try clear hb);(try clear hk);(try clear ho0);have hnb22:=NB25_29.out;have hnc22:=NB29_25.out;have hcz23_0:=cz BK25.out 0;have hcz23_1:=cz BK25.out 1;have hfz23_0:=blk_frozen BK25.out 0;have hfz23_1:=blk_frozen BK25.out 1;obtain ⟨Ao24,co24,eo24⟩:=Kd.R_slice HO39.out;subst eo24))
    refine bodyPost_ret (results_cell_row rfl _ _ gb25 59 #[.int .i64 t36,.slice Ao24 t37.length co24] (0,0) _ rfl (by (with_reducible repeat (first|refine blk_drewN ?_ _|refine blk_drew ?_|refine blk_alloc ?_ _));refine blk_put (cs:=#[.int .i64 t36,.slice none 0 0]) ?_ 1 _ rfl;(with_reducible repeat (first|refine blk_drewN ?_ _|refine blk_drew ?_|refine blk_alloc ?_ _));refine blk_put (cs:=#[.int .i64 0,.slice none 0 0]) ?_ 0 _ rfl;(with_reducible repeat (first|refine blk_drewN ?_ _|refine blk_drew ?_|refine blk_alloc ?_ _));exact BK25.out) Tryz.underlying59 rfl kR) rfl ?_;exact ⟨_,eE,by (with_reducible repeat (first|apply Kd.R_alloc|apply Kd.R_drewN|apply Kd.R_drew));exact Kd.R_mono (Kd.R_far (p:=⟨gb25,1,none⟩) (Kd.R_far (p:=⟨gb25,0,none⟩) (Kd.R_types HO39.out BK25.out (by decide)) (fun _ hk=>hk.2) (.int .i64 t36)) (fun _ hk=>hk.2) (.slice Ao24 t37.length co24)) (fun _ hk=>trivial),by exact bw⟩


/-! ### impl_Game_votes: function 42 -/
def impl_Game_votes.f (k:Nat) (a0_0:Int) (l0_1:List (List Int)):Option (Int × List Bool):=(impl_votesBy.f k a0_0 l0_1).bind fun bt2=>(some (bt2.1,bt2.2))
set_option maxHeartbeats 8000000 in
set_option maxRecDepth 100000 in
theorem impl_Game_votes.calls (k:Nat) (a0_0:Int) (A0_1:Option Addr) (c0_1:Nat) (l0_1:List (List Int)) (r1:Int) (r2:List Bool) (w:World) (hr0_1:Kd.C (Kd.slice 3 (Kd.int .i64)) w A0_1 l0_1.length l0_1) (hc0_1:l0_1.length ≤ c0_1) (h:impl_Game_votes.f k a0_0 l0_1 = some (r1,r2)) :
  Calls Tryz.prog 42 #[.agg #[.int .i64 a0_0,.slice A0_1 l0_1.length c0_1]] w fun e w'=>∃ v1_:Value,e = .returned (.agg #[.int .i64 r1,v1_]) ∧ Kd.R Kd.bool 4 w' w.heap.size (fun _=>True) v1_ r2 ∧ Below w.heap.size w w':=by
 have hu28:=Tryz.underlying28;have hu59:=Tryz.underlying59;have HR0_1:=aM hr0_1;have HC0_1:=aM hc0_1;clear hr0_1 hc0_1;have HB:=aM (Below.refl w.heap.size w);have H:((impl_votesBy.f k a0_0 l0_1).bind fun bt12=>(some (bt12.1,bt12.2))) = some (r1,r2):=h;clear h;replace H:=oB H;obtain ⟨⟨t12,t13⟩,A2,H⟩:=H;(try dsimp only at H)
 simp only [Option.some.injEq,Prod.mk.injEq] at H;obtain ⟨rfl,rfl⟩:=H;go_enter Tryz.func42,Tryz.ntmps42;go_wp2_with (first|((with_reducible refine gate_dst (N:=1) rfl ?_);refine bE 1 #[.int .i64 a0_0,.slice A0_1 l0_1.length c0_1] 28 ?_;intro gb10 hg w3 hbox hb;have BK10:=aM (hbox);have GW10:=aM (gS hg);have GE10:=aM (gS hg);replace HB:=aM (below_step bw hb);clear hb hbox hg)|((with_reducible refine gate_dst (N:=2) rfl ?_);refine bE 2 #[.int .i64 0,.slice none 0 0] 59 ?_;intro gb11 hg w4 hbox hb;have BK11:=aM (hbox);have GW11:=aM (gS hg);have GE11:=aM (gS hg);replace HB:=aM (below_step bw hb);have NB10_11:=aM (nL BK10.out hg);have NB11_10:=aM (nR BK10.out hg);replace BK10:=aM (bB BK10.out hb);clear hb hbox hg;have hnb5:=NB10_11.out;have hnc5:=NB11_10.out;have hcz6_0:=cz BK10.out 0;have hcz6_1:=cz BK10.out 1;have hfz6_0:=blk_frozen BK10.out 0;have hfz6_1:=blk_frozen BK10.out 1)|((with_reducible refine gate_callee (f:=71) rfl ?_);refine gL 7 Tryz.func71 #[.int .i64 a0_0,.slice A0_1 l0_1.length c0_1] ?_;(with_reducible refine (impl_votesBy.calls k a0_0 _ _ l0_1 t12 t13 _ ?side1 ?side2 A2.out).mono ?_);(case side1=>exact qcs HR0_1.out HB.out);(case side2=>exact HC0_1.out);rintro e w7 ⟨v14,rfl,ho0,hb⟩;refine ⟨_,rfl,?_⟩;have HO15:=aM (Kd.R_lower ho0 (below_size bw));replace BK10:=aM (bB BK10.out hb);replace BK11:=aM (bB BK11.out hb);replace HB:=aM (below_step bw hb);(try clear hb);(try clear ho0);have hcz8_0:=cz BK11.out 0;have hcz8_1:=cz BK11.out 1;have hfz8_0:=blk_frozen BK11.out 0;have hfz8_1:=blk_frozen BK11.out 1;obtain ⟨Ao9,co9,eo9⟩:=Kd.R_slice HO15.out;subst eo9))
 refine bodyPost_ret (results_cell_row rfl _ _ gb11 59 #[.int .i64 t12,.slice Ao9 t13.length co9] (0,0) _ rfl (by (with_reducible repeat (first|refine blk_drewN ?_ _|refine blk_drew ?_|refine blk_alloc ?_ _));refine blk_put (cs:=#[.int .i64 t12,.slice none 0 0]) ?_ 1 _ rfl;(with_reducible repeat (first|refine blk_drewN ?_ _|refine blk_drew ?_|refine blk_alloc ?_ _));refine blk_put (cs:=#[.int .i64 0,.slice none 0 0]) ?_ 0 _ rfl;(with_reducible repeat (first|refine blk_drewN ?_ _|refine blk_drew ?_|refine blk_alloc ?_ _));exact BK11.out) Tryz.underlying59 rfl kR) rfl ?_;exact ⟨_,eE,by (with_reducible repeat (first|apply Kd.R_alloc|apply Kd.R_drewN|apply Kd.R_drew));exact Kd.R_mono (Kd.R_far (p:=⟨gb11,1,none⟩) (Kd.R_far (p:=⟨gb11,0,none⟩) (Kd.R_types HO15.out BK11.out (by decide)) (fun _ hk=>hk.2) (.int .i64 t12)) (fun _ hk=>hk.2) (.slice Ao9 t13.length co9)) (fun _ hk=>trivial),by exact bw⟩


/-! ### impl_CountWins: function 14 -/
def impl_CountWins.f (k:Nat) (a0_0:Int) (l0_1:List (List Int)):Option (Int × Bool):=(impl_IsGame.f k a0_0 l0_1).bind fun t2=>(if t2 = true then ((impl_Game_votes.f k a0_0 l0_1).bind fun bt3=>((impl_votes_countWins.f k bt3.1 bt3.2).bind fun t4=>(some (t4,true)))) else (some (0,false)))
set_option maxHeartbeats 8000000 in
set_option maxRecDepth 100000 in
theorem impl_CountWins.calls (k:Nat) (a0_0:Int) (A0_1:Option Addr) (c0_1:Nat) (l0_1:List (List Int)) (r1:Int) (r2:Bool) (w:World) (hr0_1:Kd.C (Kd.slice 3 (Kd.int .i64)) w A0_1 l0_1.length l0_1) (hc0_1:l0_1.length ≤ c0_1) (h:impl_CountWins.f k a0_0 l0_1 = some (r1,r2)) :
  Calls Tryz.prog 14 #[.agg #[.int .i64 a0_0,.slice A0_1 l0_1.length c0_1]] w fun e w'=>e = .returned (.tuple #[.int .i64 r1,.bool r2]) ∧ Below w.heap.size w w':=by
 have hu28:=Tryz.underlying28;have HR0_1:=aM hr0_1;have HC0_1:=aM hc0_1;clear hr0_1 hc0_1;have HB:=aM (Below.refl w.heap.size w);have H:((impl_IsGame.f k a0_0 l0_1).bind fun t18=>(if t18 = true then ((impl_Game_votes.f k a0_0 l0_1).bind fun bt19=>((impl_votes_countWins.f k bt19.1 bt19.2).bind fun t23=>(some (t23,true)))) else (some (0,false)))) = some (r1,r2):=h;clear h;replace H:=oB H;obtain ⟨t18,A2,H⟩:=H;(try dsimp only at H)
 by_cases c3:t18 = true
 ·subst c3;rw [if_pos rfl] at H;replace H:=oB H;obtain ⟨⟨t19,t20⟩,A4,H⟩:=H;(try dsimp only at H)
  replace H:=oB H;obtain ⟨t23,A5,H⟩:=H;(try dsimp only at H)
  simp only [Option.some.injEq,Prod.mk.injEq] at H;obtain ⟨rfl,rfl⟩:=H;go_enter Tryz.func14,Tryz.ntmps14;go_wp2_with (first|((with_reducible refine gate_dst (N:=1) rfl ?_);refine bE 1 #[.int .i64 a0_0,.slice A0_1 l0_1.length c0_1] 28 ?_;intro gb17 hg w6 hbox hb;have BK17:=aM (hbox);have GW17:=aM (gS hg);have GE17:=aM (gS hg);replace HB:=aM (below_step bw hb);clear hb hbox hg;have hcz7_0:=cz BK17.out 0;have hcz7_1:=cz BK17.out 1;have hfz7_0:=blk_frozen BK17.out 0;have hfz7_1:=blk_frozen BK17.out 1)|((with_reducible refine gate_callee (f:=16) rfl ?_);refine gL 5 Tryz.func16 #[.agg #[.int .i64 a0_0,.slice A0_1 l0_1.length c0_1]] ?_;(with_reducible refine (impl_IsGame.calls k a0_0 _ _ l0_1 true _ ?side1 ?side2 A2.out).mono ?_);(case side1=>exact qcs HR0_1.out HB.out);(case side2=>exact HC0_1.out);rintro e w8 ⟨rfl,hb⟩;refine ⟨_,rfl,?_⟩;replace BK17:=aM (bB BK17.out hb);replace HB:=aM (below_step bw hb);(try clear hb);have hcz9_0:=cz BK17.out 0;have hcz9_1:=cz BK17.out 1;have hfz9_0:=blk_frozen BK17.out 0;have hfz9_1:=blk_frozen BK17.out 1)|((with_reducible refine gate_callee (f:=42) rfl ?_);refine gL 8 Tryz.func42 #[.agg #[.int .i64 a0_0,.slice A0_1 l0_1.length c0_1]] ?_;(with_reducible refine (impl_Game_votes.calls k a0_0 _ _ l0_1 t19 t20 _ ?side1 ?side2 A4.out).mono ?_);(case side1=>exact qcs HR0_1.out HB.out);(case side2=>exact HC0_1.out);rintro e w10 ⟨v21,rfl,ho0,hb⟩;refine ⟨_,rfl,?_⟩;have HO22:=aM (Kd.R_lower ho0 (below_size bw));replace BK17:=aM (bB BK17.out hb);replace HB:=aM (below_step bw hb);(try clear hb);(try clear ho0);obtain ⟨Ao11,co11,eo11⟩:=Kd.R_slice HO22.out;subst eo11)|((with_reducible refine gate_callee (f:=38) rfl ?_);refine gL 9 Tryz.func38 #[.agg #[.int .i64 t19,.slice Ao11 t20.length co11]] ?_;(with_reducible refine (impl_votes_countWins.calls k t19 _ _ t20 t23 _ ?side1 ?side2 A5.out).mono ?_);(case side1=>exact qc (Kd.R_reads' HO22.out).2.2);(case side2=>exact (Kd.R_reads' HO22.out).2.1);rintro e w12 ⟨rfl,hb⟩;refine ⟨_,rfl,?_⟩;replace HO22:=aM (Kd.R_below (qra HO22.out) hb);replace BK17:=aM (bB BK17.out hb);replace HB:=aM (below_step bw hb);(try clear hb)))
  go_ret2
  exact ⟨eE,by exact bw⟩
 ·replace c3:=Bool.eq_false_iff.mpr c3;subst c3;rw [if_neg (show ¬ (false = true) by decide)] at H;simp only [Option.some.injEq,Prod.mk.injEq] at H;obtain ⟨rfl,rfl⟩:=H;go_enter Tryz.func14,Tryz.ntmps14;go_wp2_with (first|((with_reducible refine gate_dst (N:=1) rfl ?_);refine bE 1 #[.int .i64 a0_0,.slice A0_1 l0_1.length c0_1] 28 ?_;intro gb17 hg w13 hbox hb;have BK17:=aM (hbox);have GW17:=aM (gS hg);have GE17:=aM (gS hg);replace HB:=aM (below_step bw hb);clear hb hbox hg;have hcz14_0:=cz BK17.out 0;have hcz14_1:=cz BK17.out 1;have hfz14_0:=blk_frozen BK17.out 0;have hfz14_1:=blk_frozen BK17.out 1)|((with_reducible refine gate_callee (f:=16) rfl ?_);refine gL 5 Tryz.func16 #[.agg #[.int .i64 a0_0,.slice A0_1 l0_1.length c0_1]] ?_;(with_reducible refine (impl_IsGame.calls k a0_0 _ _ l0_1 false _ ?side1 ?side2 A2.out).mono ?_);(case side1=>exact qcs HR0_1.out HB.out);(case side2=>exact HC0_1.out);rintro e w15 ⟨rfl,hb⟩;refine ⟨_,rfl,?_⟩;replace BK17:=aM (bB BK17.out hb);replace HB:=aM (below_step bw hb);(try clear hb)))
  go_ret2
  exact ⟨eE,by exact bw⟩


/-! ### impl_members: function 72 -/
def impl_members.l0:Nat → (Int → Option (Bool)) → List Int → Int → Int → Option (List Int)
 | 0,_,_,_,_=>none
 | k + 1,x1,x5,x8,x9=>if x9 < x8 then ((x1 x9).bind fun t2=>(if t2 = true then (if x5.length < 17592186044416 then (impl_members.l0 k x1 (x5 ++ [x9]) x8 (wrap64 (x9 + 1))) else (none)) else (impl_members.l0 k x1 x5 x8 (wrap64 (x9 + 1))))) else (some x5)
def impl_members.f (k:Nat) (a0:Int) (a1:(Int → Option (Bool))):Option (List Int):=impl_members.l0 k a1 (([]:List Int)) a0 0
set_option maxHeartbeats 8000000 in
set_option maxRecDepth 100000 in
theorem impl_members.calls (k:Nat) (a0:Int) (a1:(Int → Option (Bool))) (g1_:Nat) (lb1_:Array Value) (eg1_:∀ (args:Array Value) (w:World),(callFunc g1_ args).run Tryz.prog w = .ok (.enter g1_ args) w) (r:List Int) (w:World) (hp1:∀ (W:World) (b0_:Int) (r0_:Bool),a1 b0_ = some r0_ → Below w.heap.size w W → Calls Tryz.prog g1_ (#[.int .i64 b0_] ++ lb1_) W fun e w'=>e = .returned (.bool r0_) ∧ Below W.heap.size W w') (h:impl_members.f k a0 a1 = some r) :
  Calls Tryz.prog 72 #[.int .i64 a0,.func (.func g1_) #[] lb1_] w fun e w'=>∃ v0_:Value,e = .returned (v0_) ∧ Kd.R (Kd.int .i64) 3 w' w.heap.size (fun _=>True) v0_ r ∧ Below w.heap.size w w':=by
 have HP1:=aM hp1;clear hp1;have HB:=aM (Below.refl w.heap.size w);have H:(impl_members.l0 k a1 (([]:List Int)) a0 0) = some r:=h;clear h;obtain ⟨y12,hy12⟩:∃ y_:List Int,y_ = (([]:List Int)):=⟨_,rfl⟩;replace H:(impl_members.l0 k a1 y12 a0 0) = some r:=yR hy12 H;have Ny12:=aM hy12;clear hy12;have H':=aM H;clear H;go_enter Tryz.func72,Tryz.ntmps72;go_wp2_with (first|((with_reducible refine gate_dst (N:=7) rfl ?_);refine Kd.R_lit (Kd.int .i64) _ 3 ?hg (N:=7) ?hd (xs:=([]:List Int)) (inner:=[]) (ok:=fun _=>True) (okp:=fun _=>True) ?hr ?hp (fun _ hk=>hk) trivial (Below.refl _ _) (Nat.le_refl _) (by simp) ?_;(case hd=>rfl);(case hg=>rfl);(case hr=>first|(go_simp;done)|(go_simp;rfl));(case hp=>exact (Reps.none _ _));intro v13 w3 ho4 hb hg_ hnew_;clear hg_ hnew_;(first|rw [← Ny12.out] at ho4|(simp only [Int.reduceToNat] at ho4;rw [← Ny12.out] at ho4));have HO14:=aM (Kd.R_lower ho4 (below_size bw));replace HB:=aM (below_step bw hb);clear hb ho4))
 go_loopg [5,9] k (fun kq v5 v9 w'=>∃ (x5_1:List Int) (x9_1:Int),v9 = .int .i64 x9_1 ∧ Aside0 (impl_members.l0 kq a1 x5_1 a0 x9_1 = some r) ∧ Aside0 (kq ≤ k) ∧ Aside0 (Kd.R (Kd.int .i64) 3 w' w.heap.size (fun _=>True) v5 x5_1) ∧ Aside0 (Below w.heap.size w w'))
 case atStart=>exact ⟨(y12),(0),qrs,H',⟨Nat.le_refl _⟩,⟨qra HO14.out⟩,⟨by exact bw⟩⟩
 case round =>
  clear H';obtain ⟨x5_1,x9_1,rfl,HA,HK1,HO_5,HB⟩:=hrel
  cases gk with
  | zero=>exact absurd HA.out (by simp [impl_members.l0])
  | succ k1 =>
   have H:=HA.out;clear HA;simp only [impl_members.l0] at H;by_cases c5:x9_1 < a0
   ·rw [if_pos c5] at H;have c5b0:=decide_eq_true c5;clear c5;replace H:=oB H;obtain ⟨t15,A6,H⟩:=H;(try dsimp only at H)
    by_cases c7:t15 = true
    ·subst c7;rw [if_pos rfl] at H;replace H:=iN H;obtain ⟨c8,H⟩:=H;have LMc8:=aM c8;clear c8;obtain ⟨y16,hy16⟩:∃ y_:List Int,y_ = (x5_1 ++ [x9_1]):=⟨_,rfl⟩;replace H:(impl_members.l0 k1 a1 y16 a0 (wrap64 (x9_1 + 1))) = some r:=yR hy16 H;have Ny16:=aM hy16;clear hy16;have H':=aM H;clear H;go_wp2_with (first|((with_reducible refine gate_fn (t:=12) rfl ?_);refine goesFL_ (some 14) rfl rfl eg1_ #[.int .i64 x9_1] rfl rfl mq ?_;(with_reducible refine (HP1.out _ x9_1 true A6.out ?side1).mono ?_);(case side1=>exact bw);rintro e w9 ⟨rfl,hb⟩;refine ⟨_,rfl,?_⟩;replace HO_5:=aM (Kd.R_below (qra HO_5.out) hb);replace HB:=aM (below_step bw hb);(try clear hb);(try clear hk))|((with_reducible refine gate_builtin (b:=.append) (xs:=#[.tmp 15,.tmp 17]) rfl ?_);at_builtin;refine Kd.R_append (Kd.int .i64) (w0:=w) w.heap.size rfl (.tmp 15) (.tmp 17) 22 3 (.int .i64 0) 8 rfl Tryz.underlying22 info3 rfl (by decide) (by omega) u5 x5_1 x9_1 [.int .i64 x9_1] (fun _=>True) (fun _=>False) rfl rfl ?aP (fun _ hk=>hk.elim) ?aF ?aO ?aB ?aS ?aL ?_;(case aP=>exact rfl);(case aB=>exact bw);(case aF=>exact (fun _ _=>trivial));(case aO=>exact (qra HO_5.out));(case aS=>exact (below_size bw));(case aL=>have:=LMc8.out;omega);intro v17 w10 ho hb hg hat;rw [← Ny16.out] at ho;replace HB:=aM (hb);have HO18:=aM (ho);clear HO_5;clear ho hb hg hat))
     go_roundg k1
     case measure=>have:=HK1.out;omega
     case rel=>exact ⟨(y16),(wrap64 (x9_1 + 1)),qrs,H',⟨by have:=HK1.out;omega⟩,⟨qra HO18.out⟩,⟨by exact bw⟩⟩
    ·replace c7:=Bool.eq_false_iff.mpr c7;subst c7;rw [if_neg (show ¬ (false = true) by decide)] at H;have H':=aM H;clear H;go_wp2_with (first|((with_reducible refine gate_fn (t:=12) rfl ?_);refine goesFL_ (some 14) rfl rfl eg1_ #[.int .i64 x9_1] rfl rfl mq ?_;(with_reducible refine (HP1.out _ x9_1 false A6.out ?side1).mono ?_);(case side1=>exact bw);rintro e w11 ⟨rfl,hb⟩;refine ⟨_,rfl,?_⟩;replace HO_5:=aM (Kd.R_below (qra HO_5.out) hb);replace HB:=aM (below_step bw hb);(try clear hb);(try clear hk)))
     go_roundg k1
     case measure=>have:=HK1.out;omega
     case rel=>exact ⟨(x5_1),(wrap64 (x9_1 + 1)),qrs,H',⟨by have:=HK1.out;omega⟩,⟨qra HO_5.out⟩,⟨by exact bw⟩⟩
   ·rw [if_neg c5] at H;have c5b0:=decide_eq_false c5;clear c5;obtain rfl:=Option.some.inj H;go_wp2
    go_ret
    exact ⟨_,eE,by (with_reducible repeat (first|apply Kd.R_alloc|apply Kd.R_drewN|apply Kd.R_drew));exact HO_5.out,by exact bw⟩


/-! ### slices_Index_int_int: function 102 -/
def slices_Index_int_int.l0:Nat → List Int → Int → Int → Int → Option (Int)
 | 0,_,_,_,_=>none
 | k + 1,x0,x1,x7,x8=>if x8 < x7 then (if 0 ≤ x8 then (if x8 < (x0.length:Int) then (if x1 = (rd x0 x8) then (some x8) else (slices_Index_int_int.l0 k x0 x1 x7 (wrap64 (x8 + 1)))) else (none)) else (none)) else (some (-1))
def slices_Index_int_int.f (k:Nat) (l0:List Int) (a1:Int):Option (Int):=slices_Index_int_int.l0 k l0 a1 (l0.length:Int) 0
set_option maxHeartbeats 8000000 in
set_option maxRecDepth 100000 in
theorem slices_Index_int_int.calls (k:Nat) (A0:Option Addr) (c0:Nat) (l0:List Int) (a1:Int) (r:Int) (w:World) (hr0:Kd.C (Kd.int .i64) w A0 l0.length l0) (hc0:l0.length ≤ c0) (h:slices_Index_int_int.f k l0 a1 = some r) :
  Calls Tryz.prog 102 #[.slice A0 l0.length c0,.int .i64 a1] w fun e w'=>e = .returned (.int .i64 r) ∧ Drawn0 w w':=by
 have HR0:=aM hr0;have HC0:=aM hc0;clear hr0 hc0;have H:(slices_Index_int_int.l0 k l0 a1 (l0.length:Int) 0) = some r:=h;clear h;have H':=aM H;clear H;go_enter Tryz.func102,Tryz.ntmps102;go_wp2
 go_loopg [8] k (fun kq v8 w'=>∃ (x8_1:Int),v8 = .int .i64 x8_1 ∧ Aside0 (slices_Index_int_int.l0 kq l0 a1 (l0.length:Int) x8_1 = some r) ∧ Aside0 (kq ≤ k) ∧ Drawn0 w w')
 case atStart=>exact ⟨(0),qrs,H',⟨Nat.le_refl _⟩,by repeat (first|exact Drawn0.refl _|apply Drawn0.step)⟩
 case round =>
  clear H';obtain ⟨x8_1,rfl,HA,HK1,⟨m1,rfl⟩⟩:=hrel
  cases gk with
  | zero=>exact absurd HA.out (by simp [slices_Index_int_int.l0])
  | succ k1 =>
   have H:=HA.out;clear HA;simp only [slices_Index_int_int.l0] at H;by_cases c3:x8_1 < (l0.length:Int)
   ·rw [if_pos c3] at H;have c3b0:=decide_eq_true c3;clear c3;replace H:=iN H;obtain ⟨c4,H⟩:=H;have c4b0:decide (0 ≤ x8_1) = true:=decide_eq_true c4;clear c4;replace H:=iN H;obtain ⟨c5,H⟩:=H;have c5b0:decide (x8_1 < (l0.length:Int)) = true:=decide_eq_true c5;clear c5;by_cases c6:a1 = (rd l0 x8_1)
    ·rw [if_pos c6] at H;have c6b0:(a1 == (rd l0 x8_1)) = true:=beq_iff_eq.mpr c6;have c6b1:(a1 != (rd l0 x8_1)) = false:=bne_eq_false_iff_eq.mpr c6;clear c6;obtain rfl:=Option.some.inj H;have p7:0 ≤ (x8_1:Int):=of_decide_eq_true ab;have q7:x8_1 < (l0.length:Int):=of_decide_eq_true ab;obtain ⟨ad7,e7,hx7_0⟩:=Kd.at_int HR0.out x8_1 p7 q7;cases e7
     replace p7:=eq_true p7;replace q7:=eq_true q7;go_wp2
     go_ret
     exact ⟨qrs,dR⟩
    ·rw [if_neg c6] at H;have c6b0:(a1 == (rd l0 x8_1)) = false:=beq_eq_false_iff_ne.mpr c6;have c6b1:(a1 != (rd l0 x8_1)) = true:=bne_iff_ne.mpr c6;have H':=aM H;clear H;have p7:0 ≤ (x8_1:Int):=of_decide_eq_true ab;have q7:x8_1 < (l0.length:Int):=of_decide_eq_true ab;obtain ⟨ad7,e7,hx7_0⟩:=Kd.at_int HR0.out x8_1 p7 q7;cases e7
     replace p7:=eq_true p7;replace q7:=eq_true q7;go_wp2
     go_roundg k1
     case measure=>have:=HK1.out;omega
     case rel=>exact ⟨(wrap64 (x8_1 + 1)),qrs,H',⟨by have:=HK1.out;omega⟩,by repeat (first|exact Drawn0.refl _|apply Drawn0.step)⟩
   ·rw [if_neg c3] at H;have c3b0:=decide_eq_false c3;clear c3;obtain rfl:=Option.some.inj H;go_wp2
    go_ret
    exact ⟨qrs,dR⟩


/-! ### slices_Contains_int_int: function 95 -/
def slices_Contains_int_int.f (k:Nat) (l0:List Int) (a1:Int):Option (Bool):=(slices_Index_int_int.f k l0 a1).bind fun t2=>(some (decide (t2 ≥ 0)))
set_option maxHeartbeats 8000000 in
set_option maxRecDepth 100000 in
theorem slices_Contains_int_int.calls (k:Nat) (A0:Option Addr) (c0:Nat) (l0:List Int) (a1:Int) (r:Bool) (w:World) (hr0:Kd.C (Kd.int .i64) w A0 l0.length l0) (hc0:l0.length ≤ c0) (h:slices_Contains_int_int.f k l0 a1 = some r) :
  Calls Tryz.prog 95 #[.slice A0 l0.length c0,.int .i64 a1] w fun e w'=>e = .returned (.bool r) ∧ Drawn0 w w':=by
 have HR0:=aM hr0;have HC0:=aM hc0;clear hr0 hc0;have H:((slices_Index_int_int.f k l0 a1).bind fun t4=>(some (decide (t4 ≥ 0)))) = some r:=h;clear h;replace H:=oB H;obtain ⟨t4,A3,H⟩:=H;(try dsimp only at H)
 obtain rfl:=Option.some.inj H;go_enter Tryz.func95,Tryz.ntmps95;go_wp2_with (first|((with_reducible refine gate_callee (f:=102) rfl ?_);refine gL 7 Tryz.func102 #[.slice A0 l0.length c0,.int .i64 a1] ?_;(with_reducible refine (slices_Index_int_int.calls k _ _ l0 a1 t4 _ ?side1 ?side2 A3.out).mono ?_);(case side1=>exact qc HR0.out);(case side2=>exact HC0.out);rintro e w' ⟨rfl,⟨nd,rfl⟩⟩;refine ⟨_,rfl,?_⟩))
 go_ret
 exact ⟨qrs,dR⟩


/-! ### impl_isIn_1: function 94 -/
def impl_isIn_1.f (k:Nat) (l0:List Int) (a1:Int):Option (Bool):=(slices_Contains_int_int.f k l0 a1).bind fun t2=>(some t2)
set_option maxHeartbeats 8000000 in
set_option maxRecDepth 100000 in
theorem impl_isIn_1.calls (k:Nat) (A0:Option Addr) (c0:Nat) (l0:List Int) (gc1:Nat) (a1:Int) (r:Bool) (w:World) (hr0:Kd.C (Kd.int .i64) w A0 l0.length l0) (hc0:l0.length ≤ c0) (hb1:w.heap[gc1]? = some (.cells #[.int .i64 a1] 3 (0,0))) (h:impl_isIn_1.f k l0 a1 = some r) :
  Calls Tryz.prog 94 #[.slice A0 l0.length c0,.pointer (some ⟨gc1,0,none⟩)] w fun e w'=>e = .returned (.bool r) ∧ Drawn0 w w':=by
 have HR0:=aM hr0;have HC0:=aM hc0;clear hr0 hc0;have BK1:=aM hb1;clear hb1;have H:((slices_Contains_int_int.f k l0 a1).bind fun t5=>(some t5)) = some r:=h;clear h;replace H:=oB H;obtain ⟨t5,A3,H⟩:=H;(try dsimp only at H)
 obtain rfl:=Option.some.inj H;have hcz4_0:=cz BK1.out 0;have hfz4_0:=blk_frozen BK1.out 0;go_enter Tryz.func94,Tryz.ntmps94;go_wp2_with (first|((with_reducible refine gate_callee (f:=95) rfl ?_);refine gL 6 Tryz.func95 #[.slice A0 l0.length c0,.int .i64 a1] ?_;(with_reducible refine (slices_Contains_int_int.calls k _ _ l0 a1 t5 _ ?side1 ?side2 A3.out).mono ?_);(case side1=>exact qc HR0.out);(case side2=>exact HC0.out);rintro e w' ⟨rfl,⟨nd,rfl⟩⟩;refine ⟨_,rfl,?_⟩))
 go_ret
 exact ⟨qrs,dR⟩
theorem impl_isIn_1.enters:∀ (args:Array Value) (w:World),(callFunc 94 args).run Tryz.prog w = .ok (.enter 94 args) w:=enters_of Tryz.func94 kR rfl


set_option maxHeartbeats 8000000 in
set_option maxRecDepth 100000 in
theorem impl_isIn.calls (a0 : Int) (w : World) :
    Calls Tryz.prog 75 #[.int .i64 a0] w fun e w' => ∃ g, e = .returned (.func (.func 94) #[] #[.pointer (some ⟨g, 0, none⟩)]) ∧ w'.heap[g]? = some (.cells #[.int .i64 a0] 3 (0, 0)) ∧ w.heap.size ≤ g ∧ Below w.heap.size w w' := by
  have hmf : ∀ (fn : Fn) (first cap : Array Value) (w : World), (Instr.makeFunc fn first cap).run Tryz.prog w = .ok (.func fn first cap) w := fun _ _ _ _ => rfl
  have HB := Aside0.mk (Below.refl w.heap.size w)
  go_enter Tryz.func75, Tryz.ntmps75
  go_wp2_with (first | ((with_reducible refine gate_dst (N := 1) rfl ?_); refine box_event ?hg (N := 1) ?hd (cs := #[.int .i64 a0]) (t := 3) ?hr ?_; (case hd => rfl); (case hg => rfl); (case hr => first | (go_simp; done) | (go_simp; rfl)); intro gb0 hg w4 hbox hb; have n1_ := Aside0.mk (below_step (by repeat (first | (with_reducible first | exact HB.out | apply below_alloc | apply pw_below_drewN | apply below_drew1) | exact HB.out)) hb); have n2_ := Aside0.mk (hbox); have n3_ := Aside0.mk ((by rw [hg]; exact (below_size (by repeat (first | (with_reducible first | exact HB.out | apply below_alloc | apply pw_below_drewN | apply below_drew1) | exact HB.out))) : w.heap.size ≤ gb0)); clear HB; have HB := n1_; have BK0 := n2_; have GW0 := n3_; clear n1_ n2_ n3_; clear hb hbox hg))
  go_ret
  exact ⟨gb0, by first | rfl | (simp; done), by first | exact BK0.out | exact blk_drew BK0.out | exact blk_drewN BK0.out _, GW0.out, by repeat (first | (with_reducible first | exact HB.out | apply below_alloc | apply pw_below_drewN | apply below_drew1) | exact HB.out)⟩
def impl_votes_idle_1.f (k : Nat) (a0 : Int) (l1 : List (List Int)) : Option (Bool) := (slices_ContainsFunc_LLint_int.f k l1 (fun y0_ => impl_isIn_1.f k y0_ a0)).bind fun t429 => (some (!t429))
set_option maxHeartbeats 8000000 in
set_option maxRecDepth 100000 in
theorem impl_votes_idle_1.calls (k : Nat) (a0 : Int) (gc1 : Nat) (A1 : Option Addr) (c1 : Nat) (l1 : List (List Int)) (r : Bool) (w : World) (hr1 : Kd.C (Kd.slice 3 (Kd.int .i64)) w A1 l1.length l1) (hc1 : l1.length ≤ c1) (hb1 : w.heap[gc1]? = some (.cells #[.slice A1 l1.length c1] 26 (0, 0))) (h : impl_votes_idle_1.f k a0 l1 = some r) :
    Calls Tryz.prog 73 #[.int .i64 a0, .pointer (some ⟨gc1, 0, none⟩)] w fun e w' => e = .returned (.bool r) ∧ Below w.heap.size w w' := by
  have hmf : ∀ (fn : Fn) (first cap : Array Value) (w : World), (Instr.makeFunc fn first cap).run Tryz.prog w = .ok (.func fn first cap) w := fun _ _ _ _ => rfl
  have HR1 := Aside0.mk hr1
  have HC1 := Aside0.mk hc1
  clear hr1 hc1
  have BK1 := Aside0.mk hb1
  clear hb1
  have HB := Aside0.mk (Below.refl w.heap.size w)
  have H : ((slices_ContainsFunc_LLint_int.f k l1 (fun y0_ => impl_isIn_1.f k y0_ a0)).bind fun t429 => (some (!t429))) = some r := h
  clear h
  replace H := Option.bind_eq_some_iff.mp H
  obtain ⟨t429, A30, H⟩ := H
  replace H : (some (!t429)) = some r := H
  have A3 := Aside0.mk A30
  clear A30
  obtain rfl := Option.some.inj H
  go_enter Tryz.func73, Tryz.ntmps73
  try go_wp2
  have n0_ := Aside0.mk (blk_drew BK1.out)
  have n2_ := Aside0.mk (below_drew1 HB.out)
  clear BK1
  clear HB
  have BK1 := n0_
  have HB := n2_
  clear n0_ n2_
  refine start_ (n := 6) (S := fun w' => w'.cell? ⟨gc1, 0, none⟩ = some (.slice A1 l1.length c1)) (ds := []) #[false, false, false, false, false, false] (by kernel_rfl) rfl rfl ((blk_cell BK1.out 0).trans rfl) (fun hHeld => ?_)
  generalize w.drew = w5 at BK1 HB hHeld ⊢
  refine pure_ (i := 1) (N := some 5) (v := ?_) (a' := ?_) #[false, true, false, false, false, false] rfl rfl (by kernel_rfl) (fun _ _ _ h => h) (Or.inl ⟨by rfl, ?_⟩) ?_ ?_
  rotate_left
  · intro w'
    go_simp
    with_reducible rfl
  rotate_left
  · simp only [Act.put, List.setIfInBounds_toArray, List.set_cons_zero, List.set_cons_succ, i64_w, i32_w]
    rfl
  refine take_ (i := 0) (N := some 4) (v := ?_) (a' := ?_) #[true, true, false, false, false, false] rfl rfl (by kernel_rfl) (fun _ _ _ h => h) (Or.inl ⟨by rfl, ?_⟩) hHeld ?_ ?_
  rotate_left
  · intro w' s0
    go_simp
    with_reducible rfl
  rotate_left
  · simp only [Act.put, List.setIfInBounds_toArray, List.set_cons_zero, List.set_cons_succ, i64_w, i32_w]
    rfl
  refine one_ (i := 2) (N := some 6) #[true, true, true, false, false, false] rfl rfl (by kernel_rfl) (by decide) (fun K hK => ?_)
  refine goes_ Tryz.func75 (by kernel_rfl) rfl #[.int .i64 a0] (by rfl) rfl rfl (by (try simp only [List.map_toArray, List.map_cons, List.map_nil]); first | done | rfl | (simp only [List.length_drop, List.length_take]; rfl)) ?_
  with_reducible refine (impl_isIn.calls a0 _).mono ?_
  rintro e w6 ⟨gb428, rfl, hbox, hg, hb⟩
  refine ⟨_, rfl, ?_⟩
  have n3_ := Aside0.mk (Nat.le_trans (below_size (by repeat (first | (with_reducible first | exact HB.out | apply below_alloc | apply pw_below_drewN | apply below_drew1) | exact HB.out))) hg : w.heap.size ≤ gb428)
  have n0_ := Aside0.mk (blk_below (g := gc1) (o := .cells #[.slice A1 l1.length c1] 26 (0, 0)) (by (with_reducible repeat (first | refine blk_drewN ?_ _ | refine blk_drew ?_ | refine blk_alloc ?_ _)); exact BK1.out) hb)
  have n1_ := Aside0.mk hbox
  have n2_ := Aside0.mk (below_step (by repeat (first | (with_reducible first | exact HB.out | apply below_alloc | apply pw_below_drewN | apply below_drew1) | exact HB.out)) hb)
  clear BK1
  clear HB
  have BK1 := n0_
  have BK428 := n1_
  have HB := n2_
  have GE428 := n3_
  clear n0_ n1_ n2_ n3_
  (try clear hb)
  (try clear hg)
  (try clear hbox)
  refine hK.out _ _ ((blk_cell BK1.out 0).trans rfl) (fun hHeld => ?_)
  clear hK K
  refine norm_ (a' := ?_) ?_ ?_
  rotate_left
  · show Act.put _ (some 6) _ = _
    simp only [Act.put, List.setIfInBounds_toArray, List.set_cons_zero, List.set_cons_succ, i64_w, i32_w]
    rfl
  refine one_ (i := 3) (N := some 7) #[true, true, true, true, false, false] rfl rfl (by kernel_rfl) (by decide) (fun K hK => ?_)
  refine goes_ Tryz.func74 (by kernel_rfl) rfl #[.slice A1 l1.length c1, .func (.func 94) #[] #[.pointer (some ⟨gb428, 0, none⟩)]] (by rfl) rfl rfl (by (try simp only [List.map_toArray, List.map_cons, List.map_nil]); first | done | rfl | (simp only [List.length_drop, List.length_take]; rfl)) ?_
  with_reducible refine (slices_ContainsFunc_LLint_int.calls k _ _ l1 (fun y0_ => impl_isIn_1.f k y0_ a0) 94 #[.pointer (some ⟨gb428, 0, none⟩)] impl_isIn_1.enters t429 _ ?side1 ?side2 ?side3 A3.out).mono ?_
  (case side1 => repeat (first | exact (Kd.C_below HR1.out HB.out) | (with_reducible refine Kd.C_alloc ?_ _) | (with_reducible refine Kd.C_drewN ?_ _) | (with_reducible refine Kd.C_drew ?_)))
  (case side2 => exact HC1.out)
  (case side3 => exact (fun W_ A0_ c0_ l0_ r0_ hx_ hb_ hr0_ hc0_ => (impl_isIn_1.calls k A0_ c0_ l0_ gb428 a0 r0_ W_ hr0_ hc0_ (box_later (by (with_reducible repeat (first | refine blk_drewN ?_ _ | refine blk_drew ?_ | refine blk_alloc ?_ _)); exact BK428.out) hb_) hx_).mono (fun _ _ h_ => ⟨h_.1, h_.2.below⟩)))
  rintro e w7 ⟨rfl, hb⟩
  refine ⟨_, rfl, ?_⟩
  have n0_ := Aside0.mk (blk_below (g := gc1) (o := .cells #[.slice A1 l1.length c1] 26 (0, 0)) (by (with_reducible repeat (first | refine blk_drewN ?_ _ | refine blk_drew ?_ | refine blk_alloc ?_ _)); exact BK1.out) hb)
  have n1_ := Aside0.mk (blk_below (g := gb428) (o := .cells #[.int .i64 a0] 3 (0, 0)) (by (with_reducible repeat (first | refine blk_drewN ?_ _ | refine blk_drew ?_ | refine blk_alloc ?_ _)); exact BK428.out) hb)
  have n2_ := Aside0.mk (below_step (by repeat (first | (with_reducible first | exact HB.out | apply below_alloc | apply pw_below_drewN | apply below_drew1 | refine below_set ?_ GE1.out | refine below_set ?_ GE428.out) | exact HB.out)) hb)
  clear BK1
  clear BK428
  clear HB
  have BK1 := n0_
  have BK428 := n1_
  have HB := n2_
  clear n0_ n1_ n2_
  (try clear hb)
  (try clear hb2)
  (try clear hk)
  (try clear hi)
  refine hK.out _ _ ((blk_cell BK1.out 0).trans rfl) (fun hHeld => ?_)
  clear hK K
  refine norm_ (a' := ?_) ?_ ?_
  rotate_left
  · show Act.put _ (some 7) _ = _
    simp only [Act.put, List.setIfInBounds_toArray, List.set_cons_zero, List.set_cons_succ, i64_w, i32_w]
    rfl
  refine pure_ (i := 4) (N := some 8) (v := ?_) (a' := ?_) #[true, true, true, true, true, false] rfl rfl (by kernel_rfl) (fun _ _ _ h => h) (Or.inl ⟨by rfl, ?_⟩) ?_ ?_
  rotate_left
  · intro w'
    go_simp
    with_reducible rfl
  rotate_left
  · simp only [Act.put, List.setIfInBounds_toArray, List.set_cons_zero, List.set_cons_succ, i64_w, i32_w]
    rfl
  refine pure_ (i := 5) (N := some 3) (v := ?_) (a' := ?_) #[true, true, true, true, true, true] rfl rfl (by kernel_rfl) (fun _ _ _ h => h) (Or.inl ⟨by rfl, ?_⟩) ?_ ?_
  rotate_left
  · intro w'
    go_simp
    with_reducible rfl
  rotate_left
  · simp only [Act.put, List.setIfInBounds_toArray, List.set_cons_zero, List.set_cons_succ, i64_w, i32_w]
    rfl
  refine done_ (by kernel_rfl) ?_
  try go_wp2
  go_ret
  exact ⟨by first | rfl | (simp [errW_none, errW_some] <;> rfl) | (simp [*, errW_none, errW_some] <;> rfl), by repeat (first | (with_reducible first | exact HB.out | apply below_alloc | apply pw_below_drewN | apply below_drew1 | refine below_set ?_ GE1.out | refine below_set ?_ GE428.out) | exact HB.out)⟩
theorem impl_votes_idle_1.enters : ∀ (args : Array Value) (w : World), (callFunc 73 args).run Tryz.prog w = .ok (.enter 73 args) w := enters_of Tryz.func73 (by kernel_rfl) rfl


/-! ### slices_IndexFunc_impl_Committee_impl_Committee: function 97 -/
def slices_IndexFunc_impl_Committee_impl_Committee.l0:Nat → List (S_impl_Committee) → (Int → List Int → Option (Bool)) → Int → Int → Option (Int)
 | 0,_,_,_,_=>none
 | k + 1,x0,x1,x7,x8=>if x8 < x7 then (if 0 ≤ x8 then (if x8 < (x0.length:Int) then ((x1 ((rd_impl_Committee x0 x8).f0) ((rd_impl_Committee x0 x8).f1)).bind fun t2=>(if t2 = true then (some x8) else (slices_IndexFunc_impl_Committee_impl_Committee.l0 k x0 x1 x7 (wrap64 (x8 + 1))))) else (none)) else (none)) else (some (-1))
def slices_IndexFunc_impl_Committee_impl_Committee.f (k:Nat) (l0:List (S_impl_Committee)) (a1:(Int → List Int → Option (Bool))):Option (Int):=slices_IndexFunc_impl_Committee_impl_Committee.l0 k l0 a1 (l0.length:Int) 0
set_option maxHeartbeats 8000000 in
set_option maxRecDepth 100000 in
theorem slices_IndexFunc_impl_Committee_impl_Committee.calls (k:Nat) (A0:Option Addr) (c0:Nat) (l0:List (S_impl_Committee)) (a1:(Int → List Int → Option (Bool))) (g1_:Nat) (lb1_:Array Value) (eg1_:∀ (args:Array Value) (w:World),(callFunc g1_ args).run Tryz.prog w = .ok (.enter g1_ args) w) (r:Int) (w:World) (hr0:Kd.C k_impl_Committee w A0 l0.length l0) (hc0:l0.length ≤ c0) (hp1:∀ (W:World) (b0_:Int) (A1_:Option Addr) (c1_:Nat) (l1_:List Int) (r0_:Bool),a1 b0_ l1_ = some r0_ → Below w.heap.size w W → Kd.C (Kd.int .i64) W A1_ l1_.length l1_ → l1_.length ≤ c1_ → Calls Tryz.prog g1_ (#[.agg #[.int .i64 b0_,.slice A1_ l1_.length c1_]] ++ lb1_) W fun e w'=>e = .returned (.bool r0_) ∧ Below W.heap.size W w') (h:slices_IndexFunc_impl_Committee_impl_Committee.f k l0 a1 = some r) :
  Calls Tryz.prog 97 #[.slice A0 l0.length c0,.func (.func g1_) #[] lb1_] w fun e w'=>e = .returned (.int .i64 r) ∧ Below w.heap.size w w':=by
 have hu24:=Tryz.underlying24;have HR0:=aM hr0;have HC0:=aM hc0;clear hr0 hc0;have HP1:=aM hp1;clear hp1;have HB:=aM (Below.refl w.heap.size w);have H:(slices_IndexFunc_impl_Committee_impl_Committee.l0 k l0 a1 (l0.length:Int) 0) = some r:=h;clear h;have H':=aM H;clear H;go_enter Tryz.func97,Tryz.ntmps97;go_wp2
 go_loopg [8] k (fun kq v8 w'=>∃ (x8_1:Int),v8 = .int .i64 x8_1 ∧ Aside0 (slices_IndexFunc_impl_Committee_impl_Committee.l0 kq l0 a1 (l0.length:Int) x8_1 = some r) ∧ Aside0 (kq ≤ k) ∧ Aside0 (Below w.heap.size w w'))
 case atStart=>exact ⟨(0),qrs,H',⟨Nat.le_refl _⟩,⟨by exact bw⟩⟩
 case round =>
  clear H';obtain ⟨x8_1,rfl,HA,HK1,HB⟩:=hrel
  cases gk with
  | zero=>exact absurd HA.out (by simp [slices_IndexFunc_impl_Committee_impl_Committee.l0])
  | succ k1 =>
   have H:=HA.out;clear HA;simp only [slices_IndexFunc_impl_Committee_impl_Committee.l0] at H;by_cases c3:x8_1 < (l0.length:Int)
   ·rw [if_pos c3] at H;have c3b0:=decide_eq_true c3;clear c3;replace H:=iN H;obtain ⟨c4,H⟩:=H;have c4b0:decide (0 ≤ x8_1) = true:=decide_eq_true c4;clear c4;replace H:=iN H;obtain ⟨c5,H⟩:=H;have c5b0:decide (x8_1 < (l0.length:Int)) = true:=decide_eq_true c5;clear c5;replace H:=oB H;obtain ⟨t11,A6,H⟩:=H;(try dsimp only at H)
    by_cases c7:t11 = true
    ·subst c7;rw [if_pos rfl] at H;obtain rfl:=Option.some.inj H;have p10:0 ≤ (x8_1:Int):=of_decide_eq_true ab;have q10:x8_1 < (l0.length:Int):=of_decide_eq_true ab;obtain ⟨ad10,A10_1,c447_1,e10,hx10_0,hx10_1,hl10_1,hi10_1⟩:=at_impl_Committee HR0.out x8_1 p10 q10;cases e10
     replace hx10_0:=(HB.out.cell (World.block_lt_of_cell? w _ hx10_0)).trans hx10_0;replace hx10_1:=(HB.out.cell (World.block_lt_of_cell? w _ hx10_1)).trans hx10_1;have HR10_1:=aM hi10_1;have HC10_1:=aM hl10_1;clear hi10_1 hl10_1;replace p10:=eq_true p10;replace q10:=eq_true q10;go_wp2_with (first|((with_reducible refine gate_fn (t:=11) rfl ?_);refine goesFL_ (some 16) rfl rfl eg1_ #[.agg #[.int .i64 ((rd_impl_Committee l0 x8_1).f0),.slice A10_1 ((rd_impl_Committee l0 x8_1).f1).length c447_1]] rfl rfl mq ?_;(with_reducible refine (HP1.out _ ((rd_impl_Committee l0 x8_1).f0) _ _ ((rd_impl_Committee l0 x8_1).f1) true A6.out ?side1 ?side2 ?side3).mono ?_);(case side1=>exact bw);(case side2=>exact qcs HR10_1.out HB.out);(case side3=>exact HC10_1.out);rintro e w8 ⟨rfl,hb⟩;refine ⟨_,rfl,?_⟩;replace HB:=aM (below_step bw hb);(try clear hb)))
     go_ret
     exact ⟨eE,by exact bw⟩
    ·replace c7:=Bool.eq_false_iff.mpr c7;subst c7;rw [if_neg (show ¬ (false = true) by decide)] at H;have H':=aM H;clear H;have p10:0 ≤ (x8_1:Int):=of_decide_eq_true ab;have q10:x8_1 < (l0.length:Int):=of_decide_eq_true ab;obtain ⟨ad10,A10_1,c447_1,e10,hx10_0,hx10_1,hl10_1,hi10_1⟩:=at_impl_Committee HR0.out x8_1 p10 q10;cases e10
     replace hx10_0:=(HB.out.cell (World.block_lt_of_cell? w _ hx10_0)).trans hx10_0;replace hx10_1:=(HB.out.cell (World.block_lt_of_cell? w _ hx10_1)).trans hx10_1;have HR10_1:=aM hi10_1;have HC10_1:=aM hl10_1;clear hi10_1 hl10_1;replace p10:=eq_true p10;replace q10:=eq_true q10;go_wp2_with (first|((with_reducible refine gate_fn (t:=11) rfl ?_);refine goesFL_ (some 16) rfl rfl eg1_ #[.agg #[.int .i64 ((rd_impl_Committee l0 x8_1).f0),.slice A10_1 ((rd_impl_Committee l0 x8_1).f1).length c447_1]] rfl rfl mq ?_;(with_reducible refine (HP1.out _ ((rd_impl_Committee l0 x8_1).f0) _ _ ((rd_impl_Committee l0 x8_1).f1) false A6.out ?side1 ?side2 ?side3).mono ?_);(case side1=>exact bw);(case side2=>exact qcs HR10_1.out HB.out);(case side3=>exact HC10_1.out);rintro e w9 ⟨rfl,hb⟩;refine ⟨_,rfl,?_⟩;replace HB:=aM (below_step bw hb);(try clear hb)))
     go_roundg k1
     case measure=>have:=HK1.out;omega
     case rel=>exact ⟨(wrap64 (x8_1 + 1)),qrs,H',⟨by have:=HK1.out;omega⟩,⟨by exact bw⟩⟩
   ·rw [if_neg c3] at H;have c3b0:=decide_eq_false c3;clear c3;obtain rfl:=Option.some.inj H;go_wp2
    go_ret
    exact ⟨eE,by exact bw⟩


/-! ### slices_ContainsFunc_impl_Committee_impl_Committee: function 78 -/
def slices_ContainsFunc_impl_Committee_impl_Committee.f (k:Nat) (l0:List (S_impl_Committee)) (a1:(Int → List Int → Option (Bool))):Option (Bool):=(slices_IndexFunc_impl_Committee_impl_Committee.f k l0 a1).bind fun t2=>(some (decide (t2 ≥ 0)))
set_option maxHeartbeats 8000000 in
set_option maxRecDepth 100000 in
theorem slices_ContainsFunc_impl_Committee_impl_Committee.calls (k:Nat) (A0:Option Addr) (c0:Nat) (l0:List (S_impl_Committee)) (a1:(Int → List Int → Option (Bool))) (g1_:Nat) (lb1_:Array Value) (eg1_:∀ (args:Array Value) (w:World),(callFunc g1_ args).run Tryz.prog w = .ok (.enter g1_ args) w) (r:Bool) (w:World) (hr0:Kd.C k_impl_Committee w A0 l0.length l0) (hc0:l0.length ≤ c0) (hp1:∀ (W:World) (b0_:Int) (A1_:Option Addr) (c1_:Nat) (l1_:List Int) (r0_:Bool),a1 b0_ l1_ = some r0_ → Below w.heap.size w W → Kd.C (Kd.int .i64) W A1_ l1_.length l1_ → l1_.length ≤ c1_ → Calls Tryz.prog g1_ (#[.agg #[.int .i64 b0_,.slice A1_ l1_.length c1_]] ++ lb1_) W fun e w'=>e = .returned (.bool r0_) ∧ Below W.heap.size W w') (h:slices_ContainsFunc_impl_Committee_impl_Committee.f k l0 a1 = some r) :
  Calls Tryz.prog 78 #[.slice A0 l0.length c0,.func (.func g1_) #[] lb1_] w fun e w'=>e = .returned (.bool r) ∧ Below w.heap.size w w':=by
 have HR0:=aM hr0;have HC0:=aM hc0;clear hr0 hc0;have HP1:=aM hp1;clear hp1;have HB:=aM (Below.refl w.heap.size w);have H:((slices_IndexFunc_impl_Committee_impl_Committee.f k l0 a1).bind fun t5=>(some (decide (t5 ≥ 0)))) = some r:=h;clear h;replace H:=oB H;obtain ⟨t5,A3,H⟩:=H;(try dsimp only at H)
 obtain rfl:=Option.some.inj H;go_enter Tryz.func78,Tryz.ntmps78;go_wp2_with (first|((with_reducible refine gate_callee (f:=97) rfl ?_);refine gL 7 Tryz.func97 #[.slice A0 l0.length c0,.func (.func g1_) #[] lb1_] ?_;(with_reducible refine (slices_IndexFunc_impl_Committee_impl_Committee.calls k _ _ l0 a1 g1_ lb1_ eg1_ t5 _ ?side1 ?side2 ?side3 A3.out).mono ?_);(case side1=>exact qc HR0.out);(case side2=>exact HC0.out);(case side3=>exact (fun W_ a0_ A1_ c1_ l1_ r0_ hx_ hb_ hr1_ hc1_=>HP1.out W_ a0_ A1_ c1_ l1_ r0_ hx_ (below_step bw hb_) hr1_ hc1_));rintro e w4 ⟨rfl,hb⟩;refine ⟨_,rfl,?_⟩;replace HB:=aM (below_step bw hb);(try clear hb)))
 go_ret
 exact ⟨eE,by exact bw⟩


/-! ### impl_areCommittees_1: function 79 -/
def impl_areCommittees_1.f (k:Nat) (a0_0:Int) (l0_1:List Int):Option (Bool):=(impl_IsCommittee.f k a0_0 l0_1).bind fun t2=>(some (!t2))
set_option maxHeartbeats 8000000 in
set_option maxRecDepth 100000 in
theorem impl_areCommittees_1.calls (k:Nat) (a0_0:Int) (A0_1:Option Addr) (c0_1:Nat) (l0_1:List Int) (r:Bool) (w:World) (hr0_1:Kd.C (Kd.int .i64) w A0_1 l0_1.length l0_1) (hc0_1:l0_1.length ≤ c0_1) (h:impl_areCommittees_1.f k a0_0 l0_1 = some r) :
  Calls Tryz.prog 79 #[.agg #[.int .i64 a0_0,.slice A0_1 l0_1.length c0_1]] w fun e w'=>e = .returned (.bool r) ∧ Below w.heap.size w w':=by
 have hu24:=Tryz.underlying24;have HR0_1:=aM hr0_1;have HC0_1:=aM hc0_1;clear hr0_1 hc0_1;have HB:=aM (Below.refl w.heap.size w);have H:((impl_IsCommittee.f k a0_0 l0_1).bind fun t7=>(some (!t7))) = some r:=h;clear h;replace H:=oB H;obtain ⟨t7,A2,H⟩:=H;(try dsimp only at H)
 obtain rfl:=Option.some.inj H;go_enter Tryz.func79,Tryz.ntmps79;go_wp2_with (first|((with_reducible refine gate_dst (N:=1) rfl ?_);refine bE 1 #[.int .i64 a0_0,.slice A0_1 l0_1.length c0_1] 24 ?_;intro gb6 hg w3 hbox hb;have BK6:=aM (hbox);have GW6:=aM (gS hg);have GE6:=aM (gS hg);replace HB:=aM (below_step bw hb);clear hb hbox hg;have hcz4_0:=cz BK6.out 0;have hcz4_1:=cz BK6.out 1;have hfz4_0:=blk_frozen BK6.out 0;have hfz4_1:=blk_frozen BK6.out 1)|((with_reducible refine gate_callee (f:=27) rfl ?_);refine gL 4 Tryz.func27 #[.agg #[.int .i64 a0_0,.slice A0_1 l0_1.length c0_1]] ?_;(with_reducible refine (impl_IsCommittee.calls k a0_0 _ _ l0_1 t7 _ ?side1 ?side2 A2.out).mono ?_);(case side1=>exact qcs HR0_1.out HB.out);(case side2=>exact HC0_1.out);rintro e w5 ⟨rfl,hb⟩;refine ⟨_,rfl,?_⟩;replace BK6:=aM (bB BK6.out hb);replace HB:=aM (below_step bw hb);(try clear hb)))
 go_ret
 exact ⟨eE,by exact bw⟩
theorem impl_areCommittees_1.enters:∀ (args:Array Value) (w:World),(callFunc 79 args).run Tryz.prog w = .ok (.enter 79 args) w:=enters_of Tryz.func79 kR rfl


/-! ### impl_areCommittees: function 48 -/
def impl_areCommittees.f (k:Nat) (l0:List (S_impl_Committee)):Option (Bool):=(impl_within.f (l0.length:Int) 1 9).bind fun t2=>(if t2 = true then ((slices_ContainsFunc_impl_Committee_impl_Committee.f k l0 (fun y0_ y1_=>impl_areCommittees_1.f k y0_ y1_)).bind fun t3=>(some (!t3))) else (some false))
set_option maxHeartbeats 8000000 in
set_option maxRecDepth 100000 in
theorem impl_areCommittees.calls (k:Nat) (A0:Option Addr) (c0:Nat) (l0:List (S_impl_Committee)) (r:Bool) (w:World) (hr0:Kd.C k_impl_Committee w A0 l0.length l0) (hc0:l0.length ≤ c0) (h:impl_areCommittees.f k l0 = some r) :
  Calls Tryz.prog 48 #[.slice A0 l0.length c0] w fun e w'=>e = .returned (.bool r) ∧ Below w.heap.size w w':=by
 have HR0:=aM hr0;have HC0:=aM hc0;clear hr0 hc0;have HB:=aM (Below.refl w.heap.size w);have H:((impl_within.f (l0.length:Int) 1 9).bind fun t6=>(if t6 = true then ((slices_ContainsFunc_impl_Committee_impl_Committee.f k l0 (fun y0_ y1_=>impl_areCommittees_1.f k y0_ y1_)).bind fun t7=>(some (!t7))) else (some false))) = some r:=h;clear h;replace H:=oB H;obtain ⟨t6,A2,H⟩:=H;(try dsimp only at H)
 by_cases c3:t6 = true
 ·subst c3;rw [if_pos rfl] at H;replace H:=oB H;obtain ⟨t7,A4,H⟩:=H;(try dsimp only at H)
  obtain rfl:=Option.some.inj H;go_enter Tryz.func48,Tryz.ntmps48;go_wp2_with (first|((with_reducible refine gate_callee (f:=44) rfl ?_);refine gL 5 Tryz.func44 #[.int .i64 (l0.length:Int),.int .i64 1,.int .i64 9] ?_;(with_reducible refine (impl_within.calls (l0.length:Int) 1 9 true _ A2.out).mono ?_);rintro e w' ⟨rfl,⟨nd,rfl⟩⟩;refine ⟨_,rfl,?_⟩)|(go_at_call 78;(with_reducible refine (slices_ContainsFunc_impl_Committee_impl_Committee.calls k _ _ l0 (fun y0_ y1_=>impl_areCommittees_1.f k y0_ y1_) 79 #[] impl_areCommittees_1.enters t7 _ ?side1 ?side2 ?side3 A4.out).mono ?_);(case side1=>exact qc HR0.out);(case side2=>exact HC0.out);(case side3=>exact (fun W_ a0_ A1_ c1_ l1_ r0_ hx_ hb_ hr1_ hc1_=>(impl_areCommittees_1.calls k a0_ A1_ c1_ l1_  r0_ W_ hr1_ hc1_  hx_).mono (fun _ _ h_=>h_)));rintro e w5 ⟨rfl,hb⟩;replace HB:=aM (below_step bw hb);(try clear hb)))
  go_ret
  exact ⟨eE,by exact bw⟩
 ·replace c3:=Bool.eq_false_iff.mpr c3;subst c3;rw [if_neg (show ¬ (false = true) by decide)] at H;obtain rfl:=Option.some.inj H;go_enter Tryz.func48,Tryz.ntmps48;go_wp2_with (first|((with_reducible refine gate_callee (f:=44) rfl ?_);refine gL 5 Tryz.func44 #[.int .i64 (l0.length:Int),.int .i64 1,.int .i64 9] ?_;(with_reducible refine (impl_within.calls (l0.length:Int) 1 9 false _ A2.out).mono ?_);rintro e w' ⟨rfl,⟨nd,rfl⟩⟩;refine ⟨_,rfl,?_⟩))
  go_ret
  exact ⟨eE,by exact bw⟩


/-! ### impl_PlaceInCouncil: function 17 -/
mutual
def impl_PlaceInCouncil.j0:Nat → List (S_impl_Committee) → Int → Bool → Option (Int × Int × Bool)
 | 0,_,_,_=>none
 | k + 1,x0,x1,x15=>if x15 = true then (some (0,0,false)) else (impl_PlaceInCouncil.l0 k x1 x0 (x0.length:Int) 0)
def impl_PlaceInCouncil.l0:Nat → Int → List (S_impl_Committee) → Int → Int → Option (Int × Int × Bool)
 | 0,_,_,_,_=>none
 | k + 1,x1,x16,x17,x18=>if x18 < x17 then (if 0 ≤ x18 then (if x18 < (x16.length:Int) then (if x1 < (((rd_impl_Committee x16 x18).f1).length:Int) then (some (x18,x1,true)) else (impl_PlaceInCouncil.l0 k (wrap64 (x1 - (((rd_impl_Committee x16 x18).f1).length:Int))) x16 x17 (wrap64 (x18 + 1)))) else (none)) else (none)) else (some (0,0,false))
end
def impl_PlaceInCouncil.f (k:Nat) (l0:List (S_impl_Committee)) (a1:Int):Option (Int × Int × Bool):=(impl_areCommittees.f k l0).bind fun t2=>(if t2 = true then (impl_PlaceInCouncil.j0 k l0 a1 (decide (a1 < 0))) else (impl_PlaceInCouncil.j0 k l0 a1 true))
set_option maxHeartbeats 8000000 in
set_option maxRecDepth 100000 in
theorem impl_PlaceInCouncil.calls (k:Nat) (A0:Option Addr) (c0:Nat) (l0:List (S_impl_Committee)) (a1:Int) (r1:Int) (r2:Int) (r3:Bool) (w:World) (hr0:Kd.C k_impl_Committee w A0 l0.length l0) (hc0:l0.length ≤ c0) (h:impl_PlaceInCouncil.f k l0 a1 = some (r1,r2,r3)) :
  Calls Tryz.prog 17 #[.slice A0 l0.length c0,.int .i64 a1] w fun e w'=>e = .returned (.tuple #[.int .i64 r1,.int .i64 r2,.bool r3]) ∧ Below w.heap.size w w':=by
 have hu24:=Tryz.underlying24;have HR0:=aM hr0;have HC0:=aM hc0;clear hr0 hc0;have HB:=aM (Below.refl w.heap.size w);have H:((impl_areCommittees.f k l0).bind fun t19=>(if t19 = true then (impl_PlaceInCouncil.j0 k l0 a1 (decide (a1 < 0))) else (impl_PlaceInCouncil.j0 k l0 a1 true))) = some (r1,r2,r3):=h;clear h;have HC3:=aM H;clear H;go_enter Tryz.func17,Tryz.ntmps17;go_upto_region 1 with (fail)
 go_cut [15] (fun v15 wc=>∃ (kq:Nat) (x15_2:Bool),v15 = .bool x15_2 ∧ Aside0 (impl_PlaceInCouncil.j0 kq l0 a1 x15_2 = some (r1,r2,r3)) ∧ Aside0 (kq ≤ k) ∧ Aside0 (Below w.heap.size w wc))
 case first =>
  have H:=HC3.out;clear HC3;replace H:=oB H;obtain ⟨t19,A4,H⟩:=H;(try dsimp only at H)
  by_cases c5:t19 = true
  ·subst c5;rw [if_pos rfl] at H;have H':=aM H;clear H;go_wp2_with (first|((with_reducible refine gate_callee (f:=48) rfl ?_);refine gL 10 Tryz.func48 #[.slice A0 l0.length c0] ?_;(with_reducible refine (impl_areCommittees.calls k _ _ l0 true _ ?side1 ?side2 A4.out).mono ?_);(case side1=>exact qcs HR0.out HB.out);(case side2=>exact HC0.out);rintro e w6 ⟨rfl,hb⟩;refine ⟨_,rfl,?_⟩;replace HB:=aM (below_step bw hb);(try clear hb)))
   go_meet
   case rel=>exact ⟨_,(decide (a1 < 0)),qrs,H',⟨by first|omega|exact Nat.le_refl _⟩,⟨by exact bw⟩⟩
  ·replace c5:=Bool.eq_false_iff.mpr c5;subst c5;rw [if_neg (show ¬ (false = true) by decide)] at H;have H':=aM H;clear H;go_wp2_with (first|((with_reducible refine gate_callee (f:=48) rfl ?_);refine gL 10 Tryz.func48 #[.slice A0 l0.length c0] ?_;(with_reducible refine (impl_areCommittees.calls k _ _ l0 false _ ?side1 ?side2 A4.out).mono ?_);(case side1=>exact qcs HR0.out HB.out);(case side2=>exact HC0.out);rintro e w7 ⟨rfl,hb⟩;refine ⟨_,rfl,?_⟩;replace HB:=aM (below_step bw hb);(try clear hb)))
   go_meet
   case rel=>exact ⟨_,(true),qrs,H',⟨by first|omega|exact Nat.le_refl _⟩,⟨by exact bw⟩⟩
 case rest =>
  clear HC3;(try clear c5)
  obtain ⟨kq,x15_2,rfl,HA,HJ2,HB⟩:=hcut
  cases kq with
  | zero=>exact absurd HA.out (by simp [impl_PlaceInCouncil.j0])
  | succ kj2 =>
   have H:=HA.out;clear HA;simp only [impl_PlaceInCouncil.j0] at H;by_cases c8:x15_2 = true
   ·subst c8;rw [if_pos rfl] at H;simp only [Option.some.injEq,Prod.mk.injEq] at H;obtain ⟨rfl,rfl,rfl⟩:=H;go_wp2
    go_ret3
    exact ⟨eE,by exact bw⟩
   ·replace c8:=Bool.eq_false_iff.mpr c8;subst c8;rw [if_neg (show ¬ (false = true) by decide)] at H;have H':=aM H;clear H;go_wp2
    go_loopg [1,18] kj2 (fun kq v1 v18 w'=>∃ (x1_2:Int) (x18_2:Int),v1 = .int .i64 x1_2 ∧ v18 = .int .i64 x18_2 ∧ Aside0 (impl_PlaceInCouncil.l0 kq x1_2 l0 (l0.length:Int) x18_2 = some (r1,r2,r3)) ∧ Aside0 (kq ≤ kj2) ∧ Aside0 (Below w.heap.size w w'))
    case atStart=>exact ⟨(a1),(0),qrs,qrs,H',⟨Nat.le_refl _⟩,⟨by exact bw⟩⟩
    case round =>
     clear H';(try clear c8)
     obtain ⟨x1_2,x18_2,rfl,rfl,HA,HK2,HB⟩:=hrel
     cases gk with
     | zero=>exact absurd HA.out (by simp [impl_PlaceInCouncil.l0])
     | succ k2 =>
      have H:=HA.out;clear HA;simp only [impl_PlaceInCouncil.l0] at H;by_cases c9:x18_2 < (l0.length:Int)
      ·rw [if_pos c9] at H;have c9b0:=decide_eq_true c9;clear c9;replace H:=iN H;obtain ⟨c10,H⟩:=H;have c10b0:decide (0 ≤ x18_2) = true:=decide_eq_true c10;clear c10;replace H:=iN H;obtain ⟨c11,H⟩:=H;have c11b0:decide (x18_2 < (l0.length:Int)) = true:=decide_eq_true c11;clear c11;by_cases c12:x1_2 < (((rd_impl_Committee l0 x18_2).f1).length:Int)
       ·rw [if_pos c12] at H;have c12b0:=decide_eq_true c12;clear c12;simp only [Option.some.injEq,Prod.mk.injEq] at H;obtain ⟨rfl,rfl,rfl⟩:=H;have p20:0 ≤ (x18_2:Int):=of_decide_eq_true ab;have q20:x18_2 < (l0.length:Int):=of_decide_eq_true ab;obtain ⟨ad20,A20_1,c455_1,e20,hx20_0,hx20_1,hl20_1,hi20_1⟩:=at_impl_Committee HR0.out x18_2 p20 q20;cases e20
        replace hx20_0:=(HB.out.cell (World.block_lt_of_cell? w _ hx20_0)).trans hx20_0;replace hx20_1:=(HB.out.cell (World.block_lt_of_cell? w _ hx20_1)).trans hx20_1;have HR20_1:=aM hi20_1;have HC20_1:=aM hl20_1;clear hi20_1 hl20_1;replace p20:=eq_true p20;replace q20:=eq_true q20;go_wp2_with (first|((with_reducible refine gate_dst (N:=8) rfl ?_);refine bE 8 #[.int .i64 0,.slice none 0 0] 24 ?_;intro gb21 hg w13 hbox hb;have BK21:=aM (hbox);have GW21:=aM (gS hg);have GE21:=aM (gS hg);replace HB:=aM (below_step bw hb);clear hb hbox hg;have hcz14_0:=cz BK21.out 0;have hcz14_1:=cz BK21.out 1;have hfz14_0:=blk_frozen BK21.out 0;have hfz14_1:=blk_frozen BK21.out 1))
        go_ret3
        exact ⟨eE,by exact bw⟩
       ·rw [if_neg c12] at H;have c12b0:=decide_eq_false c12;clear c12;have H':=aM H;clear H;have p20:0 ≤ (x18_2:Int):=of_decide_eq_true ab;have q20:x18_2 < (l0.length:Int):=of_decide_eq_true ab;obtain ⟨ad20,A20_1,c455_1,e20,hx20_0,hx20_1,hl20_1,hi20_1⟩:=at_impl_Committee HR0.out x18_2 p20 q20;cases e20
        replace hx20_0:=(HB.out.cell (World.block_lt_of_cell? w _ hx20_0)).trans hx20_0;replace hx20_1:=(HB.out.cell (World.block_lt_of_cell? w _ hx20_1)).trans hx20_1;have HR20_1:=aM hi20_1;have HC20_1:=aM hl20_1;clear hi20_1 hl20_1;replace p20:=eq_true p20;replace q20:=eq_true q20;go_wp2_with (first|((with_reducible refine gate_dst (N:=8) rfl ?_);refine bE 8 #[.int .i64 0,.slice none 0 0] 24 ?_;intro gb21 hg w15 hbox hb;have BK21:=aM (hbox);have GW21:=aM (gS hg);have GE21:=aM (gS hg);replace HB:=aM (below_step bw hb);clear hb hbox hg;have hcz16_0:=cz BK21.out 0;have hcz16_1:=cz BK21.out 1;have hfz16_0:=blk_frozen BK21.out 0;have hfz16_1:=blk_frozen BK21.out 1))
        go_roundg k2
        case measure=>have:=HJ2.out;have:=HK2.out;omega
        case rel=>exact ⟨(wrap64 (x1_2 - (((rd_impl_Committee l0 x18_2).f1).length:Int))),(wrap64 (x18_2 + 1)),qrs,qrs,H',⟨by have:=HJ2.out;have:=HK2.out;omega⟩,⟨by exact bw⟩⟩
      ·rw [if_neg c9] at H;have c9b0:=decide_eq_false c9;clear c9;simp only [Option.some.injEq,Prod.mk.injEq] at H;obtain ⟨rfl,rfl,rfl⟩:=H;go_wp2
       go_ret3
       exact ⟨eE,by exact bw⟩


/-! ### laws_mHas: function 18 -/
def laws_mHas.l0:Nat → Int → List Int → Int → Int → Option (Bool)
 | 0,_,_,_,_=>none
 | k + 1,x1,x7,x8,x9=>if x9 < x8 then (if 0 ≤ x9 then (if x9 < (x7.length:Int) then (if (rd x7 x9) = x1 then (some true) else (laws_mHas.l0 k x1 x7 x8 (wrap64 (x9 + 1)))) else (none)) else (none)) else (some false)
def laws_mHas.f (k:Nat) (l0:List Int) (a1:Int):Option (Bool):=laws_mHas.l0 k a1 l0 (l0.length:Int) 0
set_option maxHeartbeats 8000000 in
set_option maxRecDepth 100000 in
theorem laws_mHas.calls (k:Nat) (A0:Option Addr) (c0:Nat) (l0:List Int) (a1:Int) (r:Bool) (w:World) (hr0:Kd.C (Kd.int .i64) w A0 l0.length l0) (hc0:l0.length ≤ c0) (h:laws_mHas.f k l0 a1 = some r) :
  Calls Tryz.prog 18 #[.slice A0 l0.length c0,.int .i64 a1] w fun e w'=>e = .returned (.bool r) ∧ Drawn0 w w':=by
 have HR0:=aM hr0;have HC0:=aM hc0;clear hr0 hc0;have H:(laws_mHas.l0 k a1 l0 (l0.length:Int) 0) = some r:=h;clear h;have H':=aM H;clear H;go_enter Tryz.func18,Tryz.ntmps18;go_wp2
 go_loopg [9] k (fun kq v9 w'=>∃ (x9_1:Int),v9 = .int .i64 x9_1 ∧ Aside0 (laws_mHas.l0 kq a1 l0 (l0.length:Int) x9_1 = some r) ∧ Aside0 (kq ≤ k) ∧ Drawn0 w w')
 case atStart=>exact ⟨(0),qrs,H',⟨Nat.le_refl _⟩,by repeat (first|exact Drawn0.refl _|apply Drawn0.step)⟩
 case round =>
  clear H';obtain ⟨x9_1,rfl,HA,HK1,⟨m1,rfl⟩⟩:=hrel
  cases gk with
  | zero=>exact absurd HA.out (by simp [laws_mHas.l0])
  | succ k1 =>
   have H:=HA.out;clear HA;simp only [laws_mHas.l0] at H;by_cases c3:x9_1 < (l0.length:Int)
   ·rw [if_pos c3] at H;have c3b0:=decide_eq_true c3;clear c3;replace H:=iN H;obtain ⟨c4,H⟩:=H;have c4b0:decide (0 ≤ x9_1) = true:=decide_eq_true c4;clear c4;replace H:=iN H;obtain ⟨c5,H⟩:=H;have c5b0:decide (x9_1 < (l0.length:Int)) = true:=decide_eq_true c5;clear c5;by_cases c6:(rd l0 x9_1) = a1
    ·rw [if_pos c6] at H;have c6b0:((rd l0 x9_1) == a1) = true:=beq_iff_eq.mpr c6;have c6b1:((rd l0 x9_1) != a1) = false:=bne_eq_false_iff_eq.mpr c6;clear c6;obtain rfl:=Option.some.inj H;have p7:0 ≤ (x9_1:Int):=of_decide_eq_true ab;have q7:x9_1 < (l0.length:Int):=of_decide_eq_true ab;obtain ⟨ad7,e7,hx7_0⟩:=Kd.at_int HR0.out x9_1 p7 q7;cases e7
     replace p7:=eq_true p7;replace q7:=eq_true q7;go_wp2
     go_ret
     exact ⟨qrs,dR⟩
    ·rw [if_neg c6] at H;have c6b0:((rd l0 x9_1) == a1) = false:=beq_eq_false_iff_ne.mpr c6;have c6b1:((rd l0 x9_1) != a1) = true:=bne_iff_ne.mpr c6;have H':=aM H;clear H;have p7:0 ≤ (x9_1:Int):=of_decide_eq_true ab;have q7:x9_1 < (l0.length:Int):=of_decide_eq_true ab;obtain ⟨ad7,e7,hx7_0⟩:=Kd.at_int HR0.out x9_1 p7 q7;cases e7
     replace p7:=eq_true p7;replace q7:=eq_true q7;go_wp2
     go_roundg k1
     case measure=>have:=HK1.out;omega
     case rel=>exact ⟨(wrap64 (x9_1 + 1)),qrs,H',⟨by have:=HK1.out;omega⟩,by repeat (first|exact Drawn0.refl _|apply Drawn0.step)⟩
   ·rw [if_neg c3] at H;have c3b0:=decide_eq_false c3;clear c3;obtain rfl:=Option.some.inj H;go_wp2
    go_ret
    exact ⟨qrs,dR⟩


/-! ### impl_Committee_votes_1: function 80 -/
def impl_Committee_votes_1.f (k:Nat) (a0:Int) (a1_0:Int) (l1_1:List Int):Option (Bool):=(impl_Committee_weight.f k a1_0 l1_1 a0).bind fun t2=>(some (decide (t2 ≥ a1_0)))
set_option maxHeartbeats 8000000 in
set_option maxRecDepth 100000 in
theorem impl_Committee_votes_1.calls (k:Nat) (a0:Int) (gc1:Nat) (a1_0:Int) (A1_1:Option Addr) (c1_1:Nat) (l1_1:List Int) (r:Bool) (w:World) (hr1_1:Kd.C (Kd.int .i64) w A1_1 l1_1.length l1_1) (hc1_1:l1_1.length ≤ c1_1) (hb1:w.heap[gc1]? = some (.cells #[.int .i64 a1_0,.slice A1_1 l1_1.length c1_1] 24 (0,0))) (h:impl_Committee_votes_1.f k a0 a1_0 l1_1 = some r) :
  Calls Tryz.prog 80 #[.int .i64 a0,.pointer (some ⟨gc1,0,none⟩)] w fun e w'=>e = .returned (.bool r) ∧ Below w.heap.size w w':=by
 have hu24:=Tryz.underlying24;have HR1_1:=aM hr1_1;have HC1_1:=aM hc1_1;clear hr1_1 hc1_1;have BK1:=aM hb1;clear hb1;have HB:=aM (Below.refl w.heap.size w);have H:((impl_Committee_weight.f k a1_0 l1_1 a0).bind fun t6=>(some (decide (t6 ≥ a1_0)))) = some r:=h;clear h;replace H:=oB H;obtain ⟨t6,A3,H⟩:=H;(try dsimp only at H)
 obtain rfl:=Option.some.inj H;go_enter Tryz.func80,Tryz.ntmps80
 try go_wp2
 replace BK1:=aM (blk_drew BK1.out);replace HB:=aM (below_drew1 HB.out);refine start_ (n:=7) (S:=fun w'=>w'.cell? ⟨gc1,0,none⟩ = some (.int .i64 a1_0) ∧ w'.cell? ⟨gc1,1,none⟩ = some (.slice A1_1 l1_1.length c1_1)) (ds:=[]) (mA 7 0) kR rfl rfl ⟨(blk_cell BK1.out 0).trans rfl,(blk_cell BK1.out 1).trans rfl⟩ (fun hHeld=>?_);generalize w.drew = w4 at BK1 HB hHeld ⊢
 refine pure_ (i:=1) (N:=some 5) (v:=?_) (a':=?_) (mA 7 2) rfl rfl kR (fun _ _ _ h=>h) (Or.inl ⟨by rfl,?_⟩) ?_ ?_;rotate_left
 ·intro w';go_simp
  with_reducible rfl
 rotate_left
 ·simp only [Act.put,sA,sZ,sS,i64_w,i32_w];rfl
 refine pure_ (i:=3) (N:=some 7) (v:=?_) (a':=?_) (mA 7 10) rfl rfl kR (fun _ _ _ h=>h) (Or.inl ⟨by rfl,?_⟩) ?_ ?_;rotate_left
 ·intro w';go_simp
  with_reducible rfl
 rotate_left
 ·simp only [Act.put,sA,sZ,sS,i64_w,i32_w];rfl
 refine take_ (i:=0) (N:=some 4) (v:=?_) (a':=?_) (mA 7 11) rfl rfl kR (fun _ _ _ h=>h) (Or.inl ⟨by rfl,?_⟩) hHeld ?_ ?_;rotate_left
 ·rintro w' ⟨s0,s1⟩
  go_simp
  with_reducible rfl
 rotate_left
 ·simp only [Act.put,sA,sZ,sS,i64_w,i32_w];rfl
 refine take_ (i:=4) (N:=some 8) (v:=?_) (a':=?_) (mA 7 27) rfl rfl kR (fun _ _ _ h=>h) (Or.inl ⟨by rfl,?_⟩) hHeld ?_ ?_;rotate_left
 ·rintro w' ⟨s0,s1⟩
  go_simp
  with_reducible rfl
 rotate_left
 ·simp only [Act.put,sA,sZ,sS,i64_w,i32_w];rfl
 refine one_ (i:=2) (N:=some 6) (mA 7 31) rfl rfl kR (by decide) (fun K hK=>?_);refine gC Tryz.func52 #[.agg #[.int .i64 a1_0,.slice A1_1 l1_1.length c1_1],.int .i64 a0] ?_
 with_reducible refine (impl_Committee_weight.calls k a1_0 _ _ l1_1 a0 t6 _ ?side1 ?side2 A3.out).mono ?_
 (case side1=>exact qcs HR1_1.out HB.out)
 (case side2=>exact HC1_1.out)
 rintro e w5 ⟨rfl,hb⟩
 refine ⟨_,rfl,?_⟩;replace BK1:=aM (bB BK1.out hb);replace HB:=aM (below_step bw hb);(try clear hb)
 refine hK.out _ _ ⟨(blk_cell BK1.out 0).trans rfl,(blk_cell BK1.out 1).trans rfl⟩ (fun hHeld=>?_);clear hK K;refine nM 6 ?_;refine pure_ (i:=5) (N:=some 9) (v:=?_) (a':=?_) (mA 7 63) rfl rfl kR (fun _ _ _ h=>h) (Or.inl ⟨by rfl,?_⟩) ?_ ?_;rotate_left
 ·intro w';go_simp
  with_reducible rfl
 rotate_left
 ·simp only [Act.put,sA,sZ,sS,i64_w,i32_w];rfl
 refine pure_ (i:=6) (N:=some 3) (v:=?_) (a':=?_) (mA 7 127) rfl rfl kR (fun _ _ _ h=>h) (Or.inl ⟨by rfl,?_⟩) ?_ ?_;rotate_left
 ·intro w';go_simp
  with_reducible rfl
 rotate_left
 ·simp only [Act.put,sA,sZ,sS,i64_w,i32_w];rfl
 refine done_ kR ?_
 try go_wp2
 go_ret
 exact ⟨eE,by exact bw⟩
theorem impl_Committee_votes_1.enters:∀ (args:Array Value) (w:World),(callFunc 80 args).run Tryz.prog w = .ok (.enter 80 args) w:=enters_of Tryz.func80 kR rfl


/-! ### impl_Committee_votes: function 49 -/
def impl_Committee_votes.f (k:Nat) (a0_0:Int) (l0_1:List Int):Option (Int × List Bool):=(impl_votesOf.f k (l0_1.length:Int) (fun y0_=>impl_Committee_votes_1.f k y0_ a0_0 l0_1)).bind fun bt2=>(some (bt2.1,bt2.2))
set_option maxHeartbeats 8000000 in
set_option maxRecDepth 100000 in
theorem impl_Committee_votes.calls (k:Nat) (a0_0:Int) (A0_1:Option Addr) (c0_1:Nat) (l0_1:List Int) (r1:Int) (r2:List Bool) (w:World) (hr0_1:Kd.C (Kd.int .i64) w A0_1 l0_1.length l0_1) (hc0_1:l0_1.length ≤ c0_1) (h:impl_Committee_votes.f k a0_0 l0_1 = some (r1,r2)) :
  Calls Tryz.prog 49 #[.agg #[.int .i64 a0_0,.slice A0_1 l0_1.length c0_1]] w fun e w'=>∃ v1_:Value,e = .returned (.agg #[.int .i64 r1,v1_]) ∧ Kd.R Kd.bool 4 w' w.heap.size (fun _=>True) v1_ r2 ∧ Below w.heap.size w w':=by
 have hmf:∀ (fn:Fn) (first cap:Array Value) (w:World),(Instr.makeFunc fn first cap).run Tryz.prog w = .ok (.func fn first cap) w:=fun _ _ _ _=>rfl
 have hu24:=Tryz.underlying24;have hu59:=Tryz.underlying59;have HR0_1:=aM hr0_1;have HC0_1:=aM hc0_1;clear hr0_1 hc0_1;have HB:=aM (Below.refl w.heap.size w);have H:((impl_votesOf.f k (l0_1.length:Int) (fun y0_=>impl_Committee_votes_1.f k y0_ a0_0 l0_1)).bind fun bt12=>(some (bt12.1,bt12.2))) = some (r1,r2):=h;clear h;replace H:=oB H;obtain ⟨⟨t12,t13⟩,A2,H⟩:=H;(try dsimp only at H)
 simp only [Option.some.injEq,Prod.mk.injEq] at H;obtain ⟨rfl,rfl⟩:=H;go_enter Tryz.func49,Tryz.ntmps49;go_wp2_with (first|((with_reducible refine gate_dst (N:=1) rfl ?_);refine bE 1 #[.int .i64 a0_0,.slice A0_1 l0_1.length c0_1] 24 ?_;intro gb10 hg w3 hbox hb;have BK10:=aM (hbox);have GW10:=aM (gS hg);have GE10:=aM (gS hg);replace HB:=aM (below_step bw hb);clear hb hbox hg)|((with_reducible refine gate_dst (N:=2) rfl ?_);refine bE 2 #[.int .i64 0,.slice none 0 0] 59 ?_;intro gb11 hg w4 hbox hb;have BK11:=aM (hbox);have GW11:=aM (gS hg);have GE11:=aM (gS hg);replace HB:=aM (below_step bw hb);have NB10_11:=aM (nL BK10.out hg);have NB11_10:=aM (nR BK10.out hg);replace BK10:=aM (bB BK10.out hb);clear hb hbox hg;have hnb5:=NB10_11.out;have hnc5:=NB11_10.out;have hcz6_0:=cz BK10.out 0;have hcz6_1:=cz BK10.out 1;have hfz6_0:=blk_frozen BK10.out 0;have hfz6_1:=blk_frozen BK10.out 1)|((with_reducible refine gate_callee (f:=60) rfl ?_);refine gL 7 Tryz.func60 #[.int .i64 (l0_1.length:Int),.func (.func 80) #[] #[.pointer (some ⟨gb10,0,none⟩)]] ?_;(with_reducible refine (impl_votesOf.calls k (l0_1.length:Int) (fun y0_=>impl_Committee_votes_1.f k y0_ a0_0 l0_1) 80 #[.pointer (some ⟨gb10,0,none⟩)] impl_Committee_votes_1.enters t12 t13 _ ?side1 A2.out).mono ?_);(case side1=>exact (fun W_ a0_ r0_ hx_ hb_ =>(impl_Committee_votes_1.calls k a0_ gb10 a0_0 _ _ l0_1 r0_ W_  (Kd.C_below (by repeat (first|exact (Kd.C_below HR0_1.out HB.out)|(with_reducible refine Kd.C_alloc ?_ _)|(with_reducible refine Kd.C_drewN ?_ _)|(with_reducible refine Kd.C_drew ?_))) hb_) (by exact HC0_1.out) (box_later (bk1 BK10.out) hb_) hx_).mono (fun _ _ h_=>h_)));rintro e w7 ⟨v14,rfl,ho0,hb⟩;refine ⟨_,rfl,?_⟩;have HO15:=aM (Kd.R_lower ho0 (below_size bw));replace BK10:=aM (bB BK10.out hb);replace BK11:=aM (bB BK11.out hb);replace HB:=aM (below_step bw hb);(try clear hb);(try clear ho0);have hcz8_0:=cz BK11.out 0;have hcz8_1:=cz BK11.out 1;have hfz8_0:=blk_frozen BK11.out 0;have hfz8_1:=blk_frozen BK11.out 1;obtain ⟨Ao9,co9,eo9⟩:=Kd.R_slice HO15.out;subst eo9))
 refine bodyPost_ret (results_cell_row rfl _ _ gb11 59 #[.int .i64 t12,.slice Ao9 t13.length co9] (0,0) _ rfl (by (with_reducible repeat (first|refine blk_drewN ?_ _|refine blk_drew ?_|refine blk_alloc ?_ _));refine blk_put (cs:=#[.int .i64 t12,.slice none 0 0]) ?_ 1 _ rfl;(with_reducible repeat (first|refine blk_drewN ?_ _|refine blk_drew ?_|refine blk_alloc ?_ _));refine blk_put (cs:=#[.int .i64 0,.slice none 0 0]) ?_ 0 _ rfl;(with_reducible repeat (first|refine blk_drewN ?_ _|refine blk_drew ?_|refine blk_alloc ?_ _));exact BK11.out) Tryz.underlying59 rfl kR) rfl ?_;exact ⟨_,eE,by (with_reducible repeat (first|apply Kd.R_alloc|apply Kd.R_drewN|apply Kd.R_drew));exact Kd.R_mono (Kd.R_far (p:=⟨gb11,1,none⟩) (Kd.R_far (p:=⟨gb11,0,none⟩) (Kd.R_types HO15.out BK11.out (by decide)) (fun _ hk=>hk.2) (.int .i64 t12)) (fun _ hk=>hk.2) (.slice Ao9 t13.length co9)) (fun _ hk=>trivial),by exact bw⟩


/-! ### laws_mSum: function 20 -/
def laws_mSum.l0:Nat → Int → List Int → Int → Int → Option (Int)
 | 0,_,_,_,_=>none
 | k + 1,x3,x6,x7,x8=>if x8 < x7 then (if 0 ≤ x8 then (if x8 < (x6.length:Int) then (laws_mSum.l0 k (wrap64 (x3 + (rd x6 x8))) x6 x7 (wrap64 (x8 + 1))) else (none)) else (none)) else (some x3)
def laws_mSum.f (k:Nat) (l0:List Int):Option (Int):=laws_mSum.l0 k 0 l0 (l0.length:Int) 0
set_option maxHeartbeats 8000000 in
set_option maxRecDepth 100000 in
theorem laws_mSum.calls (k:Nat) (A0:Option Addr) (c0:Nat) (l0:List Int) (r:Int) (w:World) (hr0:Kd.C (Kd.int .i64) w A0 l0.length l0) (hc0:l0.length ≤ c0) (h:laws_mSum.f k l0 = some r) :
  Calls Tryz.prog 20 #[.slice A0 l0.length c0] w fun e w'=>e = .returned (.int .i64 r) ∧ Drawn0 w w':=by
 have HR0:=aM hr0;have HC0:=aM hc0;clear hr0 hc0;have H:(laws_mSum.l0 k 0 l0 (l0.length:Int) 0) = some r:=h;clear h;have H':=aM H;clear H;go_enter Tryz.func20,Tryz.ntmps20;go_wp2
 go_loopg [3,8] k (fun kq v3 v8 w'=>∃ (x3_1:Int) (x8_1:Int),v3 = .int .i64 x3_1 ∧ v8 = .int .i64 x8_1 ∧ Aside0 (laws_mSum.l0 kq x3_1 l0 (l0.length:Int) x8_1 = some r) ∧ Aside0 (kq ≤ k) ∧ Drawn0 w w')
 case atStart=>exact ⟨(0),(0),qrs,qrs,H',⟨Nat.le_refl _⟩,by repeat (first|exact Drawn0.refl _|apply Drawn0.step)⟩
 case round =>
  clear H';obtain ⟨x3_1,x8_1,rfl,rfl,HA,HK1,⟨m1,rfl⟩⟩:=hrel
  cases gk with
  | zero=>exact absurd HA.out (by simp [laws_mSum.l0])
  | succ k1 =>
   have H:=HA.out;clear HA;simp only [laws_mSum.l0] at H;by_cases c2:x8_1 < (l0.length:Int)
   ·rw [if_pos c2] at H;have c2b0:=decide_eq_true c2;clear c2;replace H:=iN H;obtain ⟨c3,H⟩:=H;have c3b0:decide (0 ≤ x8_1) = true:=decide_eq_true c3;clear c3;replace H:=iN H;obtain ⟨c4,H⟩:=H;have c4b0:decide (x8_1 < (l0.length:Int)) = true:=decide_eq_true c4;clear c4;have H':=aM H;clear H;have p5:0 ≤ (x8_1:Int):=of_decide_eq_true ab;have q5:x8_1 < (l0.length:Int):=of_decide_eq_true ab;obtain ⟨ad5,e5,hx5_0⟩:=Kd.at_int HR0.out x8_1 p5 q5;cases e5
    replace p5:=eq_true p5;replace q5:=eq_true q5;go_wp2
    go_roundg k1
    case measure=>have:=HK1.out;omega
    case rel=>exact ⟨(wrap64 (x3_1 + (rd l0 x8_1))),(wrap64 (x8_1 + 1)),qrs,qrs,H',⟨by have:=HK1.out;omega⟩,by repeat (first|exact Drawn0.refl _|apply Drawn0.step)⟩
   ·rw [if_neg c2] at H;have c2b0:=decide_eq_false c2;clear c2;obtain rfl:=Option.some.inj H;go_wp2
    go_ret
    exact ⟨qrs,dR⟩


/-! ### impl_InnerChances: function 21 -/
def impl_InnerChances.l0:Nat → List (S_impl_Share) → List (S_impl_Committee) → Int → Int → Option ((List (S_impl_Share)) × Bool)
 | 0,_,_,_,_=>none
 | k + 1,x4,x12,x13,x14=>if x14 < x13 then (if 0 ≤ x14 then (if x14 < (x12.length:Int) then ((impl_Committee_votes.f k ((rd_impl_Committee x12 x14).f0) ((rd_impl_Committee x12 x14).f1)).bind fun bt2=>((impl_votes_countWins.f k bt2.1 bt2.2).bind fun t3=>((impl_shareOf.f k t3 (bt2.2.length:Int)).bind fun bt5=>(if x4.length < 8796093022208 then (impl_InnerChances.l0 k (x4 ++ [(⟨bt5.1,bt5.2⟩:S_impl_Share)]) x12 x13 (wrap64 (x14 + 1))) else (none))))) else (none)) else (none)) else (some (x4,true))
def impl_InnerChances.f (k:Nat) (l0:List (S_impl_Committee)):Option ((List (S_impl_Share)) × Bool):=(impl_areCommittees.f k l0).bind fun t1=>(if t1 = true then (impl_InnerChances.l0 k (([]:List (S_impl_Share))) l0 (l0.length:Int) 0) else (some (([]:List (S_impl_Share)),false)))
def impl_InnerChances.T8:Bool × List (List Nat × List Nat):=(true,[([],[]),([],[]),([1],[1]),([],[]),([3],[3]),([4],[4]),([2,5,2],[2,5]),([6],[6]),([0,7,6],[0,7]),([8,8,0,1,2,3,4,5,6,7,8],[0,8])])
def impl_InnerChances.B8:List Nat:=[0,0,2,0,8,24,62,126,255,511]
theorem impl_InnerChances.tab8:rtab .any (opsOf Tryz.f21 8) = impl_InnerChances.T8:=by kernel_rfl
theorem impl_InnerChances.bits8:waitsOk impl_InnerChances.T8.2 impl_InnerChances.B8 = true:=by kernel_rfl
set_option maxHeartbeats 8000000 in
set_option maxRecDepth 100000 in
theorem impl_InnerChances.calls (k:Nat) (A0:Option Addr) (c0:Nat) (l0:List (S_impl_Committee)) (r1:List (S_impl_Share)) (r2:Bool) (w:World) (hr0:Kd.C k_impl_Committee w A0 l0.length l0) (hc0:l0.length ≤ c0) (h:impl_InnerChances.f k l0 = some (r1,r2)) :
  Calls Tryz.prog 21 #[.slice A0 l0.length c0] w fun e w'=>∃ v0_:Value,e = .returned (.tuple #[v0_,.bool r2]) ∧ Kd.R k_impl_Share 44 w' w.heap.size (fun _=>True) v0_ r1 ∧ Below w.heap.size w w':=by
 have hu24:=Tryz.underlying24;have hu59:=Tryz.underlying59;have HR0:=aM hr0;have HC0:=aM hc0;clear hr0 hc0;have HB:=aM (Below.refl w.heap.size w);have H:((impl_areCommittees.f k l0).bind fun t27=>(if t27 = true then (impl_InnerChances.l0 k (([]:List (S_impl_Share))) l0 (l0.length:Int) 0) else (some (([]:List (S_impl_Share)),false)))) = some (r1,r2):=h;clear h;replace H:=oB H;obtain ⟨t27,A2,H⟩:=H;(try dsimp only at H)
 by_cases c3:t27 = true
 ·subst c3;rw [if_pos rfl] at H;obtain ⟨y28,hy28⟩:∃ y_:List (S_impl_Share),y_ = (([]:List (S_impl_Share))):=⟨_,rfl⟩;replace H:(impl_InnerChances.l0 k y28 l0 (l0.length:Int) 0) = some (r1,r2):=yR hy28 H;have Ny28:=aM hy28;clear hy28;have H':=aM H;clear H;go_enter Tryz.func21,Tryz.ntmps21;go_wp2_with (first|((with_reducible refine gate_callee (f:=48) rfl ?_);refine gL 9 Tryz.func48 #[.slice A0 l0.length c0] ?_;(with_reducible refine (impl_areCommittees.calls k _ _ l0 true _ ?side1 ?side2 A2.out).mono ?_);(case side1=>exact qc HR0.out);(case side2=>exact HC0.out);rintro e w4 ⟨rfl,hb⟩;refine ⟨_,rfl,?_⟩;replace HB:=aM (below_step bw hb);(try clear hb))|((with_reducible refine gate_dst (N:=11) rfl ?_);refine Kd.R_lit k_impl_Share _ 44 ?hg (N:=11) ?hd (xs:=([]:List (S_impl_Share))) (inner:=[]) (ok:=fun _=>True) (okp:=fun _=>True) ?hr ?hp (fun _ hk=>hk) trivial (Below.refl _ _) (Nat.le_refl _) (by simp) ?_;(case hd=>rfl);(case hg=>rfl);(case hr=>first|(go_simp;done)|(go_simp;rfl));(case hp=>exact (Reps.none _ _));intro v29 w5 ho6 hb hg_ hnew_;clear hg_ hnew_;(first|rw [← Ny28.out] at ho6|(simp only [Int.reduceToNat] at ho6;rw [← Ny28.out] at ho6));have HO30:=aM (Kd.R_lower ho6 (below_size bw));replace HB:=aM (below_step bw hb);clear hb ho6))
  go_loopg [4,14] k (fun kq v4 v14 w'=>∃ (x4_1:List (S_impl_Share)) (x14_1:Int),v14 = .int .i64 x14_1 ∧ Aside0 (impl_InnerChances.l0 kq x4_1 l0 (l0.length:Int) x14_1 = some (r1,r2)) ∧ Aside0 (kq ≤ k) ∧ Aside0 (Kd.R k_impl_Share 44 w' w.heap.size (fun _=>True) v4 x4_1) ∧ Aside0 (Below w.heap.size w w'))
  case atStart=>exact ⟨(y28),(0),qrs,H',⟨Nat.le_refl _⟩,⟨qra HO30.out⟩,⟨by exact bw⟩⟩
  case round =>
   clear H';(try clear c3)
   obtain ⟨x4_1,x14_1,rfl,HA,HK1,HO_4,HB⟩:=hrel
   cases gk with
   | zero=>exact absurd HA.out (by simp [impl_InnerChances.l0])
   | succ k1 =>
    have H:=HA.out;clear HA;simp only [impl_InnerChances.l0] at H;by_cases c7:x14_1 < (l0.length:Int)
    ·rw [if_pos c7] at H;have c7b0:=decide_eq_true c7;clear c7;replace H:=iN H;obtain ⟨c8,H⟩:=H;have c8b0:decide (0 ≤ x14_1) = true:=decide_eq_true c8;clear c8;replace H:=iN H;obtain ⟨c9,H⟩:=H;have c9b0:decide (x14_1 < (l0.length:Int)) = true:=decide_eq_true c9;clear c9;replace H:=oB H;obtain ⟨⟨t34,t35⟩,A10,H⟩:=H;(try dsimp only at H)
     replace H:=oB H;obtain ⟨t40,A11,H⟩:=H;(try dsimp only at H)
     replace H:=oB H;obtain ⟨⟨t41,t42⟩,A12,H⟩:=H;(try dsimp only at H)
     replace H:=iN H;obtain ⟨c13,H⟩:=H;have LMc13:=aM c13;clear c13;obtain ⟨y43,hy43⟩:∃ y_:List (S_impl_Share),y_ = (x4_1 ++ [(⟨t41,t42⟩:S_impl_Share)]):=⟨_,rfl⟩;replace H:(impl_InnerChances.l0 k1 y43 l0 (l0.length:Int) (wrap64 (x14_1 + 1))) = some (r1,r2):=yR hy43 H;have Ny43:=aM hy43;clear hy43;have H':=aM H;clear H;have p32:0 ≤ (x14_1:Int):=of_decide_eq_true ab;have q32:x14_1 < (l0.length:Int):=of_decide_eq_true ab;obtain ⟨ad32,A32_1,c479_1,e32,hx32_0,hx32_1,hl32_1,hi32_1⟩:=at_impl_Committee HR0.out x14_1 p32 q32;cases e32
     replace hx32_0:=(HB.out.cell (World.block_lt_of_cell? w _ hx32_0)).trans hx32_0;replace hx32_1:=(HB.out.cell (World.block_lt_of_cell? w _ hx32_1)).trans hx32_1;have HR32_1:=aM hi32_1;have HC32_1:=aM hl32_1;clear hi32_1 hl32_1;replace p32:=eq_true p32;replace q32:=eq_true q32
     try go_wp2_with (first|((with_reducible refine gate_dst (N:=6) rfl ?_);refine bE 6 #[.int .i64 0,.slice none 0 0] 24 ?_;intro gb33 hg w14 hbox hb;replace HO_4:=aM (Kd.R_below (qra HO_4.out) hb);have BK33:=aM (hbox);have GW33:=aM (gS hg);have GE33:=aM (gS hg);replace HB:=aM (below_step bw hb);clear hb hbox hg;have hcz15_0:=cz BK33.out 0;have hcz15_1:=cz BK33.out 1;have hfz15_0:=blk_frozen BK33.out 0;have hfz15_1:=blk_frozen BK33.out 1)|((with_reducible refine gate_callee (f:=49) rfl ?_);refine gL 19 Tryz.func49 #[.agg #[.int .i64 ((rd_impl_Committee l0 x14_1).f0),.slice A32_1 ((rd_impl_Committee l0 x14_1).f1).length c479_1]] ?_;(with_reducible refine (impl_Committee_votes.calls k1 ((rd_impl_Committee l0 x14_1).f0) _ _ ((rd_impl_Committee l0 x14_1).f1) t34 t35 _ ?side1 ?side2 A10.out).mono ?_);(case side1=>exact Kd.C_below HR32_1.out bw);(case side2=>exact HC32_1.out);rintro e w16 ⟨v36,rfl,ho0,hb⟩;refine ⟨_,rfl,?_⟩;replace HO_4:=aM (Kd.R_below (by (with_reducible repeat (first|apply Kd.R_alloc|apply Kd.R_drewN|apply Kd.R_drew));exact (Kd.R_mono (Kd.R_far (p:=⟨gb33,1,none⟩) (Kd.R_far (p:=⟨gb33,0,none⟩) (Kd.R_types HO_4.out BK33.out (by decide)) (fun _ hk=>hk.2) (.int .i64 ((rd_impl_Committee l0 x14_1).f0))) (fun _ hk=>hk.2) (.slice A32_1 ((rd_impl_Committee l0 x14_1).f1).length c479_1)) (fun _ h_=>h_.1))) hb);have HO37:=aM (Kd.R_lower ho0 (below_size bw));replace BK33:=aM (blk_below (g:=gb33) (o:=.cells #[.int .i64 ((rd_impl_Committee l0 x14_1).f0),.slice A32_1 ((rd_impl_Committee l0 x14_1).f1).length c479_1] 24 (0,0)) (by (with_reducible repeat (first|refine blk_drewN ?_ _|refine blk_drew ?_|refine blk_alloc ?_ _));refine blk_put (cs:=#[.int .i64 ((rd_impl_Committee l0 x14_1).f0),.slice none 0 0]) ?_ 1 _ rfl;(with_reducible repeat (first|refine blk_drewN ?_ _|refine blk_drew ?_|refine blk_alloc ?_ _));refine blk_put (cs:=#[.int .i64 0,.slice none 0 0]) ?_ 0 _ rfl;(with_reducible repeat (first|refine blk_drewN ?_ _|refine blk_drew ?_|refine blk_alloc ?_ _));exact BK33.out) hb);replace HB:=aM (below_step bw hb);(try clear hb);(try clear hk);(try clear ho0))|((with_reducible refine gate_dst (N:=7) rfl ?_);refine bE 7 #[.int .i64 0,.slice none 0 0] 59 ?_;intro gb39 hg w17 hbox hb;replace HO_4:=aM (Kd.R_below (qra HO_4.out) hb);replace HO37:=aM (Kd.R_below (qra HO37.out) hb);have BK39:=aM (hbox);have GW39:=aM (gS hg);have GE39:=aM (gS hg);replace HB:=aM (below_step bw hb);have NB33_39:=aM (nL BK33.out hg);have NB39_33:=aM (nR BK33.out hg);replace BK33:=aM (bB BK33.out hb);clear hb hbox hg;have hnb18:=NB39_33.out;have hnc18:=NB33_39.out;have hcz19_0:=cz BK39.out 0;have hcz19_1:=cz BK39.out 1;have hfz19_0:=blk_frozen BK39.out 0;have hfz19_1:=blk_frozen BK39.out 1;obtain ⟨Ao20,co20,eo20⟩:=Kd.R_slice HO37.out;subst eo20))
     have n0_:Aside0 (Kd.R k_impl_Share 44 ((w17.setCell ⟨gb39,0,none⟩ (.int .i64 t34)).setCell ⟨gb39,1,none⟩ (.slice Ao20 t35.length co20)) w.heap.size (fun _=>True) u4 x4_1):=⟨by (with_reducible repeat (first|apply Kd.R_alloc|apply Kd.R_drewN|apply Kd.R_drew));exact Kd.R_mono (Kd.R_far (p:=⟨gb39,1,none⟩) (Kd.R_far (p:=⟨gb39,0,none⟩) (Kd.R_types HO_4.out BK39.out (by decide)) (fun _ hk=>hk.2) (.int .i64 t34)) (fun _ hk=>hk.2) (.slice Ao20 t35.length co20)) (fun _ hk=>trivial)⟩;have n1_:Aside0 (Kd.R Kd.bool 4 ((w17.setCell ⟨gb39,0,none⟩ (.int .i64 t34)).setCell ⟨gb39,1,none⟩ (.slice Ao20 t35.length co20)) w.heap.size (fun _=>True) (.slice Ao20 t35.length co20) t35):=⟨by (with_reducible repeat (first|apply Kd.R_alloc|apply Kd.R_drewN|apply Kd.R_drew));exact Kd.R_mono (Kd.R_far (p:=⟨gb39,1,none⟩) (Kd.R_far (p:=⟨gb39,0,none⟩) (Kd.R_types HO37.out BK39.out (by decide)) (fun _ hk=>hk.2) (.int .i64 t34)) (fun _ hk=>hk.2) (.slice Ao20 t35.length co20)) (fun _ hk=>trivial)⟩;have n2_:Aside0 (((w17.setCell ⟨gb39,0,none⟩ (.int .i64 t34)).setCell ⟨gb39,1,none⟩ (.slice Ao20 t35.length co20)).heap[gb33]? = some (.cells #[.int .i64 ((rd_impl_Committee l0 x14_1).f0),.slice A32_1 ((rd_impl_Committee l0 x14_1).f1).length c479_1] 24 (0,0))):=⟨by (with_reducible repeat (first|refine blk_drewN ?_ _|refine blk_drew ?_|refine blk_alloc ?_ _));refine blk_far ?_ NB33_39.out _;(with_reducible repeat (first|refine blk_drewN ?_ _|refine blk_drew ?_|refine blk_alloc ?_ _));refine blk_far ?_ NB33_39.out _;(with_reducible repeat (first|refine blk_drewN ?_ _|refine blk_drew ?_|refine blk_alloc ?_ _));exact BK33.out⟩;have n3_:Aside0 (((w17.setCell ⟨gb39,0,none⟩ (.int .i64 t34)).setCell ⟨gb39,1,none⟩ (.slice Ao20 t35.length co20)).heap[gb39]? = some (.cells #[.int .i64 t34,.slice Ao20 t35.length co20] 59 (0,0))):=⟨by (with_reducible repeat (first|refine blk_drewN ?_ _|refine blk_drew ?_|refine blk_alloc ?_ _));refine blk_put (cs:=#[.int .i64 t34,.slice none 0 0]) ?_ 1 _ rfl;(with_reducible repeat (first|refine blk_drewN ?_ _|refine blk_drew ?_|refine blk_alloc ?_ _));refine blk_put (cs:=#[.int .i64 0,.slice none 0 0]) ?_ 0 _ rfl;(with_reducible repeat (first|refine blk_drewN ?_ _|refine blk_drew ?_|refine blk_alloc ?_ _));exact BK39.out⟩;have n4_:Aside0 (Below w.heap.size w ((w17.setCell ⟨gb39,0,none⟩ (.int .i64 t34)).setCell ⟨gb39,1,none⟩ (.slice Ao20 t35.length co20))):=⟨by exact bw⟩;(try clear HO_4)
     (try clear HO37)
     (try clear BK33)
     (try clear BK39)
     (try clear HB)
     generalize ((w17.setCell ⟨gb39,0,none⟩ (.int .i64 t34)).setCell ⟨gb39,1,none⟩ (.slice Ao20 t35.length co20)) = w21 at n0_ n1_ n2_ n3_ n4_ ⊢
     have HO_4:=n0_;have HO37:=n1_;have BK33:=n2_;have BK39:=n3_;have HB:=n4_;clear n0_ n1_ n2_ n3_ n4_;replace HO_4:=aM (Kd.R_drew HO_4.out);replace HO37:=aM (Kd.R_drew HO37.out);replace BK33:=aM (blk_drew BK33.out);replace BK39:=aM (blk_drew BK39.out);replace HB:=aM (below_drew1 HB.out);refine start_ (n:=10) (S:=fun w'=>w'.cell? ⟨gb39,0,none⟩ = some (.int .i64 t34) ∧ w'.cell? ⟨gb39,1,none⟩ = some (.slice Ao20 t35.length co20)) (ds:=[]) (mA 10 0) kR rfl rfl ⟨(blk_cell BK39.out 0).trans rfl,(blk_cell BK39.out 1).trans rfl⟩ (fun hHeld=>?_);refine with_tabW impl_InnerChances.tab8 impl_InnerChances.bits8 (fun HT_ HW_=>?_)
     generalize w21.drew = w22 at HO_4 HO37 BK33 BK39 HB hHeld ⊢
     refine pT 0 20 HT_.out ?_;refine pT 3 23 HT_.out ?_;refine pK 1 21 HT_.out HW_.out hHeld ?_;refine pK 4 24 HT_.out HW_.out hHeld ?_;refine pT 5 25 HT_.out ?_;refine oN 2 (some 22) HT_.out fun K hK=>?_
     refine gC Tryz.func38 #[.agg #[.int .i64 t34,.slice Ao20 t35.length co20]] ?_
     with_reducible refine (impl_votes_countWins.calls k1 t34 _ _ t35 t40 _ ?side1 ?side2 A11.out).mono ?_
     (case side1=>exact qc (Kd.R_reads' HO37.out).2.2)
     (case side2=>exact (Kd.R_reads' HO37.out).2.1)
     rintro e w23 ⟨rfl,hb⟩
     refine ⟨_,rfl,?_⟩;replace HO_4:=aM (Kd.R_below (qra HO_4.out) hb);replace HO37:=aM (Kd.R_below (qra HO37.out) hb);replace BK33:=aM (bB BK33.out hb);replace BK39:=aM (bB BK39.out hb);replace HB:=aM (below_step bw hb);(try clear hb)
     (try clear hk)
     refine hK.out _ _ ⟨(blk_cell BK39.out 0).trans rfl,(blk_cell BK39.out 1).trans rfl⟩ (fun hHeld=>?_);clear hK K;refine nM 22 ?_;refine oN 6 (some 26) HT_.out fun K hK=>?_
     refine gC Tryz.func50 #[.int .i64 t40,.int .i64 (t35.length:Int)] ?_
     with_reducible refine (impl_shareOf.calls k1 t40 (t35.length:Int) t41 t42 _ A12.out).mono ?_
     rintro e w24 ⟨rfl,hb⟩
     refine ⟨_,rfl,?_⟩;replace HO_4:=aM (Kd.R_below (qra HO_4.out) hb);replace HO37:=aM (Kd.R_below (qra HO37.out) hb);replace BK33:=aM (bB BK33.out hb);replace BK39:=aM (bB BK39.out hb);replace HB:=aM (below_step bw hb);(try clear hb)
     refine hK.out _ _ ⟨(blk_cell BK39.out 0).trans rfl,(blk_cell BK39.out 1).trans rfl⟩ (fun hHeld=>?_);clear hK K;refine nM 26 ?_;refine oN 7 (some 27) HT_.out fun K hK=>?_
     refine value_ (w1:=?_) (v:=?_) (by rfl) rfl ?_ ?_;rotate_left 2
     ·go_simp
      constructor
      ·rfl
      ·rfl
     refine hK.out _ _ ⟨(blk_cell (blk_alloc BK39.out _) 0).trans rfl,(blk_cell (blk_alloc BK39.out _) 1).trans rfl⟩ (fun hHeld=>?_);clear hK K;refine nM 27 ?_;refine oN 8 (some 28) HT_.out fun K hK=>?_
     refine Kd.R_append_step k_impl_Share (w0:=w) w.heap.size (by rfl) (.tmp 20) (.tmp 27) 31 44 (.agg #[(.int .i64 0),(.int .i64 0)]) 16 rfl Tryz.underlying31 info44 rfl (by decide) (by omega) u4 x4_1 (⟨t41,t42⟩:S_impl_Share) [.int .i64 t41,.int .i64 t42] (fun _=>True) (fun _=>False) rfl rfl ?aP (fun _ hk=>hk.elim) ?aF ?aO ?aB ?aS ?aL ?_;(case aP=>exact k_impl_Share_mkM _ _ _ (⟨t41,t42⟩:S_impl_Share))
     (case aB=>exact bw)
     (case aF=>exact (fun _ _=>trivial))
     (case aO=>exact (qra HO_4.out))
     (case aS=>exact (below_size bw))
     (case aL=>have:=LMc13.out;omega)
     intro v45 w25 ho hb hg hat;rw [← Ny43.out] at ho;replace BK33:=aM (blk_grown (g:=gb33) (o:=.cells #[.int .i64 ((rd_impl_Committee l0 x14_1).f0),.slice A32_1 ((rd_impl_Committee l0 x14_1).f1).length c479_1] 24 (0,0)) (bk1 BK33.out) hg (Kd.R_ne HO_4.out BK33.out (by decide)));replace HO37:=aM (Kd.R_over' (qra HO37.out) (Kd.R_typed (qra HO_4.out)) (by decide) hg);replace BK39:=aM (blk_grown (g:=gb39) (o:=.cells #[.int .i64 t34,.slice Ao20 t35.length co20] 59 (0,0)) (bk1 BK39.out) hg (Kd.R_ne HO_4.out BK39.out (by decide)));replace HB:=aM (hb);have HO46:=aM (ho);clear HO_4;clear ho hb hg hat;refine hK.out _ _ ⟨(blk_cell BK39.out 0).trans rfl,(blk_cell BK39.out 1).trans rfl⟩ (fun hHeld=>?_);clear hK K;refine nM 28 ?_;refine pT 9 4 HT_.out ?_;refine done_ (done_of HT_.out kR) ?_
     try go_wp2
     go_roundg k1
     case measure=>have:=HK1.out;omega
     case rel=>exact ⟨(y43),(wrap64 (x14_1 + 1)),qrs,H',⟨by have:=HK1.out;omega⟩,⟨qra HO46.out⟩,⟨by exact bw⟩⟩
    ·rw [if_neg c7] at H;have c7b0:=decide_eq_false c7;clear c7;simp only [Option.some.injEq,Prod.mk.injEq] at H;obtain ⟨rfl,rfl⟩:=H;go_wp2
     go_ret2
     exact ⟨_,eE,by (with_reducible repeat (first|apply Kd.R_alloc|apply Kd.R_drewN|apply Kd.R_drew));exact HO_4.out,by exact bw⟩
 ·replace c3:=Bool.eq_false_iff.mpr c3;subst c3;rw [if_neg (show ¬ (false = true) by decide)] at H;simp only [Option.some.injEq,Prod.mk.injEq] at H;obtain ⟨rfl,rfl⟩:=H;go_enter Tryz.func21,Tryz.ntmps21;go_wp2_with (first|((with_reducible refine gate_callee (f:=48) rfl ?_);refine gL 9 Tryz.func48 #[.slice A0 l0.length c0] ?_;(with_reducible refine (impl_areCommittees.calls k _ _ l0 false _ ?side1 ?side2 A2.out).mono ?_);(case side1=>exact qc HR0.out);(case side2=>exact HC0.out);rintro e w26 ⟨rfl,hb⟩;refine ⟨_,rfl,?_⟩;replace HB:=aM (below_step bw hb);(try clear hb);(try clear hk)))
  go_ret2
  exact ⟨_,eE,by first|exact Kd.R_nil _ _ _ _ _|exact Kd.N_nil _ _ _ _ _|exact Kd.V_nil _ _ _ _ _|exact Kd.Q_nil _ _ _ _ _|exact Kd.S_nil _ _ _ _ _,by exact bw⟩


/-! ### impl_WinsCouncil: function 22 -/
mutual
def impl_WinsCouncil.j0:Nat → List (S_impl_Committee) → List (List Int) → Bool → Int → List Int → Option (Bool × Bool)
 | 0,_,_,_,_,_=>none
 | k + 1,x1,x2,x21,x6,x7=>if x21 = true then (some (false,false)) else (impl_WinsCouncil.l0 k x2 0 x1 (x1.length:Int) 0 x6 x7)
def impl_WinsCouncil.l0:Nat → List (List Int) → Int → List (S_impl_Committee) → Int → Int → Int → List Int → Option (Bool × Bool)
 | 0,_,_,_,_,_,_,_=>none
 | k + 1,x2,x8,x22,x23,x24,x6,x7=>if x24 < x23 then (if 0 ≤ x24 then (if x24 < (x22.length:Int) then (if x24 < (x2.length:Int) then ((impl_isSet.f k (rd_LI x2 x24) (((rd_impl_Committee x22 x24).f1).length:Int)).bind fun t3=>(if t3 = true then ((impl_maskOf.f k (rd_LI x2 x24)).bind fun t4=>((impl_Committee_weight.f k ((rd_impl_Committee x22 x24).f0) ((rd_impl_Committee x22 x24).f1) t4).bind fun t5=>(if t5 ≥ ((rd_impl_Committee x22 x24).f0) then (if x24 < (x7.length:Int) then (impl_WinsCouncil.l0 k x2 (wrap64 (x8 + (rd x7 x24))) x22 x23 (wrap64 (x24 + 1)) x6 x7) else (none)) else (impl_WinsCouncil.l0 k x2 x8 x22 x23 (wrap64 (x24 + 1)) x6 x7)))) else (some (false,false)))) else (none)) else (none)) else (none)) else (some (decide (x8 ≥ x6),true))
end
def impl_WinsCouncil.f (k:Nat) (a0_0:Int) (l0_1:List Int) (l1:List (S_impl_Committee)) (l2:List (List Int)):Option (Bool × Bool):=(impl_AreCouncil.f k a0_0 l0_1 l1).bind fun t3=>(if t3 = true then (impl_WinsCouncil.j0 k l1 l2 ((l2.length:Int) != (l1.length:Int)) a0_0 l0_1) else (impl_WinsCouncil.j0 k l1 l2 true a0_0 l0_1))
def impl_WinsCouncil.T7:Bool × List (List Nat × List Nat):=(true,[([],[]),([],[]),([0,1],[0,1]),([2],[2]),([],[]),([4],[4]),([5],[5]),([3,6],[3,6]),([7],[7])])
def impl_WinsCouncil.B7:List Nat:=[0,0,3,7,0,16,48,127,255]
theorem impl_WinsCouncil.tab7:rtab .any (opsOf Tryz.f22 7) = impl_WinsCouncil.T7:=by kernel_rfl
theorem impl_WinsCouncil.bits7:waitsOk impl_WinsCouncil.T7.2 impl_WinsCouncil.B7 = true:=by kernel_rfl
def impl_WinsCouncil.T9:Bool × List (List Nat × List Nat):=(true,[([],[]),([],[]),([],[]),([1,2],[1,2]),([3],[3]),([4],[4]),([0,5,5],[0,5]),([],[]),([7],[7]),([6,8],[6,8])])
def impl_WinsCouncil.B9:List Nat:=[0,0,0,6,14,30,63,0,128,511]
theorem impl_WinsCouncil.tab9:rtab .any (opsOf Tryz.f22 9) = impl_WinsCouncil.T9:=by kernel_rfl
theorem impl_WinsCouncil.bits9:waitsOk impl_WinsCouncil.T9.2 impl_WinsCouncil.B9 = true:=by kernel_rfl
set_option maxHeartbeats 8000000 in
set_option maxRecDepth 100000 in
theorem impl_WinsCouncil.calls (k:Nat) (a0_0:Int) (A0_1:Option Addr) (c0_1:Nat) (l0_1:List Int) (A1:Option Addr) (c1:Nat) (l1:List (S_impl_Committee)) (A2:Option Addr) (c2:Nat) (l2:List (List Int)) (r1:Bool) (r2:Bool) (w:World) (hr0_1:Kd.C (Kd.int .i64) w A0_1 l0_1.length l0_1) (hc0_1:l0_1.length ≤ c0_1) (hr1:Kd.C k_impl_Committee w A1 l1.length l1) (hc1:l1.length ≤ c1) (hr2:Kd.C (Kd.slice 3 (Kd.int .i64)) w A2 l2.length l2) (hc2:l2.length ≤ c2) (h:impl_WinsCouncil.f k a0_0 l0_1 l1 l2 = some (r1,r2)) :
  Calls Tryz.prog 22 #[.agg #[.int .i64 a0_0,.slice A0_1 l0_1.length c0_1],.slice A1 l1.length c1,.slice A2 l2.length c2] w fun e w'=>e = .returned (.tuple #[.bool r1,.bool r2]) ∧ Below w.heap.size w w':=by
 have hu24:=Tryz.underlying24;have HR0_1:=aM hr0_1;have HC0_1:=aM hc0_1;clear hr0_1 hc0_1;have HR1:=aM hr1;have HC1:=aM hc1;clear hr1 hc1;have HR2:=aM hr2;have HC2:=aM hc2;clear hr2 hc2;have HB:=aM (Below.refl w.heap.size w);have H:((impl_AreCouncil.f k a0_0 l0_1 l1).bind fun t49=>(if t49 = true then (impl_WinsCouncil.j0 k l1 l2 ((l2.length:Int) != (l1.length:Int)) a0_0 l0_1) else (impl_WinsCouncil.j0 k l1 l2 true a0_0 l0_1))) = some (r1,r2):=h;clear h;have HC4:=aM H;clear H;go_enter Tryz.func22,Tryz.ntmps22;go_upto_region 1 with (first|((with_reducible refine gate_dst (N:=3) rfl ?_);(try (refine gate_guard (by rfl) ?_;dsimp only));refine bE 3 #[.int .i64 a0_0,.slice A0_1 l0_1.length c0_1] 24 ?_;intro gb48 hg w5 hbox hb;have BK48:=aM (hbox);have GW48:=aM (gS hg);have GE48:=aM (gS hg);replace HB:=aM (below_step bw hb);clear hb hbox hg))
 (try simp only [Act.put,sA,sZ,sS])
 go_cut [21] (fun v21 wc=>∃ (kq:Nat) (x21_3:Bool),v21 = .bool x21_3 ∧ Aside0 (impl_WinsCouncil.j0 kq l1 l2 x21_3 a0_0 l0_1 = some (r1,r2)) ∧ Aside0 (kq ≤ k) ∧ Aside0 (wc.heap[gb48]? = some (.cells #[.int .i64 a0_0,(.slice A0_1 l0_1.length c0_1)] 24 (0,0))) ∧ Aside0 (Below w.heap.size w wc))
 case first =>
  have H:=HC4.out;clear HC4;replace H:=oB H;obtain ⟨t49,A6,H⟩:=H;(try dsimp only at H)
  by_cases c7:t49 = true
  ·subst c7;rw [if_pos rfl] at H;have H':=aM H;clear H;have hcz8_0:=cz BK48.out 0;have hcz8_1:=cz BK48.out 1;have hfz8_0:=blk_frozen BK48.out 0;have hfz8_1:=blk_frozen BK48.out 1;go_wp2_with (first|((with_reducible refine gate_callee (f:=12) rfl ?_);refine gL 13 Tryz.func12 #[.agg #[.int .i64 a0_0,.slice A0_1 l0_1.length c0_1],.slice A1 l1.length c1] ?_;(with_reducible refine (impl_AreCouncil.calls k a0_0 _ _ l0_1 _ _ l1 true _ ?side1 ?side2 ?side3 ?side4 A6.out).mono ?_);(case side1=>exact qcs HR0_1.out HB.out);(case side2=>exact HC0_1.out);(case side3=>exact qcs HR1.out HB.out);(case side4=>exact HC1.out);rintro e w9 ⟨rfl,hb⟩;refine ⟨_,rfl,?_⟩;replace BK48:=aM (bB BK48.out hb);replace HB:=aM (below_step bw hb);(try clear hb)))
   go_meet
   case rel=>exact ⟨_,(((l2.length:Int) != (l1.length:Int))),qrs,H',⟨by first|omega|exact Nat.le_refl _⟩,⟨bk1 BK48.out⟩,⟨by exact bw⟩⟩
  ·replace c7:=Bool.eq_false_iff.mpr c7;subst c7;rw [if_neg (show ¬ (false = true) by decide)] at H;have H':=aM H;clear H;have hcz10_0:=cz BK48.out 0;have hcz10_1:=cz BK48.out 1;have hfz10_0:=blk_frozen BK48.out 0;have hfz10_1:=blk_frozen BK48.out 1;go_wp2_with (first|((with_reducible refine gate_callee (f:=12) rfl ?_);refine gL 13 Tryz.func12 #[.agg #[.int .i64 a0_0,.slice A0_1 l0_1.length c0_1],.slice A1 l1.length c1] ?_;(with_reducible refine (impl_AreCouncil.calls k a0_0 _ _ l0_1 _ _ l1 false _ ?side1 ?side2 ?side3 ?side4 A6.out).mono ?_);(case side1=>exact qcs HR0_1.out HB.out);(case side2=>exact HC0_1.out);(case side3=>exact qcs HR1.out HB.out);(case side4=>exact HC1.out);rintro e w11 ⟨rfl,hb⟩;refine ⟨_,rfl,?_⟩;replace BK48:=aM (bB BK48.out hb);replace HB:=aM (below_step bw hb);(try clear hb)))
   go_meet
   case rel=>exact ⟨_,(true),qrs,H',⟨by first|omega|exact Nat.le_refl _⟩,⟨bk1 BK48.out⟩,⟨by exact bw⟩⟩
 case rest =>
  clear HC4;(try clear c1);(try clear c2);(try clear c7);(try clear hcz10_0);(try clear hcz10_1);(try clear hcz8_0);(try clear hcz8_1);(try clear hfz10_0);(try clear hfz10_1);(try clear hfz8_0);(try clear hfz8_1)
  obtain ⟨kq,x21_3,rfl,HA,HJ3,BK48,HB⟩:=hcut
  cases kq with
  | zero=>exact absurd HA.out (by simp [impl_WinsCouncil.j0])
  | succ kj3 =>
   have H:=HA.out;clear HA;simp only [impl_WinsCouncil.j0] at H;by_cases c12:x21_3 = true
   ·subst c12;rw [if_pos rfl] at H;simp only [Option.some.injEq,Prod.mk.injEq] at H;obtain ⟨rfl,rfl⟩:=H;go_wp2
    go_ret2
    exact ⟨eE,by exact bw⟩
   ·replace c12:=Bool.eq_false_iff.mpr c12;subst c12;rw [if_neg (show ¬ (false = true) by decide)] at H;have H':=aM H;clear H;go_wp2
    go_loopg [8,24] kj3 (fun kq v8 v24 w'=>∃ (x8_2:Int) (x24_2:Int),v8 = .int .i64 x8_2 ∧ v24 = .int .i64 x24_2 ∧ Aside0 (impl_WinsCouncil.l0 kq l2 x8_2 l1 (l1.length:Int) x24_2 a0_0 l0_1 = some (r1,r2)) ∧ Aside0 (kq ≤ kj3) ∧ Aside0 (w'.heap[gb48]? = some (.cells #[.int .i64 a0_0,(.slice A0_1 l0_1.length c0_1)] 24 (0,0))) ∧ Aside0 (Below w.heap.size w w'))
    case atStart=>exact ⟨(0),(0),qrs,qrs,H',⟨Nat.le_refl _⟩,⟨bk1 BK48.out⟩,⟨by exact bw⟩⟩
    case round =>
     clear H';(try clear c12)
     obtain ⟨x8_2,x24_2,rfl,rfl,HA,HK2,BK48,HB⟩:=hrel
     cases gk with
     | zero=>exact absurd HA.out (by simp [impl_WinsCouncil.l0])
     | succ k2 =>
      have H:=HA.out;clear HA;simp only [impl_WinsCouncil.l0] at H;by_cases c13:x24_2 < (l1.length:Int)
      ·rw [if_pos c13] at H;have c13b0:=decide_eq_true c13;clear c13;replace H:=iN H;obtain ⟨c14,H⟩:=H;have c14b0:decide (0 ≤ x24_2) = true:=decide_eq_true c14;clear c14;replace H:=iN H;obtain ⟨c15,H⟩:=H;have c15b0:decide (x24_2 < (l1.length:Int)) = true:=decide_eq_true c15;clear c15;replace H:=iN H;obtain ⟨c16,H⟩:=H;have c16b0:decide (x24_2 < (l2.length:Int)) = true:=decide_eq_true c16;clear c16;replace H:=oB H;obtain ⟨t55,A17,H⟩:=H;(try dsimp only at H)
       by_cases c18:t55 = true
       ·subst c18;rw [if_pos rfl] at H;replace H:=oB H;obtain ⟨t57,A19,H⟩:=H;(try dsimp only at H)
        replace H:=oB H;obtain ⟨t58,A20,H⟩:=H;(try dsimp only at H)
        by_cases c21:t58 ≥ ((rd_impl_Committee l1 x24_2).f0)
        ·rw [if_pos c21] at H;have c21b0:decide (((rd_impl_Committee l1 x24_2).f0) ≤ t58) = true:=decide_eq_true c21;clear c21;replace H:=iN H;obtain ⟨c22,H⟩:=H;have c22b0:decide (x24_2 < (l0_1.length:Int)) = true:=decide_eq_true c22;clear c22;have H':=aM H;clear H;have p50:0 ≤ (x24_2:Int):=of_decide_eq_true ab;have q50:x24_2 < (l1.length:Int):=of_decide_eq_true ab;obtain ⟨ad50,A50_1,c494_1,e50,hx50_0,hx50_1,hl50_1,hi50_1⟩:=at_impl_Committee HR1.out x24_2 p50 q50;cases e50
         replace hx50_0:=(HB.out.cell (World.block_lt_of_cell? w _ hx50_0)).trans hx50_0;replace hx50_1:=(HB.out.cell (World.block_lt_of_cell? w _ hx50_1)).trans hx50_1;have HR50_1:=aM hi50_1;have HC50_1:=aM hl50_1;clear hi50_1 hl50_1;replace p50:=eq_true p50;replace q50:=eq_true q50
         try go_wp2_with (first|((with_reducible refine gate_dst (N:=10) rfl ?_);(try (refine gate_guard (by rfl) ?_;dsimp only));refine bE 10 #[.int .i64 0,.slice none 0 0] 24 ?_;intro gb53 hg w23 hbox hb;have BK53:=aM (hbox);have GW53:=aM (gS hg);have GE53:=aM (gS hg);replace HB:=aM (below_step bw hb);have NB48_53:=aM (nL BK48.out hg);have NB53_48:=aM (nR BK48.out hg);replace BK48:=aM (bB BK48.out hb);clear hb hbox hg;have hnb24:=NB53_48.out;have hnc24:=NB48_53.out;have hcz25_0:=cz BK53.out 0;have hcz25_1:=cz BK53.out 1;have hfz25_0:=blk_frozen BK53.out 0;have hfz25_1:=blk_frozen BK53.out 1))
         generalize hW_:((w23.setCell ⟨gb53,0,none⟩ (.int .i64 ((rd_impl_Committee l1 x24_2).f0))).setCell ⟨gb53,1,none⟩ (.slice A50_1 ((rd_impl_Committee l1 x24_2).f1).length c494_1)) = w26
         replace BK48:=aM (sF2 hW_ BK48.out NB48_53.out);replace BK53:=aM (sP2 hW_ BK53.out);replace HB:=aM (sB2 hW_ HB.out);clear hW_;replace BK48:=aM (blk_drew BK48.out);replace BK53:=aM (blk_drew BK53.out);replace HB:=aM (below_drew1 HB.out);have p54:0 ≤ (x24_2:Int):=of_decide_eq_true ab;have q54:x24_2 < (l2.length:Int):=of_decide_eq_true ab;obtain ⟨ad54,A54_0,c496_0,e54,hx54_0,hl54_0,hi54_0⟩:=at_LI HR2.out x24_2 p54 q54;have hw54_0:=hx54_0;cases e54
         replace hx54_0:=(HB.out.cell (World.block_lt_of_cell? w _ hx54_0)).trans hx54_0;have HR54_0:=aM hi54_0;have HC54_0:=aM hl54_0;clear hi54_0 hl54_0;replace p54:=eq_true p54;replace q54:=eq_true q54;refine start_ (n:=9) (S:=fun w'=>w'.cell? ⟨gb53,0,none⟩ = some (.int .i64 ((rd_impl_Committee l1 x24_2).f0)) ∧ w'.cell? ⟨gb53,1,none⟩ = some (.slice A50_1 ((rd_impl_Committee l1 x24_2).f1).length c494_1) ∧ w'.cell? (ad54.add (x24_2).toNat) = some (.slice A54_0 (rd_LI l2 x24_2).length c496_0)) (ds:=[]) (mA 9 0) kR rfl rfl ⟨(blk_cell BK53.out 0).trans rfl,(blk_cell BK53.out 1).trans rfl,((HB.out.cell (World.block_lt_of_cell? w _ hw54_0)).trans hw54_0)⟩ (fun hHeld=>?_);refine with_tabW impl_WinsCouncil.tab7 impl_WinsCouncil.bits7 (fun HT_ HW_=>?_)
         generalize w26.drew = w27 at BK48 BK53 HB HR54_0 hx54_0 hHeld ⊢
         refine pT 0 29 HT_.out ?_;refine pT 1 30 HT_.out ?_;refine pT 2 31 HT_.out ?_;refine pT 4 33 HT_.out ?_;refine pK 3 32 HT_.out HW_.out hHeld ?_;refine pK 5 34 HT_.out HW_.out hHeld ?_;refine pT 6 35 HT_.out ?_;refine oN 7 (some 36) HT_.out fun K hK=>?_
         refine gC Tryz.func51 #[.slice A54_0 (rd_LI l2 x24_2).length c496_0,.int .i64 (((rd_impl_Committee l1 x24_2).f1).length:Int)] ?_
         with_reducible refine (impl_isSet.calls k2 _ _ (rd_LI l2 x24_2) (((rd_impl_Committee l1 x24_2).f1).length:Int) true _ ?side1 ?side2 A17.out).mono ?_
         (case side1=>exact qcs HR54_0.out HB.out)
         (case side2=>exact HC54_0.out)
         rintro e w28 ⟨rfl,hb⟩
         refine ⟨_,rfl,?_⟩;replace BK48:=aM (bB BK48.out hb);replace BK53:=aM (bB BK53.out hb);replace HB:=aM (below_step bw hb);(try clear hb)
         refine hK.out _ _ ⟨(blk_cell BK53.out 0).trans rfl,(blk_cell BK53.out 1).trans rfl,((HB.out.cell (World.block_lt_of_cell? w _ hw54_0)).trans hw54_0)⟩ (fun hHeld=>?_);clear hK K;refine nM 36 ?_;refine pT 8 37 HT_.out ?_;refine done_ (done_of HT_.out kR) ?_
         try go_wp2
         replace BK48:=aM (blk_drew BK48.out);replace BK53:=aM (blk_drew BK53.out);replace HB:=aM (below_drew1 HB.out);have p56:0 ≤ (x24_2:Int):=of_decide_eq_true ab;have q56:x24_2 < (l2.length:Int):=of_decide_eq_true ab;obtain ⟨ad56,A56_0,c498_0,e56,hx56_0,hl56_0,hi56_0⟩:=at_LI HR2.out x24_2 p56 q56;have hw56_0:=hx56_0;obtain rfl:ad54 = ad56:=(by injection e56);replace hx56_0:=(HB.out.cell (World.block_lt_of_cell? w _ hx56_0)).trans hx56_0;have HR56_0:=aM hi56_0;have HC56_0:=aM hl56_0;clear hi56_0 hl56_0;replace p56:=eq_true p56;replace q56:=eq_true q56;refine start_ (n:=10) (S:=fun w'=>w'.cell? ⟨gb53,0,none⟩ = some (.int .i64 ((rd_impl_Committee l1 x24_2).f0)) ∧ w'.cell? ⟨gb53,1,none⟩ = some (.slice A50_1 ((rd_impl_Committee l1 x24_2).f1).length c494_1) ∧ w'.cell? (ad54.add (x24_2).toNat) = some (.slice A56_0 (rd_LI l2 x24_2).length c498_0)) (ds:=[]) (mA 10 0) kR rfl rfl ⟨(blk_cell BK53.out 0).trans rfl,(blk_cell BK53.out 1).trans rfl,((HB.out.cell (World.block_lt_of_cell? w _ hw56_0)).trans hw56_0)⟩ (fun hHeld=>?_);refine with_tabW impl_WinsCouncil.tab9 impl_WinsCouncil.bits9 (fun HT_ HW_=>?_)
         generalize w28.drew = w29 at BK48 BK53 HB HR56_0 hx56_0 hHeld ⊢
         refine pT 1 39 HT_.out ?_;refine pT 2 40 HT_.out ?_;refine pT 3 41 HT_.out ?_;refine pT 7 45 HT_.out ?_;refine pK 0 38 HT_.out HW_.out hHeld ?_;refine pK 4 42 HT_.out HW_.out hHeld ?_;refine pK 8 46 HT_.out HW_.out hHeld ?_;refine oN 5 (some 43) HT_.out fun K hK=>?_
         refine gC Tryz.func47 #[.slice A56_0 (rd_LI l2 x24_2).length c498_0] ?_
         with_reducible refine (impl_maskOf.calls k2 _ _ (rd_LI l2 x24_2) t57 _ ?side1 ?side2 A19.out).mono ?_
         (case side1=>exact qcs HR56_0.out HB.out)
         (case side2=>exact HC56_0.out)
         rintro e w' ⟨rfl,⟨nd,rfl⟩⟩
         refine ⟨_,rfl,?_⟩;refine hK.out _ _ ⟨(blk_cell BK53.out 0).trans rfl,(blk_cell BK53.out 1).trans rfl,((HB.out.cell (World.block_lt_of_cell? w _ hw56_0)).trans hw56_0)⟩ (fun hHeld=>?_);clear hK K;refine nM 43 ?_;refine oN 6 (some 44) HT_.out fun K hK=>?_
         refine gC Tryz.func52 #[.agg #[.int .i64 ((rd_impl_Committee l1 x24_2).f0),.slice A50_1 ((rd_impl_Committee l1 x24_2).f1).length c494_1],.int .i64 t57] ?_
         with_reducible refine (impl_Committee_weight.calls k2 ((rd_impl_Committee l1 x24_2).f0) _ _ ((rd_impl_Committee l1 x24_2).f1) t57 t58 _ ?side1 ?side2 A20.out).mono ?_
         (case side1=>exact qc (Kd.C_below HR50_1.out bw))
         (case side2=>exact HC50_1.out)
         rintro e w30 ⟨rfl,hb⟩
         refine ⟨_,rfl,?_⟩;replace BK48:=aM (bB BK48.out hb);replace BK53:=aM (bB BK53.out hb);replace HB:=aM (below_step bw hb);(try clear hb)
         refine hK.out _ _ ⟨(blk_cell BK53.out 0).trans rfl,(blk_cell BK53.out 1).trans rfl,((HB.out.cell (World.block_lt_of_cell? w _ hw56_0)).trans hw56_0)⟩ (fun hHeld=>?_);clear hK K;refine nM 44 ?_;refine pT 9 47 HT_.out ?_;refine done_ (done_of HT_.out kR) ?_;have hcz31_0:=cz BK48.out 0;have hcz31_1:=cz BK48.out 1;have hfz31_0:=blk_frozen BK48.out 0;have hfz31_1:=blk_frozen BK48.out 1;have p59:0 ≤ (x24_2:Int):=of_decide_eq_true ab;have q59:x24_2 < (l0_1.length:Int):=of_decide_eq_true ab;obtain ⟨ad59,e59,hx59_0⟩:=Kd.at_int HR0_1.out x24_2 p59 q59;cases e59
         replace hx59_0:=(HB.out.cell (World.block_lt_of_cell? w _ hx59_0)).trans hx59_0;replace p59:=eq_true p59;replace q59:=eq_true q59
         try go_wp2
         go_roundg k2
         case measure=>have:=HJ3.out;have:=HK2.out;omega
         case rel=>exact ⟨(wrap64 (x8_2 + (rd l0_1 x24_2))),(wrap64 (x24_2 + 1)),qrs,qrs,H',⟨by have:=HJ3.out;have:=HK2.out;omega⟩,⟨bk1 BK48.out⟩,⟨by exact bw⟩⟩
        ·rw [if_neg c21] at H;have c21b0:decide (((rd_impl_Committee l1 x24_2).f0) ≤ t58) = false:=decide_eq_false c21;clear c21;have H':=aM H;clear H;have p50:0 ≤ (x24_2:Int):=of_decide_eq_true ab;have q50:x24_2 < (l1.length:Int):=of_decide_eq_true ab;obtain ⟨ad50,A50_1,c494_1,e50,hx50_0,hx50_1,hl50_1,hi50_1⟩:=at_impl_Committee HR1.out x24_2 p50 q50;cases e50
         replace hx50_0:=(HB.out.cell (World.block_lt_of_cell? w _ hx50_0)).trans hx50_0;replace hx50_1:=(HB.out.cell (World.block_lt_of_cell? w _ hx50_1)).trans hx50_1;have HR50_1:=aM hi50_1;have HC50_1:=aM hl50_1;clear hi50_1 hl50_1;replace p50:=eq_true p50;replace q50:=eq_true q50
         try go_wp2_with (first|((with_reducible refine gate_dst (N:=10) rfl ?_);(try (refine gate_guard (by rfl) ?_;dsimp only));refine bE 10 #[.int .i64 0,.slice none 0 0] 24 ?_;intro gb53 hg w32 hbox hb;have BK53:=aM (hbox);have GW53:=aM (gS hg);have GE53:=aM (gS hg);replace HB:=aM (below_step bw hb);have NB48_53:=aM (nL BK48.out hg);have NB53_48:=aM (nR BK48.out hg);replace BK48:=aM (bB BK48.out hb);clear hb hbox hg;have hnb33:=NB53_48.out;have hnc33:=NB48_53.out;have hcz34_0:=cz BK53.out 0;have hcz34_1:=cz BK53.out 1;have hfz34_0:=blk_frozen BK53.out 0;have hfz34_1:=blk_frozen BK53.out 1))
         generalize hW_:((w32.setCell ⟨gb53,0,none⟩ (.int .i64 ((rd_impl_Committee l1 x24_2).f0))).setCell ⟨gb53,1,none⟩ (.slice A50_1 ((rd_impl_Committee l1 x24_2).f1).length c494_1)) = w35
         replace BK48:=aM (sF2 hW_ BK48.out NB48_53.out);replace BK53:=aM (sP2 hW_ BK53.out);replace HB:=aM (sB2 hW_ HB.out);clear hW_;replace BK48:=aM (blk_drew BK48.out);replace BK53:=aM (blk_drew BK53.out);replace HB:=aM (below_drew1 HB.out);have p54:0 ≤ (x24_2:Int):=of_decide_eq_true ab;have q54:x24_2 < (l2.length:Int):=of_decide_eq_true ab;obtain ⟨ad54,A54_0,c496_0,e54,hx54_0,hl54_0,hi54_0⟩:=at_LI HR2.out x24_2 p54 q54;have hw54_0:=hx54_0;cases e54
         replace hx54_0:=(HB.out.cell (World.block_lt_of_cell? w _ hx54_0)).trans hx54_0;have HR54_0:=aM hi54_0;have HC54_0:=aM hl54_0;clear hi54_0 hl54_0;replace p54:=eq_true p54;replace q54:=eq_true q54;refine start_ (n:=9) (S:=fun w'=>w'.cell? ⟨gb53,0,none⟩ = some (.int .i64 ((rd_impl_Committee l1 x24_2).f0)) ∧ w'.cell? ⟨gb53,1,none⟩ = some (.slice A50_1 ((rd_impl_Committee l1 x24_2).f1).length c494_1) ∧ w'.cell? (ad54.add (x24_2).toNat) = some (.slice A54_0 (rd_LI l2 x24_2).length c496_0)) (ds:=[]) (mA 9 0) kR rfl rfl ⟨(blk_cell BK53.out 0).trans rfl,(blk_cell BK53.out 1).trans rfl,((HB.out.cell (World.block_lt_of_cell? w _ hw54_0)).trans hw54_0)⟩ (fun hHeld=>?_);refine with_tabW impl_WinsCouncil.tab7 impl_WinsCouncil.bits7 (fun HT_ HW_=>?_)
         generalize w35.drew = w36 at BK48 BK53 HB HR54_0 hx54_0 hHeld ⊢
         refine pT 0 29 HT_.out ?_;refine pT 1 30 HT_.out ?_;refine pT 2 31 HT_.out ?_;refine pT 4 33 HT_.out ?_;refine pK 3 32 HT_.out HW_.out hHeld ?_;refine pK 5 34 HT_.out HW_.out hHeld ?_;refine pT 6 35 HT_.out ?_;refine oN 7 (some 36) HT_.out fun K hK=>?_
         refine gC Tryz.func51 #[.slice A54_0 (rd_LI l2 x24_2).length c496_0,.int .i64 (((rd_impl_Committee l1 x24_2).f1).length:Int)] ?_
         with_reducible refine (impl_isSet.calls k2 _ _ (rd_LI l2 x24_2) (((rd_impl_Committee l1 x24_2).f1).length:Int) true _ ?side1 ?side2 A17.out).mono ?_
         (case side1=>exact qcs HR54_0.out HB.out)
         (case side2=>exact HC54_0.out)
         rintro e w37 ⟨rfl,hb⟩
         refine ⟨_,rfl,?_⟩;replace BK48:=aM (bB BK48.out hb);replace BK53:=aM (bB BK53.out hb);replace HB:=aM (below_step bw hb);(try clear hb)
         refine hK.out _ _ ⟨(blk_cell BK53.out 0).trans rfl,(blk_cell BK53.out 1).trans rfl,((HB.out.cell (World.block_lt_of_cell? w _ hw54_0)).trans hw54_0)⟩ (fun hHeld=>?_);clear hK K;refine nM 36 ?_;refine pT 8 37 HT_.out ?_;refine done_ (done_of HT_.out kR) ?_
         try go_wp2
         replace BK48:=aM (blk_drew BK48.out);replace BK53:=aM (blk_drew BK53.out);replace HB:=aM (below_drew1 HB.out);have p56:0 ≤ (x24_2:Int):=of_decide_eq_true ab;have q56:x24_2 < (l2.length:Int):=of_decide_eq_true ab;obtain ⟨ad56,A56_0,c498_0,e56,hx56_0,hl56_0,hi56_0⟩:=at_LI HR2.out x24_2 p56 q56;have hw56_0:=hx56_0;obtain rfl:ad54 = ad56:=(by injection e56);replace hx56_0:=(HB.out.cell (World.block_lt_of_cell? w _ hx56_0)).trans hx56_0;have HR56_0:=aM hi56_0;have HC56_0:=aM hl56_0;clear hi56_0 hl56_0;replace p56:=eq_true p56;replace q56:=eq_true q56;refine start_ (n:=10) (S:=fun w'=>w'.cell? ⟨gb53,0,none⟩ = some (.int .i64 ((rd_impl_Committee l1 x24_2).f0)) ∧ w'.cell? ⟨gb53,1,none⟩ = some (.slice A50_1 ((rd_impl_Committee l1 x24_2).f1).length c494_1) ∧ w'.cell? (ad54.add (x24_2).toNat) = some (.slice A56_0 (rd_LI l2 x24_2).length c498_0)) (ds:=[]) (mA 10 0) kR rfl rfl ⟨(blk_cell BK53.out 0).trans rfl,(blk_cell BK53.out 1).trans rfl,((HB.out.cell (World.block_lt_of_cell? w _ hw56_0)).trans hw56_0)⟩ (fun hHeld=>?_);refine with_tabW impl_WinsCouncil.tab9 impl_WinsCouncil.bits9 (fun HT_ HW_=>?_)
         generalize w37.drew = w38 at BK48 BK53 HB HR56_0 hx56_0 hHeld ⊢
         refine pT 1 39 HT_.out ?_;refine pT 2 40 HT_.out ?_;refine pT 3 41 HT_.out ?_;refine pT 7 45 HT_.out ?_;refine pK 0 38 HT_.out HW_.out hHeld ?_;refine pK 4 42 HT_.out HW_.out hHeld ?_;refine pK 8 46 HT_.out HW_.out hHeld ?_;refine oN 5 (some 43) HT_.out fun K hK=>?_
         refine gC Tryz.func47 #[.slice A56_0 (rd_LI l2 x24_2).length c498_0] ?_
         with_reducible refine (impl_maskOf.calls k2 _ _ (rd_LI l2 x24_2) t57 _ ?side1 ?side2 A19.out).mono ?_
         (case side1=>exact qcs HR56_0.out HB.out)
         (case side2=>exact HC56_0.out)
         rintro e w' ⟨rfl,⟨nd,rfl⟩⟩
         refine ⟨_,rfl,?_⟩;refine hK.out _ _ ⟨(blk_cell BK53.out 0).trans rfl,(blk_cell BK53.out 1).trans rfl,((HB.out.cell (World.block_lt_of_cell? w _ hw56_0)).trans hw56_0)⟩ (fun hHeld=>?_);clear hK K;refine nM 43 ?_;refine oN 6 (some 44) HT_.out fun K hK=>?_
         refine gC Tryz.func52 #[.agg #[.int .i64 ((rd_impl_Committee l1 x24_2).f0),.slice A50_1 ((rd_impl_Committee l1 x24_2).f1).length c494_1],.int .i64 t57] ?_
         with_reducible refine (impl_Committee_weight.calls k2 ((rd_impl_Committee l1 x24_2).f0) _ _ ((rd_impl_Committee l1 x24_2).f1) t57 t58 _ ?side1 ?side2 A20.out).mono ?_
         (case side1=>exact qc (Kd.C_below HR50_1.out bw))
         (case side2=>exact HC50_1.out)
         rintro e w39 ⟨rfl,hb⟩
         refine ⟨_,rfl,?_⟩;replace BK48:=aM (bB BK48.out hb);replace BK53:=aM (bB BK53.out hb);replace HB:=aM (below_step bw hb);(try clear hb)
         refine hK.out _ _ ⟨(blk_cell BK53.out 0).trans rfl,(blk_cell BK53.out 1).trans rfl,((HB.out.cell (World.block_lt_of_cell? w _ hw56_0)).trans hw56_0)⟩ (fun hHeld=>?_);clear hK K;refine nM 44 ?_;refine pT 9 47 HT_.out ?_;refine done_ (done_of HT_.out kR) ?_
         try go_wp2
         go_roundg k2
         case measure=>have:=HJ3.out;have:=HK2.out;omega
         case rel=>exact ⟨(x8_2),(wrap64 (x24_2 + 1)),qrs,qrs,H',⟨by have:=HJ3.out;have:=HK2.out;omega⟩,⟨bk1 BK48.out⟩,⟨by exact bw⟩⟩
       ·replace c18:=Bool.eq_false_iff.mpr c18;subst c18;rw [if_neg (show ¬ (false = true) by decide)] at H;simp only [Option.some.injEq,Prod.mk.injEq] at H;obtain ⟨rfl,rfl⟩:=H;have p50:0 ≤ (x24_2:Int):=of_decide_eq_true ab;have q50:x24_2 < (l1.length:Int):=of_decide_eq_true ab;obtain ⟨ad50,A50_1,c494_1,e50,hx50_0,hx50_1,hl50_1,hi50_1⟩:=at_impl_Committee HR1.out x24_2 p50 q50;cases e50
        replace hx50_0:=(HB.out.cell (World.block_lt_of_cell? w _ hx50_0)).trans hx50_0;replace hx50_1:=(HB.out.cell (World.block_lt_of_cell? w _ hx50_1)).trans hx50_1;have HR50_1:=aM hi50_1;have HC50_1:=aM hl50_1;clear hi50_1 hl50_1;replace p50:=eq_true p50;replace q50:=eq_true q50
        try go_wp2_with (first|((with_reducible refine gate_dst (N:=10) rfl ?_);(try (refine gate_guard (by rfl) ?_;dsimp only));refine bE 10 #[.int .i64 0,.slice none 0 0] 24 ?_;intro gb53 hg w40 hbox hb;have BK53:=aM (hbox);have GW53:=aM (gS hg);have GE53:=aM (gS hg);replace HB:=aM (below_step bw hb);have NB48_53:=aM (nL BK48.out hg);have NB53_48:=aM (nR BK48.out hg);replace BK48:=aM (bB BK48.out hb);clear hb hbox hg;have hnb41:=NB53_48.out;have hnc41:=NB48_53.out;have hcz42_0:=cz BK53.out 0;have hcz42_1:=cz BK53.out 1;have hfz42_0:=blk_frozen BK53.out 0;have hfz42_1:=blk_frozen BK53.out 1))
        generalize hW_:((w40.setCell ⟨gb53,0,none⟩ (.int .i64 ((rd_impl_Committee l1 x24_2).f0))).setCell ⟨gb53,1,none⟩ (.slice A50_1 ((rd_impl_Committee l1 x24_2).f1).length c494_1)) = w43
        replace BK48:=aM (sF2 hW_ BK48.out NB48_53.out);replace BK53:=aM (sP2 hW_ BK53.out);replace HB:=aM (sB2 hW_ HB.out);clear hW_;replace BK48:=aM (blk_drew BK48.out);replace BK53:=aM (blk_drew BK53.out);replace HB:=aM (below_drew1 HB.out);have p54:0 ≤ (x24_2:Int):=of_decide_eq_true ab;have q54:x24_2 < (l2.length:Int):=of_decide_eq_true ab;obtain ⟨ad54,A54_0,c496_0,e54,hx54_0,hl54_0,hi54_0⟩:=at_LI HR2.out x24_2 p54 q54;have hw54_0:=hx54_0;cases e54
        replace hx54_0:=(HB.out.cell (World.block_lt_of_cell? w _ hx54_0)).trans hx54_0;have HR54_0:=aM hi54_0;have HC54_0:=aM hl54_0;clear hi54_0 hl54_0;replace p54:=eq_true p54;replace q54:=eq_true q54;refine start_ (n:=9) (S:=fun w'=>w'.cell? ⟨gb53,0,none⟩ = some (.int .i64 ((rd_impl_Committee l1 x24_2).f0)) ∧ w'.cell? ⟨gb53,1,none⟩ = some (.slice A50_1 ((rd_impl_Committee l1 x24_2).f1).length c494_1) ∧ w'.cell? (ad54.add (x24_2).toNat) = some (.slice A54_0 (rd_LI l2 x24_2).length c496_0)) (ds:=[]) (mA 9 0) kR rfl rfl ⟨(blk_cell BK53.out 0).trans rfl,(blk_cell BK53.out 1).trans rfl,((HB.out.cell (World.block_lt_of_cell? w _ hw54_0)).trans hw54_0)⟩ (fun hHeld=>?_);refine with_tabW impl_WinsCouncil.tab7 impl_WinsCouncil.bits7 (fun HT_ HW_=>?_)
        generalize w43.drew = w44 at BK48 BK53 HB HR54_0 hx54_0 hHeld ⊢
        refine pT 0 29 HT_.out ?_;refine pT 1 30 HT_.out ?_;refine pT 2 31 HT_.out ?_;refine pT 4 33 HT_.out ?_;refine pK 3 32 HT_.out HW_.out hHeld ?_;refine pK 5 34 HT_.out HW_.out hHeld ?_;refine pT 6 35 HT_.out ?_;refine oN 7 (some 36) HT_.out fun K hK=>?_
        refine gC Tryz.func51 #[.slice A54_0 (rd_LI l2 x24_2).length c496_0,.int .i64 (((rd_impl_Committee l1 x24_2).f1).length:Int)] ?_
        with_reducible refine (impl_isSet.calls k2 _ _ (rd_LI l2 x24_2) (((rd_impl_Committee l1 x24_2).f1).length:Int) false _ ?side1 ?side2 A17.out).mono ?_
        (case side1=>exact qcs HR54_0.out HB.out)
        (case side2=>exact HC54_0.out)
        rintro e w45 ⟨rfl,hb⟩
        refine ⟨_,rfl,?_⟩;replace BK48:=aM (bB BK48.out hb);replace BK53:=aM (bB BK53.out hb);replace HB:=aM (below_step bw hb);(try clear hb)
        refine hK.out _ _ ⟨(blk_cell BK53.out 0).trans rfl,(blk_cell BK53.out 1).trans rfl,((HB.out.cell (World.block_lt_of_cell? w _ hw54_0)).trans hw54_0)⟩ (fun hHeld=>?_);clear hK K;refine nM 36 ?_;refine pT 8 37 HT_.out ?_;refine done_ (done_of HT_.out kR) ?_
        try go_wp2
        go_ret2
        exact ⟨eE,by exact bw⟩
      ·rw [if_neg c13] at H;have c13b0:=decide_eq_false c13;clear c13;simp only [Option.some.injEq,Prod.mk.injEq] at H;obtain ⟨rfl,rfl⟩:=H;have hcz46_0:=cz BK48.out 0;have hcz46_1:=cz BK48.out 1;have hfz46_0:=blk_frozen BK48.out 0;have hfz46_1:=blk_frozen BK48.out 1;go_wp2
       go_ret2
       exact ⟨eE,by exact bw⟩


/-! ### spec_l1Rising: function 84 -/
def spec_l1Rising.l0:Nat → List Int → Int → Int → List Int → Int → Int → Option (Bool)
 | 0,_,_,_,_,_,_=>none
 | k + 1,x0,x1,x2,x9,x10,x11=>if x11 < x10 then (if 0 ≤ x11 then (if x11 < (x9.length:Int) then ((spec_l1In.f (rd x9 x11) x1 x2).bind fun t3=>(if t3 = true then (if x11 > 0 then (if 0 ≤ (wrap64 (x11 - 1)) then (if (wrap64 (x11 - 1)) < (x0.length:Int) then (if (rd x0 (wrap64 (x11 - 1))) ≥ (rd x9 x11) then (some false) else (spec_l1Rising.l0 k x0 x1 x2 x9 x10 (wrap64 (x11 + 1)))) else (none)) else (none)) else (spec_l1Rising.l0 k x0 x1 x2 x9 x10 (wrap64 (x11 + 1)))) else (some false))) else (none)) else (none)) else (some true)
def spec_l1Rising.f (k:Nat) (l0:List Int) (a1:Int) (a2:Int):Option (Bool):=spec_l1Rising.l0 k l0 a1 a2 l0 (l0.length:Int) 0
set_option maxHeartbeats 8000000 in
set_option maxRecDepth 100000 in
theorem spec_l1Rising.calls (k:Nat) (A0:Option Addr) (c0:Nat) (l0:List Int) (a1:Int) (a2:Int) (r:Bool) (w:World) (hr0:Kd.C (Kd.int .i64) w A0 l0.length l0) (hc0:l0.length ≤ c0) (h:spec_l1Rising.f k l0 a1 a2 = some r) :
  Calls Tryz.prog 84 #[.slice A0 l0.length c0,.int .i64 a1,.int .i64 a2] w fun e w'=>e = .returned (.bool r) ∧ Drawn0 w w':=by
 have HR0:=aM hr0;have HC0:=aM hc0;clear hr0 hc0;have H:(spec_l1Rising.l0 k l0 a1 a2 l0 (l0.length:Int) 0) = some r:=h;clear h;have H':=aM H;clear H;go_enter Tryz.func84,Tryz.ntmps84;go_wp2
 go_loopg [11] k (fun kq v11 w'=>∃ (x11_1:Int),v11 = .int .i64 x11_1 ∧ Aside0 (spec_l1Rising.l0 kq l0 a1 a2 l0 (l0.length:Int) x11_1 = some r) ∧ Aside0 (kq ≤ k) ∧ Drawn0 w w')
 case atStart=>exact ⟨(0),qrs,H',⟨Nat.le_refl _⟩,by repeat (first|exact Drawn0.refl _|apply Drawn0.step)⟩
 case round =>
  clear H'
  try clear p2
  obtain ⟨x11_1,rfl,HA,HK1,⟨m1,rfl⟩⟩:=hrel
  cases gk with
  | zero=>exact absurd HA.out (by simp [spec_l1Rising.l0])
  | succ k1 =>
   have H:=HA.out;clear HA;simp only [spec_l1Rising.l0] at H;by_cases c4:x11_1 < (l0.length:Int)
   ·rw [if_pos c4] at H;have c4b0:=decide_eq_true c4;clear c4;replace H:=iN H;obtain ⟨c5,H⟩:=H;have c5b0:decide (0 ≤ x11_1) = true:=decide_eq_true c5;clear c5;replace H:=iN H;obtain ⟨c6,H⟩:=H;have c6b0:decide (x11_1 < (l0.length:Int)) = true:=decide_eq_true c6;clear c6;replace H:=oB H;obtain ⟨t14,A7,H⟩:=H;(try dsimp only at H)
    by_cases c8:t14 = true
    ·subst c8;rw [if_pos rfl] at H;by_cases c9:x11_1 > 0
     ·rw [if_pos c9] at H;have c9b0:decide (0 < x11_1) = true:=decide_eq_true c9;clear c9;obtain ⟨ji10,hji10⟩:∃ j_:Int,(wrap64 (x11_1 - 1)) = j_:=⟨_,rfl⟩;(first|rw [hji10] at H|simp only [hji10] at H)
      (try rw [hji10] at A7)
      have hji10w:(IntKind.i64.wrap (x11_1 - 1)) = ji10:=(i64_w _).trans hji10;replace H:=iN H;obtain ⟨c11,H⟩:=H;have c11b0:decide (0 ≤ (ji10)) = true:=decide_eq_true c11;clear c11;replace H:=iN H;obtain ⟨c12,H⟩:=H;have c12b0:decide ((ji10) < (l0.length:Int)) = true:=decide_eq_true c12;clear c12;by_cases c13:(rd l0 (ji10)) ≥ (rd l0 x11_1)
      ·rw [if_pos c13] at H;have c13b0:decide ((rd l0 x11_1) ≤ (rd l0 (ji10))) = true:=decide_eq_true c13;clear c13;obtain rfl:=Option.some.inj H;have p3:0 ≤ (x11_1:Int):=of_decide_eq_true ab;have q3:x11_1 < (l0.length:Int):=of_decide_eq_true ab;obtain ⟨ad3,e3,hx3_0⟩:=Kd.at_int HR0.out x11_1 p3 q3;cases e3
       replace p3:=eq_true p3;replace q3:=eq_true q3;go_wp2_with (first|((with_reducible refine gate_callee (f:=41) rfl ?_);refine gL 19 Tryz.func41 #[.int .i64 (rd l0 x11_1),.int .i64 a1,.int .i64 a2] ?_;(with_reducible refine (spec_l1In.calls (rd l0 x11_1) a1 a2 true _ A7.out).mono ?_);rintro e w' ⟨rfl,⟨nd,rfl⟩⟩;refine ⟨_,rfl,?_⟩;have p15:0 ≤ ((ji10):Int):=of_decide_eq_true ab;have q15:(ji10) < (l0.length:Int):=of_decide_eq_true ab;obtain ⟨ad15,e15,hx15_0⟩:=Kd.at_int HR0.out (ji10) p15 q15;obtain rfl:ad3 = ad15:=(by injection e15);replace p15:=eq_true p15;replace q15:=eq_true q15))
       go_ret
       exact ⟨by first|rfl|(simp;done)|(simp only [← hji10] <;> (first|rfl|simp))|(simp [*];done),by repeat (first|exact Drawn0.refl _|apply Drawn0.step)⟩
      ·rw [if_neg c13] at H;have c13b0:decide ((rd l0 x11_1) ≤ (rd l0 (ji10))) = false:=decide_eq_false c13;clear c13;have H':=aM H;clear H;have p3:0 ≤ (x11_1:Int):=of_decide_eq_true ab;have q3:x11_1 < (l0.length:Int):=of_decide_eq_true ab;obtain ⟨ad3,e3,hx3_0⟩:=Kd.at_int HR0.out x11_1 p3 q3;cases e3
       replace p3:=eq_true p3;replace q3:=eq_true q3;go_wp2_with (first|((with_reducible refine gate_callee (f:=41) rfl ?_);refine gL 19 Tryz.func41 #[.int .i64 (rd l0 x11_1),.int .i64 a1,.int .i64 a2] ?_;(with_reducible refine (spec_l1In.calls (rd l0 x11_1) a1 a2 true _ A7.out).mono ?_);rintro e w' ⟨rfl,⟨nd,rfl⟩⟩;refine ⟨_,rfl,?_⟩;have p15:0 ≤ ((ji10):Int):=of_decide_eq_true ab;have q15:(ji10) < (l0.length:Int):=of_decide_eq_true ab;obtain ⟨ad15,e15,hx15_0⟩:=Kd.at_int HR0.out (ji10) p15 q15;obtain rfl:ad3 = ad15:=(by injection e15);replace p15:=eq_true p15;replace q15:=eq_true q15))
       go_roundg k1
       case measure=>have:=HK1.out;omega
       case rel=>exact ⟨(wrap64 (x11_1 + 1)),qrs,H',⟨by have:=HK1.out;omega⟩,by repeat (first|exact Drawn0.refl _|apply Drawn0.step)⟩
     ·rw [if_neg c9] at H;have c9b0:decide (0 < x11_1) = false:=decide_eq_false c9;clear c9;have H':=aM H;clear H;have p3:0 ≤ (x11_1:Int):=of_decide_eq_true ab;have q3:x11_1 < (l0.length:Int):=of_decide_eq_true ab;obtain ⟨ad3,e3,hx3_0⟩:=Kd.at_int HR0.out x11_1 p3 q3;cases e3
      replace p3:=eq_true p3;replace q3:=eq_true q3;go_wp2_with (first|((with_reducible refine gate_callee (f:=41) rfl ?_);refine gL 19 Tryz.func41 #[.int .i64 (rd l0 x11_1),.int .i64 a1,.int .i64 a2] ?_;(with_reducible refine (spec_l1In.calls (rd l0 x11_1) a1 a2 true _ A7.out).mono ?_);rintro e w' ⟨rfl,⟨nd,rfl⟩⟩;refine ⟨_,rfl,?_⟩))
      go_roundg k1
      case measure=>have:=HK1.out;omega
      case rel=>exact ⟨(wrap64 (x11_1 + 1)),qrs,H',⟨by have:=HK1.out;omega⟩,by repeat (first|exact Drawn0.refl _|apply Drawn0.step)⟩
    ·replace c8:=Bool.eq_false_iff.mpr c8;subst c8;rw [if_neg (show ¬ (false = true) by decide)] at H;obtain rfl:=Option.some.inj H;have p3:0 ≤ (x11_1:Int):=of_decide_eq_true ab;have q3:x11_1 < (l0.length:Int):=of_decide_eq_true ab;obtain ⟨ad3,e3,hx3_0⟩:=Kd.at_int HR0.out x11_1 p3 q3;cases e3
     replace p3:=eq_true p3;replace q3:=eq_true q3;go_wp2_with (first|((with_reducible refine gate_callee (f:=41) rfl ?_);refine gL 19 Tryz.func41 #[.int .i64 (rd l0 x11_1),.int .i64 a1,.int .i64 a2] ?_;(with_reducible refine (spec_l1In.calls (rd l0 x11_1) a1 a2 false _ A7.out).mono ?_);rintro e w' ⟨rfl,⟨nd,rfl⟩⟩;refine ⟨_,rfl,?_⟩))
     go_ret
     exact ⟨qrs,dR⟩
   ·rw [if_neg c4] at H;have c4b0:=decide_eq_false c4;clear c4;obtain rfl:=Option.some.inj H;go_wp2
    go_ret
    exact ⟨qrs,dR⟩


/-! ### spec_voSet: function 53 -/
def spec_voSet.f (k:Nat) (a0:Int) (l1:List Int):Option (Bool):=(spec_l1Rising.f k l1 0 (wrap64 (a0 - 1))).bind fun t2=>(some t2)
set_option maxHeartbeats 8000000 in
set_option maxRecDepth 100000 in
theorem spec_voSet.calls (k:Nat) (a0:Int) (A1:Option Addr) (c1:Nat) (l1:List Int) (r:Bool) (w:World) (hr1:Kd.C (Kd.int .i64) w A1 l1.length l1) (hc1:l1.length ≤ c1) (h:spec_voSet.f k a0 l1 = some r) :
  Calls Tryz.prog 53 #[.int .i64 a0,.slice A1 l1.length c1] w fun e w'=>e = .returned (.bool r) ∧ Drawn0 w w':=by
 have HR1:=aM hr1;have HC1:=aM hc1;clear hr1 hc1;have H:((spec_l1Rising.f k l1 0 (wrap64 (a0 - 1))).bind fun t4=>(some t4)) = some r:=h;clear h;replace H:=oB H;obtain ⟨t4,A3,H⟩:=H;(try dsimp only at H)
 obtain rfl:=Option.some.inj H;go_enter Tryz.func53,Tryz.ntmps53;go_wp2_with (first|((with_reducible refine gate_callee (f:=84) rfl ?_);refine gL 8 Tryz.func84 #[.slice A1 l1.length c1,.int .i64 0,.int .i64 (wrap64 (a0 - 1))] ?_;(with_reducible refine (spec_l1Rising.calls k _ _ l1 0 (wrap64 (a0 - 1)) t4 _ ?side1 ?side2 A3.out).mono ?_);(case side1=>exact qc HR1.out);(case side2=>exact HC1.out);rintro e w' ⟨rfl,⟨nd,rfl⟩⟩;refine ⟨_,rfl,?_⟩))
 go_ret
 exact ⟨qrs,dR⟩


/-! ### spec_voBits: function 55 -/
def spec_voBits.l0:Nat → Int → List Int → Int → Int → Option (Int)
 | 0,_,_,_,_=>none
 | k + 1,x3,x6,x7,x8=>if x8 < x7 then (if 0 ≤ x8 then (if x8 < (x6.length:Int) then (if 0 ≤ (rd x6 x8) then (spec_voBits.l0 k (Go.bits .or .i64 x3 (shl .i64 1 (rd x6 x8))) x6 x7 (wrap64 (x8 + 1))) else (none)) else (none)) else (none)) else (some x3)
def spec_voBits.f (k:Nat) (l0:List Int):Option (Int):=spec_voBits.l0 k 0 l0 (l0.length:Int) 0
set_option maxHeartbeats 8000000 in
set_option maxRecDepth 100000 in
theorem spec_voBits.calls (k:Nat) (A0:Option Addr) (c0:Nat) (l0:List Int) (r:Int) (w:World) (hr0:Kd.C (Kd.int .i64) w A0 l0.length l0) (hc0:l0.length ≤ c0) (h:spec_voBits.f k l0 = some r) :
  Calls Tryz.prog 55 #[.slice A0 l0.length c0] w fun e w'=>e = .returned (.int .i64 r) ∧ Drawn0 w w':=by
 have HR0:=aM hr0;have HC0:=aM hc0;clear hr0 hc0;have H:(spec_voBits.l0 k 0 l0 (l0.length:Int) 0) = some r:=h;clear h;have H':=aM H;clear H;go_enter Tryz.func55,Tryz.ntmps55;go_wp2
 go_loopg [3,8] k (fun kq v3 v8 w'=>∃ (x3_1:Int) (x8_1:Int),v3 = .int .i64 x3_1 ∧ v8 = .int .i64 x8_1 ∧ Aside0 (spec_voBits.l0 kq x3_1 l0 (l0.length:Int) x8_1 = some r) ∧ Aside0 (kq ≤ k) ∧ Drawn0 w w')
 case atStart=>exact ⟨(0),(0),qrs,qrs,H',⟨Nat.le_refl _⟩,by repeat (first|exact Drawn0.refl _|apply Drawn0.step)⟩
 case round =>
  clear H';obtain ⟨x3_1,x8_1,rfl,rfl,HA,HK1,⟨m1,rfl⟩⟩:=hrel
  cases gk with
  | zero=>exact absurd HA.out (by simp [spec_voBits.l0])
  | succ k1 =>
   have H:=HA.out;clear HA;simp only [spec_voBits.l0] at H;by_cases c2:x8_1 < (l0.length:Int)
   ·rw [if_pos c2] at H;have c2b0:=decide_eq_true c2;clear c2;replace H:=iN H;obtain ⟨c3,H⟩:=H;have c3b0:decide (0 ≤ x8_1) = true:=decide_eq_true c3;clear c3;replace H:=iN H;obtain ⟨c4,H⟩:=H;have c4b0:decide (x8_1 < (l0.length:Int)) = true:=decide_eq_true c4;clear c4;replace H:=iN H;obtain ⟨c5,H⟩:=H;have c5b0:=eq_true c5;have c5b1:decide (0 ≤ (rd l0 x8_1)) = true:=decide_eq_true c5;clear c5;obtain ⟨ji6,hji6⟩:∃ j_:Int,(shl .i64 1 (rd l0 x8_1)) = j_:=⟨_,rfl⟩;(first|rw [hji6] at H|simp only [hji6] at H)
    have hji6_:(IntKind.i64.wrap (1 * 2 ^ min (rd l0 x8_1).toNat 64)) = ji6:=hji6;have hji6z:(rd l0 x8_1) ≤ 64 → (IntKind.i64.wrap (1 * 2 ^ (rd l0 x8_1).toNat)) = ji6:=shl_small hji6;have hji6u:(IntKind.i64.wrap (2 ^ min (rd l0 x8_1).toNat 64)) = ji6:=by have h_:=hji6_;rw [Int.one_mul] at h_;exact h_
    have hji6v:(rd l0 x8_1) ≤ 64 → (IntKind.i64.wrap (2 ^ (rd l0 x8_1).toNat)) = ji6:=fun hle_=>by have h_:=hji6z hle_;rw [Int.one_mul] at h_;exact h_
    have hji6y:(wrap64 (1 * 2 ^ min (rd l0 x8_1).toNat 64)) = ji6:=(i64_w _).symm.trans hji6_;have hji6x:(rd l0 x8_1) ≤ 64 → (wrap64 (1 * 2 ^ (rd l0 x8_1).toNat)) = ji6:=fun h_=>(i64_w _).symm.trans (hji6z h_)
    have H':=aM H;clear H;have p7:0 ≤ (x8_1:Int):=of_decide_eq_true ab;have q7:x8_1 < (l0.length:Int):=of_decide_eq_true ab;obtain ⟨ad7,e7,hx7_0⟩:=Kd.at_int HR0.out x8_1 p7 q7;cases e7
    replace p7:=eq_true p7;replace q7:=eq_true q7;go_wp2
    go_roundg k1
    case measure=>have:=HK1.out;omega
    case rel=>exact ⟨(Go.bits .or .i64 x3_1 (ji6)),(wrap64 (x8_1 + 1)),(by first|rfl|(simp;done)|(simp only [← hji6] <;> (first|rfl|simp))|(simp [*];done)),qrs,H',⟨by have:=HK1.out;omega⟩,by repeat (first|exact Drawn0.refl _|apply Drawn0.step)⟩
   ·rw [if_neg c2] at H;have c2b0:=decide_eq_false c2;clear c2;obtain rfl:=Option.some.inj H;go_wp2
    go_ret
    exact ⟨qrs,dR⟩

end Go.Proofs.YtidkafljeldokaaGreat.P
