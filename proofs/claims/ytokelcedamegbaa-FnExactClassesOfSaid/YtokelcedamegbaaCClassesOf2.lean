/- Part 2 of the texts below the law FnExactClassesOf. Printed by this session's driver over the kit's printer, but for the hand contracts and the plain laws. -/
import Derived.Test.YtokelcedamegbaaCClassesOf1
set_option linter.unusedVariables false
set_option linter.unusedSimpArgs false
namespace Go.Proofs.Ytokelcedamegbaa.P
open Go.RowKit Go.Proofs.YtokelcedamegbaaW.PrintWords Go.Proofs.YtokelcedamegbaaW.PrintLast Go.Proofs.YtokelcedamegbaaW.PrintMore
attribute [local go_sem] max2_int min2_int max_two min_two max_three min_three max_four min_four   -- for this text's walks alone
set_option linter.unusedVariables false
set_option linter.unusedSimpArgs false

/-! ### laws_toIntSS: function 47 -/
def laws_toIntSS.l0:Nat → List (List Int) → List (List Int) → Int → Option ((List (List Int)))
 | 0,_,_,_=>none
 | k + 1,x0,x3,x4=>if x4 < (x0.length:Int) then (if 0 ≤ x4 then ((laws_toIntS.f k (rd_LI x0 x4)).bind fun t238=>(if x4 < (x3.length:Int) then (laws_toIntSS.l0 k x0 (x3.set (x4:Int).toNat t238) (wrap64 (x4 + 1))) else (none))) else (none)) else (some x3)
def laws_toIntSS.f (k:Nat) (l0:List (List Int)):Option ((List (List Int))):=if 0 ≤ (l0.length:Int) then (if ((l0.length:Int):Int).toNat ≤ 11728124029610 then (laws_toIntSS.l0 k l0 (List.replicate ((l0.length:Int):Int).toNat []) 0) else (none)) else (none)
theorem laws_toIntSS.mono_l:∀ k,(∀ y0 y1 y2,LeO (laws_toIntSS.l0 k y0 y1 y2) (laws_toIntSS.l0 (k + 1) y0 y1 y2))
 | 0=>fun _ _ _ r h=>by simp [laws_toIntSS.l0] at h
 | k + 1=>by
  have ih0:=laws_toIntSS.mono_l k
  ·intro y0 y1 y2;unfold laws_toIntSS.l0
   repeat' with_reducible first|exact ih0 _ _ _|exact laws_toIntS.mono _ _|exact LeO.refl _|exact LeO.none _|refine LeO.ite ?_ ?_|refine LeO.bind ?_ (fun _=>?_)
theorem laws_toIntSS.mono:∀ a0 k,LeO (laws_toIntSS.f k a0) (laws_toIntSS.f (k + 1) a0):=by
 intro a0 k;have ih0:=laws_toIntSS.mono_l k;unfold laws_toIntSS.f
 repeat' with_reducible first|exact ih0 _ _ _|exact laws_toIntS.mono _ _|exact LeO.refl _|exact LeO.none _|refine LeO.ite ?_ ?_|refine LeO.bind ?_ (fun _=>?_)
set_option maxHeartbeats 8000000 in
set_option maxRecDepth 100000 in
theorem laws_toIntSS.calls (k:Nat) (A0:Option Addr) (c0:Nat) (l0:List (List Int)) (r:List (List Int)) (w:World) (hr0:Kd.C (Kd.slice 3 (Kd.int .i64)) w A0 l0.length l0) (hc0:l0.length ≤ c0) (h:laws_toIntSS.f k l0 = some r) :
  Calls Try.prog 47 #[.slice A0 l0.length c0] w fun e w'=>∃ v0_:Value,e = .returned (v0_) ∧ Kd.S (Kd.slice 3 (Kd.int .i64)) 40 w' w.heap.size (fun _=>True) v0_ r ∧ Below w.heap.size w w':=by
 have HR0:=Aside0.mk hr0;have HC0:=Aside0.mk hc0;clear hr0 hc0;have HB:=Aside0.mk (Below.refl w.heap.size w);have H:(if 0 ≤ (l0.length:Int) then (if ((l0.length:Int):Int).toNat ≤ 11728124029610 then (laws_toIntSS.l0 k l0 (List.replicate ((l0.length:Int):Int).toNat []) 0) else (none)) else (none)) = some r:=h;clear h;by_cases c2:0 ≤ (l0.length:Int)
 ·rw [if_pos c2] at H;have c2b0:=eq_true c2;have c2b1:decide (0 ≤ (l0.length:Int)) = true:=decide_eq_true c2;clear c2;by_cases c3:((l0.length:Int):Int).toNat ≤ 11728124029610
  ·rw [if_pos c3] at H;have c3b0:=eq_true c3;have c3b1:decide (((l0.length:Int):Int).toNat ≤ 11728124029610) = true:=decide_eq_true c3;clear c3;obtain ⟨y234,hy234⟩:∃ y_:List (List Int),y_ = (List.replicate ((l0.length:Int):Int).toNat []):=⟨_,rfl⟩;replace H:(laws_toIntSS.l0 k l0 y234 0) = some r:=by first|(rw [hy234];with_reducible exact H)|(have H2_:=(Option.bind_some _ _).symm.trans H;rw [hy234];with_reducible exact H2_)|(have H2_:=(Option.bind_some _ _).symm.trans H;with_reducible exact H2_)|with_reducible exact H|(rw [hy234];exact H)|exact H
   have Ny234:=Aside0.mk hy234;clear hy234;have H':=Aside0.mk H;clear H;go_enter Try.func47,Try.ntmps47;go_wp2_with (first|((with_reducible refine gate_dst (N:=7) rfl ?_);refine Kd.S_make (Kd.slice 3 (Kd.int .i64)) _ 40 rfl (N:=7) rfl 22 _ _ rfl (l0.length:Int) rfl rfl Try.underlying22 (.slice none 0 0) 24 info40 rfl (by decide) (by omega) [] (ok:=fun _=>True) (okp:=fun _=>True) ⟨_,rfl,Kd.R_nil _ _ _ _ _⟩ (fun _ hk=>hk) trivial (of_decide_eq_true ab) (Nat.le_trans (Nat.mul_le_mul_right _ (of_decide_eq_true ab:(l0.length:Int).toNat ≤ 11728124029610)) (by omega)) (Below.refl _ _) (Nat.le_refl _) ?_;intro v235 w4 ho5 hb hg_ hnew_;clear hg_ hnew_;(first|rw [← Ny234.out] at ho5|(simp only [Int.reduceToNat] at ho5;rw [← Ny234.out] at ho5));have n0_:=Aside0.mk (Kd.S_lower ho5 (below_size bw));have n1_:=Aside0.mk (below_step bw hb);clear HB;have HO236:=n0_;have HB:=n1_;clear n0_ n1_;clear hb ho5))
   go_loopg [4] k (fun kq v4 w'=>∃ (x3_1:List (List Int)) (x4_1:Int),v4 = .int .i64 x4_1 ∧ Aside0 (laws_toIntSS.l0 kq l0 x3_1 x4_1 = some r) ∧ Aside0 (kq ≤ k) ∧ Aside0 (Kd.S (Kd.slice 3 (Kd.int .i64)) 40 w' w.heap.size (fun _=>True) v235 x3_1) ∧ Aside0 (Below w.heap.size w w'))
   case atStart=>exact ⟨(y234),(0),(by first|rfl|(simp;done)|(simp [*];done)),H',⟨Nat.le_refl _⟩,⟨by (with_reducible repeat (first|apply Kd.S_alloc|apply Kd.S_drewN|apply Kd.S_drew));exact HO236.out⟩,⟨by repeat (first|(with_reducible first|exact HB.out|apply below_alloc|apply pw_below_drewN|apply below_drew1)|exact HB.out)⟩⟩
   case round =>
    clear H'
    try clear c2
    try clear c2b0
    try clear c2b1
    try clear p2
    try clear c3
    try clear c3b0
    try clear c3b1
    try clear c4
    obtain ⟨x3_1,x4_1,rfl,HA,HK1,HO_3,HB⟩:=hrel
    cases gk with
    | zero=>exact absurd HA.out (by simp [laws_toIntSS.l0])
    | succ k1 =>
     have H:=HA.out;clear HA;simp only [laws_toIntSS.l0] at H;by_cases c6:x4_1 < (l0.length:Int)
     ·rw [if_pos c6] at H;have c6b0:decide (x4_1 < (l0.length:Int)) = true:=decide_eq_true c6;clear c6;by_cases c7:0 ≤ x4_1
      ·rw [if_pos c7] at H;have c7b0:decide (0 ≤ x4_1) = true:=decide_eq_true c7;clear c7;replace H:=Option.bind_eq_some_iff.mp H;obtain ⟨t238,A80,H⟩:=H;replace H:(if x4_1 < (x3_1.length:Int) then (laws_toIntSS.l0 k1 l0 (x3_1.set (x4_1:Int).toNat t238) (wrap64 (x4_1 + 1))) else (none)) = some r:=H;have A8:=Aside0.mk A80;clear A80;by_cases c9:x4_1 < (x3_1.length:Int)
       ·rw [if_pos c9] at H;have c9b0:decide (x4_1 < (x3_1.length:Int)) = true:=decide_eq_true c9;clear c9;obtain ⟨y241,hy241⟩:∃ y_:List (List Int),y_ = (x3_1.set (x4_1:Int).toNat t238):=⟨_,rfl⟩;replace H:(laws_toIntSS.l0 k1 l0 y241 (wrap64 (x4_1 + 1))) = some r:=by first|(rw [hy241];with_reducible exact H)|(have H2_:=(Option.bind_some _ _).symm.trans H;rw [hy241];with_reducible exact H2_)|(have H2_:=(Option.bind_some _ _).symm.trans H;with_reducible exact H2_)|with_reducible exact H|(rw [hy241];exact H)|exact H
        have Ny241:=Aside0.mk hy241;clear hy241;have H':=Aside0.mk H;clear H;have p237:0 ≤ (x4_1:Int):=of_decide_eq_true ab;have q237:x4_1 < (l0.length:Int):=of_decide_eq_true ab;obtain ⟨ad237,A237_0,c237_0,e237,hx237_0,hl237_0,hi237_0⟩:=at_LI HR0.out x4_1 p237 q237;cases e237
        replace hx237_0:=(HB.out.cell (World.block_lt_of_cell? w _ hx237_0)).trans hx237_0;have HR237_0:=Aside0.mk hi237_0;have HC237_0:=Aside0.mk hl237_0;clear hi237_0 hl237_0;replace p237:=eq_true p237;replace q237:=eq_true q237;go_wp2_with (first|((with_reducible refine gate_callee (f:=67) rfl ?_);refine goesL_ (some 20) rfl rfl Try.func67 (by kernel_rfl) rfl #[.slice A237_0 (rd_LI l0 x4_1).length c237_0] rfl mq ?_;(with_reducible refine (laws_toIntS.calls k1 _ _ (rd_LI l0 x4_1) t238 _ ?side1 ?side2 A8.out).mono ?_);(case side1=>repeat (first|exact (Kd.C_below HR237_0.out HB.out)|(with_reducible refine Kd.C_alloc ?_ _)|(with_reducible refine Kd.C_drewN ?_ _)|(with_reducible refine Kd.C_drew ?_)));(case side2=>exact HC237_0.out);rintro e w11 ⟨v239,rfl,ho0,hb⟩;refine ⟨_,rfl,?_⟩;have n0_:=Aside0.mk (Kd.S_elder' (by (with_reducible repeat (first|apply Kd.S_alloc|apply Kd.S_drewN|apply Kd.S_drew));exact HO_3.out) (Kd.R_base ho0) hb);have n1_:=Aside0.mk (Kd.R_lower ho0 (below_size bw));have n2_:=Aside0.mk (below_step bw hb);clear HO_3;clear HB;have HO_3:=n0_;have HO240:=n1_;have HB:=n2_;clear n0_ n1_ n2_;(try clear hb);(try clear hb2);(try clear hk);(try clear hi);(try clear ho0);have p10:0 ≤ (x4_1:Int):=of_decide_eq_true ab;have q10:(x4_1:Int) < ((x3_1.length:Int):Int):=of_decide_eq_true ab;obtain ⟨go10,co10,eo10,gb10,gl10,cl10,HG10⟩:=Kd.S_form HO_3.out (by omega);(first|cases eo10|(injection eo10 with ea_ en_ ec_;(first|subst ea_|(injection ea_ with ea_;subst ea_));subst ec_;clear en_));have GB10:=Aside0.mk gb10;have GG10:=Aside0.mk HG10;clear gb10 gl10 HG10;obtain ⟨_,ce10,hcl10,hM10,hcc10,hfr10,_,_⟩:=Kd.S_elem HO_3.out [] (x4_1:Int) p10 q10;obtain ⟨ve10_0,rfl,ge10_0⟩:=hM10;have hx10_0:=hcc10 0 _ rfl;have hf10_0:=hfr10 0;(try simp only [show ((Kd.slice 3 (Kd.int .i64))).sz = 1 from rfl,Nat.mul_one,Nat.add_zero] at hx10_0);(try simp only [show ((Kd.slice 3 (Kd.int .i64))).sz = 1 from rfl,Nat.mul_one,Nat.add_zero] at hf10_0);clear hcl10 hcc10 hfr10;(try clear hM10);replace p10:=eq_true p10;replace q10:=eq_true q10;obtain ⟨Ao12,co12,eo12⟩:=Kd.R_slice HO240.out;subst eo12;have n_:=Aside0.mk (Kd.S_mono (ok':=(fun k_=>some k_ ≠ (.slice Ao12 t238.length co12:Value).ownBlock)) HO_3.out (fun k_ hk=>hk.2));clear HO_3;have HO_3:=n_;clear n_;have HX13:=Aside0.mk (show Kd.S (Kd.slice 3 (Kd.int .i64)) 40 w11 w.heap.size (fun k_=>((fun _=>True)) k_ ∧ ¬ ((fun k_=>some k_ = (.slice Ao12 t238.length co12:Value).ownBlock)) k_) (.slice (some ⟨go10,0,none⟩) x3_1.length co10) x3_1 from (by (with_reducible repeat (first|apply Kd.S_alloc|apply Kd.S_drewN|apply Kd.S_drew));exact Kd.S_mono HO_3.out (fun k_ hk=>⟨trivial,fun e_=>hk e_⟩)));obtain ⟨oki13,ce13,hcl13,hM13,hcc13,hfr13,hoki13,hH13⟩:=Kd.S_elem HX13.out [] (x4_1:Int) (of_decide_eq_true ab) (by have h_:(x4_1:Int) < ((x3_1.length:Int):Int):=of_decide_eq_true ab;first|exact h_|(have e_:=(Kd.S_reads' HO_3.out).1;omega)|simpa using h_);obtain ⟨ve13_0,rfl,ge13_0⟩:=hM13;have HP13:=Kd.S_seg hH13 (of_decide_eq_true ab) (by have h_:(x4_1:Int) < ((x3_1.length:Int):Int):=of_decide_eq_true ab;first|exact h_|(have e_:=(Kd.S_reads' HO_3.out).1;omega)|simpa using h_) (seg:=[.slice Ao12 t238.length co12]) (j:=0) (show 1 ≤ 1 from by decide) (x':=t238) (Kd.M_row (Kd.R_mono (Kd.R_tight rfl (Kd.R_mono (ok':=fun k_=>((fun _=>True)) k_ ∧ k_ ≠ go10) (Kd.R_apart' (HO240.out) (Kd.S_typed HO_3.out) (by decide)) (fun k_ hk=>⟨trivial,fun e_=>(hk.2) (by rw [e_];rfl)⟩))) (fun _ h_=>Or.inr (h_)))) (fun _ hk=>hk) (fun k_ hk_=>((Kd.R_mono (ok':=fun k_=>((fun _=>True)) k_ ∧ k_ ≠ go10) (Kd.R_apart' (HO240.out) (Kd.S_typed HO_3.out) (by decide)) (fun k_ hk=>⟨trivial,fun e_=>(hk.2) (by rw [e_];rfl)⟩))).1 k_ hk_.symm);have hx13_0:=hcc13 0 _ rfl;(try simp only [show ((Kd.slice 3 (Kd.int .i64))).sz = 1 from rfl,Nat.mul_one,Nat.add_zero] at hx13_0);have hf13_0:=hfr13 0;(try simp only [show ((Kd.slice 3 (Kd.int .i64))).sz = 1 from rfl,Nat.mul_one,Nat.add_zero] at hf13_0);clear hcl13 hcc13 hfr13;(try clear hM13);clear hoki13 hH13;(try simp only [show ((Kd.slice 3 (Kd.int .i64))).sz = 1 from rfl,Nat.mul_one,Nat.add_zero] at HP13))|((with_reducible refine gate_store (t:=40) (p:=21) rfl ?_);refine store_event (t:=40) (p:=21) (v:=?vo_w14) (w1:=(w11.setCell ⟨go10,(x4_1:Int).toNat,none⟩ (.slice Ao12 t238.length co12))) ?hg ?ho ?hn ?hr ?_;(case ho=>rfl);(case hg=>rfl);(case hn=>rfl);(case hr=>first|(go_simp;done)|(go_simp;rfl));intro w14 hw;have hg:w11.grownBy w14 (some go10):=(by rw [hw];exact HP13.2);have hp_:Kd.S (Kd.slice 3 (Kd.int .i64)) 40 w14 w.heap.size (fun _=>True) (.slice (some ⟨go10,0,none⟩) x3_1.length co10) y241:=(by rw [hw,Ny241.out];exact HP13.1);clear HP13;have n0_:=Aside0.mk (hp_);have n1_:=Aside0.mk ((by rw [hw];exact below_set (HB.out) GB10.out:Below w.heap.size w w14));clear HO_3;clear HB;clear HO240;have HO_3:=n0_;have HB:=n1_;clear n0_ n1_;clear hg hw hp_))
        go_roundg k1
        case measure=>have:=HK1.out;omega
        case rel=>exact ⟨(y241),(wrap64 (x4_1 + 1)),(by first|rfl|(simp;done)|(simp [*];done)),H',⟨by have:=HK1.out;omega⟩,⟨by (with_reducible repeat (first|apply Kd.S_alloc|apply Kd.S_drewN|apply Kd.S_drew));exact HO_3.out⟩,⟨by repeat (first|(with_reducible first|exact HB.out|apply below_alloc|apply pw_below_drewN|apply below_drew1)|exact HB.out)⟩⟩
       ·rw [if_neg c9] at H;exact absurd H (by simp)
      ·rw [if_neg c7] at H;exact absurd H (by simp)
     ·rw [if_neg c6] at H;have c6b0:decide (x4_1 < (l0.length:Int)) = false:=decide_eq_false c6;clear c6;obtain rfl:=Option.some.inj H;go_wp2
      go_ret
      exact ⟨_,by first|rfl|(simp [errW_none,errW_some] <;> rfl)|(simp [*,errW_none,errW_some] <;> rfl),by (with_reducible repeat (first|apply Kd.S_alloc|apply Kd.S_drewN|apply Kd.S_drew));exact HO_3.out,by repeat (first|(with_reducible first|exact HB.out|apply below_alloc|apply pw_below_drewN|apply below_drew1)|exact HB.out)⟩
  ·rw [if_neg c3] at H;exact absurd H (by simp)
 ·rw [if_neg c2] at H;exact absurd H (by simp)


/-! ### laws_toGame: function 13 -/
def laws_toGame.f (k:Nat) (a0_0:Int) (l0_1:List (List Int)):Option (Int × (List (List Int))):=(laws_toIntSS.f k l0_1).bind fun t245=>(some (a0_0,t245))
theorem laws_toGame.mono:∀ a0 a1 k,LeO (laws_toGame.f k a0 a1) (laws_toGame.f (k + 1) a0 a1):=by
 intro a0 a1 k;unfold laws_toGame.f
 repeat' with_reducible first|exact laws_toIntSS.mono _ _|exact LeO.refl _|exact LeO.none _|refine LeO.ite ?_ ?_|refine LeO.bind ?_ (fun _=>?_)
set_option maxHeartbeats 8000000 in
set_option maxRecDepth 100000 in
theorem laws_toGame.calls (k:Nat) (a0_0:Int) (A0_1:Option Addr) (c0_1:Nat) (l0_1:List (List Int)) (r1:Int) (r2:List (List Int)) (w:World) (hr0_1:Kd.C (Kd.slice 3 (Kd.int .i64)) w A0_1 l0_1.length l0_1) (hc0_1:l0_1.length ≤ c0_1) (h:laws_toGame.f k a0_0 l0_1 = some (r1,r2)) :
  Calls Try.prog 13 #[.agg #[.int .i64 a0_0,.slice A0_1 l0_1.length c0_1]] w fun e w'=>∃ v1_:Value,e = .returned (.agg #[.int .i64 r1,v1_]) ∧ Kd.S (Kd.slice 3 (Kd.int .i64)) 40 w' w.heap.size (fun _=>True) v1_ r2 ∧ Below w.heap.size w w':=by
 have hu24:=Try.underlying24;have hu28:=Try.underlying28;have HR0_1:=Aside0.mk hr0_1;have HC0_1:=Aside0.mk hc0_1;clear hr0_1 hc0_1;have HB:=Aside0.mk (Below.refl w.heap.size w);have H:((laws_toIntSS.f k l0_1).bind fun t245=>(some (a0_0,t245))) = some (r1,r2):=h;clear h;replace H:=Option.bind_eq_some_iff.mp H;obtain ⟨t245,A20,H⟩:=H;replace H:(some (a0_0,t245)) = some (r1,r2):=H;have A2:=Aside0.mk A20;clear A20;simp only [Option.some.injEq,Prod.mk.injEq] at H;obtain ⟨rfl,rfl⟩:=H;go_enter Try.func13,Try.ntmps13;go_wp2_with (first|((with_reducible refine gate_dst (N:=1) rfl ?_);refine box_event ?hg (N:=1) ?hd (cs:=#[.int .i64 a0_0,.slice A0_1 l0_1.length c0_1]) (t:=24) ?hr ?_;(case hd=>rfl);(case hg=>rfl);(case hr=>first|(go_simp;done)|(go_simp;rfl));intro gb242 hg w3 hbox hb;have n0_:=Aside0.mk (below_step bw hb);have n1_:=Aside0.mk (hbox);have n2_:=Aside0.mk ((by rw [hg];exact (below_size bw):w.heap.size ≤ gb242));have n3_:=Aside0.mk ((by rw [hg];exact (below_size bw):w.heap.size ≤ gb242));clear HB;have HB:=n0_;have BK242:=n1_;have GW242:=n2_;have GE242:=n3_;clear n0_ n1_ n2_ n3_;clear hb hbox hg)|((with_reducible refine gate_dst (N:=2) rfl ?_);refine box_event ?hg (N:=2) ?hd (cs:=#[.int .i64 0,.slice none 0 0]) (t:=28) ?hr ?_;(case hd=>rfl);(case hg=>rfl);(case hr=>first|(go_simp;done)|(go_simp;rfl));intro gb243 hg w4 hbox hb;have n0_:=Aside0.mk (blk_below (g:=gb242) (o:=.cells #[.int .i64 a0_0,.slice A0_1 l0_1.length c0_1] 24 (0,0)) bk hb);have n1_:=Aside0.mk (below_step bw hb);have n2_:=Aside0.mk (hbox);have n3_:=Aside0.mk ((by rw [hg];exact (below_size bw):w.heap.size ≤ gb243));have n4_:=Aside0.mk ((by rw [hg];exact (below_size bw):w.heap.size ≤ gb243));have n5_:=Aside0.mk ((by rw [hg];exact Nat.ne_of_lt (blk_lt (g:=gb242) (o:=.cells #[.int .i64 a0_0,.slice A0_1 l0_1.length c0_1] 24 (0,0)) bk):gb242 ≠ gb243));have n6_:=Aside0.mk ((by rw [hg];exact Nat.ne_of_gt (blk_lt (g:=gb242) (o:=.cells #[.int .i64 a0_0,.slice A0_1 l0_1.length c0_1] 24 (0,0)) bk):gb243 ≠ gb242));clear BK242;clear HB;have BK242:=n0_;have HB:=n1_;have BK243:=n2_;have GW243:=n3_;have GE243:=n4_;have NB242_243:=n5_;have NB243_242:=n6_;clear n0_ n1_ n2_ n3_ n4_ n5_ n6_;clear hb hbox hg)|((with_reducible refine gate_dst (N:=3) rfl ?_);refine box_event ?hg (N:=3) ?hd (cs:=#[.int .i64 0,.slice none 0 0]) (t:=28) ?hr ?_;(case hd=>rfl);(case hg=>rfl);(case hr=>first|(go_simp;done)|(go_simp;rfl));intro gb244 hg w5 hbox hb;have n0_:=Aside0.mk (blk_below (g:=gb242) (o:=.cells #[.int .i64 a0_0,.slice A0_1 l0_1.length c0_1] 24 (0,0)) bk hb);have n1_:=Aside0.mk (blk_below (g:=gb243) (o:=.cells #[.int .i64 0,.slice none 0 0] 28 (0,0)) bk hb);have n2_:=Aside0.mk (below_step bw hb);have n3_:=Aside0.mk (hbox);have n4_:=Aside0.mk ((by rw [hg];exact (below_size bw):w.heap.size ≤ gb244));have n5_:=Aside0.mk ((by rw [hg];exact (below_size bw):w.heap.size ≤ gb244));have n6_:=Aside0.mk ((by rw [hg];exact Nat.ne_of_lt (blk_lt (g:=gb242) (o:=.cells #[.int .i64 a0_0,.slice A0_1 l0_1.length c0_1] 24 (0,0)) bk):gb242 ≠ gb244));have n7_:=Aside0.mk ((by rw [hg];exact Nat.ne_of_gt (blk_lt (g:=gb242) (o:=.cells #[.int .i64 a0_0,.slice A0_1 l0_1.length c0_1] 24 (0,0)) bk):gb244 ≠ gb242));have n8_:=Aside0.mk ((by rw [hg];exact Nat.ne_of_lt (blk_lt (g:=gb243) (o:=.cells #[.int .i64 0,.slice none 0 0] 28 (0,0)) bk):gb243 ≠ gb244));have n9_:=Aside0.mk ((by rw [hg];exact Nat.ne_of_gt (blk_lt (g:=gb243) (o:=.cells #[.int .i64 0,.slice none 0 0] 28 (0,0)) bk):gb244 ≠ gb243));clear BK242;clear BK243;clear HB;have BK242:=n0_;have BK243:=n1_;have HB:=n2_;have BK244:=n3_;have GW244:=n4_;have GE244:=n5_;have NB242_244:=n6_;have NB244_242:=n7_;have NB243_244:=n8_;have NB244_243:=n9_;clear n0_ n1_ n2_ n3_ n4_ n5_ n6_ n7_ n8_ n9_;clear hb hbox hg;have hnb6:=NB242_243.out;have hnc6:=NB243_242.out;have hnb7:=NB242_244.out;have hnc7:=NB244_242.out;have hcz8_0:w5.cell? ⟨gb242,0,none⟩ = some (.int .i64 a0_0):=(blk_cell BK242.out 0).trans rfl;have hcz8_1:w5.cell? ⟨gb242,1,none⟩ = some (.slice A0_1 l0_1.length c0_1):=(blk_cell BK242.out 1).trans rfl;have hfz8_0:=blk_frozen BK242.out 0;have hfz8_1:=blk_frozen BK242.out 1;have hnb9:=NB244_243.out;have hnc9:=NB243_244.out;have hcz10_0:w5.cell? ⟨gb244,0,none⟩ = some (.int .i64 0):=(blk_cell BK244.out 0).trans rfl;have hcz10_1:w5.cell? ⟨gb244,1,none⟩ = some (.slice none 0 0):=(blk_cell BK244.out 1).trans rfl;have hfz10_0:=blk_frozen BK244.out 0;have hfz10_1:=blk_frozen BK244.out 1)|((with_reducible refine gate_callee (f:=47) rfl ?_);refine goesL_ (some 9) rfl rfl Try.func47 (by kernel_rfl) rfl #[.slice A0_1 l0_1.length c0_1] rfl mq ?_;(with_reducible refine (laws_toIntSS.calls k _ _ l0_1 t245 _ ?side1 ?side2 A2.out).mono ?_);(case side1=>exact Kd.C_below HR0_1.out bw);(case side2=>exact HC0_1.out);rintro e w11 ⟨v246,rfl,ho0,hb⟩;refine ⟨_,rfl,?_⟩;have n0_:=Aside0.mk (Kd.S_lower ho0 (below_size bw));have n1_:=Aside0.mk (blk_below (g:=gb242) (o:=.cells #[.int .i64 a0_0,.slice A0_1 l0_1.length c0_1] 24 (0,0)) (by (with_reducible repeat (first|refine blk_drewN ?_ _|refine blk_drew ?_|refine blk_alloc ?_ _));refine blk_far ?_ NB242_244.out _;(with_reducible repeat (first|refine blk_drewN ?_ _|refine blk_drew ?_|refine blk_alloc ?_ _));exact BK242.out) hb);have n2_:=Aside0.mk (blk_below (g:=gb243) (o:=.cells #[.int .i64 0,.slice none 0 0] 28 (0,0)) (by (with_reducible repeat (first|refine blk_drewN ?_ _|refine blk_drew ?_|refine blk_alloc ?_ _));refine blk_far ?_ NB243_244.out _;(with_reducible repeat (first|refine blk_drewN ?_ _|refine blk_drew ?_|refine blk_alloc ?_ _));exact BK243.out) hb);have n3_:=Aside0.mk (blk_below (g:=gb244) (o:=.cells #[.int .i64 a0_0,.slice none 0 0] 28 (0,0)) (by (with_reducible repeat (first|refine blk_drewN ?_ _|refine blk_drew ?_|refine blk_alloc ?_ _));refine blk_put (cs:=#[.int .i64 0,.slice none 0 0]) ?_ 0 _ rfl;(with_reducible repeat (first|refine blk_drewN ?_ _|refine blk_drew ?_|refine blk_alloc ?_ _));exact BK244.out) hb);have n4_:=Aside0.mk (below_step bw hb);clear BK242;clear BK243;clear BK244;clear HB;have HO247:=n0_;have BK242:=n1_;have BK243:=n2_;have BK244:=n3_;have HB:=n4_;clear n0_ n1_ n2_ n3_ n4_;(try clear hb);(try clear hb2);(try clear hk);(try clear hi);(try clear ho0);obtain ⟨Ao12,co12,eo12⟩:=Kd.S_slice HO247.out;subst eo12;have hcz13_0:w11.cell? ⟨gb244,0,none⟩ = some (.int .i64 a0_0):=(blk_cell BK244.out 0).trans rfl;have hcz13_1:w11.cell? ⟨gb244,1,none⟩ = some (.slice none 0 0):=(blk_cell BK244.out 1).trans rfl;have hfz13_0:=blk_frozen BK244.out 0;have hfz13_1:=blk_frozen BK244.out 1;have hcz14_0:w11.cell? ⟨gb243,0,none⟩ = some (.int .i64 0):=(blk_cell BK243.out 0).trans rfl;have hcz14_1:w11.cell? ⟨gb243,1,none⟩ = some (.slice none 0 0):=(blk_cell BK243.out 1).trans rfl;have hfz14_0:=blk_frozen BK243.out 0;have hfz14_1:=blk_frozen BK243.out 1))
 refine bodyPost_ret (results_cell_row rfl _ _ gb243 28 #[.int .i64 a0_0,.slice Ao12 t245.length co12] (0,0) _ rfl (by (with_reducible repeat (first|refine blk_drewN ?_ _|refine blk_drew ?_|refine blk_alloc ?_ _));refine blk_put (cs:=#[.int .i64 a0_0,.slice none 0 0]) ?_ 1 _ rfl;(with_reducible repeat (first|refine blk_drewN ?_ _|refine blk_drew ?_|refine blk_alloc ?_ _));refine blk_put (cs:=#[.int .i64 0,.slice none 0 0]) ?_ 0 _ rfl;(with_reducible repeat (first|refine blk_drewN ?_ _|refine blk_drew ?_|refine blk_alloc ?_ _));refine blk_far ?_ NB243_244.out _;(with_reducible repeat (first|refine blk_drewN ?_ _|refine blk_drew ?_|refine blk_alloc ?_ _));exact BK243.out) Try.underlying28 rfl (by kernel_rfl)) rfl ?_;exact ⟨_,by first|rfl|(simp [errW_none,errW_some] <;> rfl)|(simp [*,errW_none,errW_some] <;> rfl),by (with_reducible repeat (first|apply Kd.S_alloc|apply Kd.S_drewN|apply Kd.S_drew));exact Kd.S_mono (Kd.S_far (p:=⟨gb243,1,none⟩) (Kd.S_far (p:=⟨gb243,0,none⟩) (Kd.S_far (p:=⟨gb244,1,none⟩) (Kd.S_types (Kd.S_types HO247.out BK244.out (by decide)) BK243.out (by decide)) (fun _ hk=>hk.1.2) (.slice Ao12 t245.length co12)) (fun _ hk=>hk.2) (.int .i64 a0_0)) (fun _ hk=>hk.2) (.slice Ao12 t245.length co12)) (fun _ hk=>trivial),by repeat (first|(with_reducible first|exact HB.out|apply below_alloc|apply pw_below_drewN|apply below_drew1|refine below_set ?_ GE242.out|refine below_set ?_ GE243.out|refine below_set ?_ GE244.out)|exact HB.out)⟩


/-! ### impl_votesOf: function 71 -/
def impl_votesOf.l0:Nat → (Int → Option (Bool)) → Int → Int → Int → List Bool → Option (Int × List Bool)
 | 0,_,_,_,_,_=>none
 | k + 1,x1,x14,x15,x253000,x253001=>if x15 < x14 then ((x1 x15).bind fun t253=>(if 0 ≤ x15 then (if x15 < (x253001.length:Int) then (impl_votesOf.l0 k x1 x14 (wrap64 (x15 + 1)) x253000 (x253001.set (x15:Int).toNat t253)) else (none)) else (none))) else (some (x253000,x253001))
def impl_votesOf.f (k:Nat) (a0:Int) (a1:(Int → Option (Bool))):Option (Int × List Bool):=if 0 ≤ a0 then (if 0 ≤ (shl .i64 1 a0) then (if (shl .i64 1 a0:Int).toNat ≤ 281474976710656 then ((some (List.replicate (shl .i64 1 a0:Int).toNat false:List Bool)).bind fun y249=>(impl_votesOf.l0 k a1 (y249.length:Int) 0 a0 y249)) else (none)) else (none)) else (none)
theorem impl_votesOf.mono_l:∀ k,(∀ y0 y1 y2 y3 y4,LeO (impl_votesOf.l0 k y0 y1 y2 y3 y4) (impl_votesOf.l0 (k + 1) y0 y1 y2 y3 y4))
 | 0=>fun _ _ _ _ _ r h=>by simp [impl_votesOf.l0] at h
 | k + 1=>by
  have ih0:=impl_votesOf.mono_l k
  ·intro y0 y1 y2 y3 y4;unfold impl_votesOf.l0
   repeat' with_reducible first|exact ih0 _ _ _ _ _|exact LeO.refl _|exact LeO.none _|refine LeO.ite ?_ ?_|refine LeO.bind ?_ (fun _=>?_)
theorem impl_votesOf.mono:∀ a0 a1 k,LeO (impl_votesOf.f k a0 a1) (impl_votesOf.f (k + 1) a0 a1):=by
 intro a0 a1 k;have ih0:=impl_votesOf.mono_l k;unfold impl_votesOf.f
 repeat' with_reducible first|exact ih0 _ _ _ _ _|exact LeO.refl _|exact LeO.none _|refine LeO.ite ?_ ?_|refine LeO.bind ?_ (fun _=>?_)
theorem impl_votesOf.monop_l {p_ q_:(Int → Option (Bool))} (h_:∀ x0_,LeO (p_ x0_) (q_ x0_)):∀ k,(∀ y1 y2 y3 y4,LeO (impl_votesOf.l0 k p_ y1 y2 y3 y4) (impl_votesOf.l0 k q_ y1 y2 y3 y4))
 | 0=>fun _ _ _ _ r hz=>by simp [impl_votesOf.l0] at hz
 | k + 1=>by
  have ih0:=impl_votesOf.monop_l h_ k
  ·intro y0 y1 y2 y3;unfold impl_votesOf.l0
   repeat' with_reducible first|exact ih0 _ _ _ _|exact h_ _|exact LeO.refl _|refine LeO.ite ?_ ?_|refine LeO.bind ?_ (fun _=>?_)
theorem impl_votesOf.mono_p {p_ q_:(Int → Option (Bool))} (h_:∀ x0_,LeO (p_ x0_) (q_ x0_)):∀ a0 k,LeO (impl_votesOf.f k a0 p_) (impl_votesOf.f k a0 q_):=by
 intro a0 k;have ih0:=impl_votesOf.monop_l h_ k;unfold impl_votesOf.f
 repeat' with_reducible first|exact ih0 _ _ _ _|exact h_ _|exact LeO.refl _|refine LeO.ite ?_ ?_|refine LeO.bind ?_ (fun _=>?_)
def impl_votesOf.T5:Bool × List (List Nat × List Nat):=(true,[([],[]),([0],[0]),([],[]),([],[]),([],[]),([3,4],[3,4]),([1,2,0,1,2,3,4,5],[1,2]),([6,5,5,0,1,2,3,4,5],[5,6])])
def impl_votesOf.B5:List Nat:=[0,1,0,0,0,24,63,127]
theorem impl_votesOf.tab5:rtab .any (opsOf Try.f71 5) = impl_votesOf.T5:=by kernel_rfl
theorem impl_votesOf.bits5:waitsOk impl_votesOf.T5.2 impl_votesOf.B5 = true:=by kernel_rfl
set_option maxHeartbeats 8000000 in
set_option maxRecDepth 100000 in
theorem impl_votesOf.calls (k:Nat) (a0:Int) (a1:(Int → Option (Bool))) (g1_:Nat) (lb1_:Array Value) (eg1_:∀ (args:Array Value) (w:World),(callFunc g1_ args).run Try.prog w = .ok (.enter g1_ args) w) (r1:Int) (r2:List Bool) (w:World) (hp1:∀ (W:World) (b0_:Int) (r0_:Bool),a1 b0_ = some r0_ → Below w.heap.size w W → Calls Try.prog g1_ (#[.int .i64 b0_] ++ lb1_) W fun e w'=>e = .returned (.bool r0_) ∧ Below W.heap.size W w') (h:impl_votesOf.f k a0 a1 = some (r1,r2)) :
  Calls Try.prog 71 #[.int .i64 a0,.func (.func g1_) #[] lb1_] w fun e w'=>∃ v1_:Value,e = .returned (.agg #[.int .i64 r1,v1_]) ∧ Kd.R Kd.bool 4 w' w.heap.size (fun _=>True) v1_ r2 ∧ Below w.heap.size w w':=by
 have hu68:=Try.underlying68;have HP1:=Aside0.mk hp1;clear hp1;have HB:=Aside0.mk (Below.refl w.heap.size w);have H:(if 0 ≤ a0 then (if 0 ≤ (shl .i64 1 a0) then (if (shl .i64 1 a0:Int).toNat ≤ 281474976710656 then ((some (List.replicate (shl .i64 1 a0:Int).toNat false:List Bool)).bind fun y249=>(impl_votesOf.l0 k a1 (y249.length:Int) 0 a0 y249)) else (none)) else (none)) else (none)) = some (r1,r2):=h;clear h;by_cases c3:0 ≤ a0
 ·rw [if_pos c3] at H;have c3b0:=eq_true c3;have c3b1:decide (0 ≤ a0) = true:=decide_eq_true c3;clear c3;obtain ⟨ji4,hji4⟩:∃ j_:Int,(shl .i64 1 a0) = j_:=⟨_,rfl⟩;replace H:(if 0 ≤ (ji4) then (if (ji4:Int).toNat ≤ 281474976710656 then ((some (List.replicate (ji4:Int).toNat false:List Bool)).bind fun y249=>(impl_votesOf.l0 k a1 (y249.length:Int) 0 a0 y249)) else (none)) else (none)) = some (r1,r2):=by first|(rw [hji4] at H;exact H)|(simp only [hji4] at H ⊢;exact H)
  have hji4_:(IntKind.i64.wrap (1 * 2 ^ min a0.toNat 64)) = ji4:=hji4;have hji4z:a0 ≤ 64 → (IntKind.i64.wrap (1 * 2 ^ a0.toNat)) = ji4:=shl_small hji4;have hji4u:(IntKind.i64.wrap (2 ^ min a0.toNat 64)) = ji4:=by have h_:=hji4_;rw [Int.one_mul] at h_;exact h_
  have hji4v:a0 ≤ 64 → (IntKind.i64.wrap (2 ^ a0.toNat)) = ji4:=fun hle_=>by have h_:=hji4z hle_;rw [Int.one_mul] at h_;exact h_
  have hji4y:(wrap64 (1 * 2 ^ min a0.toNat 64)) = ji4:=(i64_w _).symm.trans hji4_;have hji4x:a0 ≤ 64 → (wrap64 (1 * 2 ^ a0.toNat)) = ji4:=fun h_=>(i64_w _).symm.trans (hji4z h_)
  by_cases c5:0 ≤ (ji4)
  ·rw [if_pos c5] at H;have c5b0:=eq_true c5;have c5b1:decide (0 ≤ (ji4)) = true:=decide_eq_true c5;clear c5;by_cases c6:(ji4:Int).toNat ≤ 281474976710656
   ·rw [if_pos c6] at H;have c6b0:=eq_true c6;have c6b1:decide ((ji4:Int).toNat ≤ 281474976710656) = true:=decide_eq_true c6;clear c6;obtain ⟨y249,hy249⟩:∃ y_:List Bool,y_ = (List.replicate (ji4:Int).toNat false):=⟨_,rfl⟩;replace H:(impl_votesOf.l0 k a1 (y249.length:Int) 0 a0 y249) = some (r1,r2):=by first|(rw [hy249];with_reducible exact H)|(have H2_:=(Option.bind_some _ _).symm.trans H;rw [hy249];with_reducible exact H2_)|(have H2_:=(Option.bind_some _ _).symm.trans H;with_reducible exact H2_)|with_reducible exact H|(rw [hy249];exact H)|exact H
    have Ny249:=Aside0.mk hy249;clear hy249;have H':=Aside0.mk H;clear H;go_enter Try.func71,Try.ntmps71;go_wp2_with (first|((with_reducible refine gate_dst (N:=4) rfl ?_);refine box_event ?hg (N:=4) ?hd (cs:=#[.int .i64 0,.slice none 0 0]) (t:=68) ?hr ?_;(case hd=>rfl);(case hg=>rfl);(case hr=>first|(go_simp;done)|(go_simp;rfl));intro gb248 hg w7 hbox hb;have n0_:=Aside0.mk (below_step bw hb);have n1_:=Aside0.mk (hbox);have n2_:=Aside0.mk ((by rw [hg];exact (below_size bw):w.heap.size ≤ gb248));have n3_:=Aside0.mk ((by rw [hg];exact (below_size bw):w.heap.size ≤ gb248));clear HB;have HB:=n0_;have BK248:=n1_;have GW248:=n2_;have GE248:=n3_;clear n0_ n1_ n2_ n3_;clear hb hbox hg)|((with_reducible refine gate_dst (N:=10) rfl ?_);refine Kd.R_make Kd.bool _ 4 rfl (N:=10) rfl 63 _ _ rfl ji4 rfl rfl Try.underlying63 (.bool false) 1 info4 rfl (by decide) (by omega) false (ok:=fun _=>True) (okp:=fun _=>True) rfl (fun _ hk=>hk) trivial (of_decide_eq_true ab) (Nat.le_trans (Nat.mul_le_mul_right _ (of_decide_eq_true ab:ji4.toNat ≤ 281474976710656)) (by omega)) (Below.refl _ _) (Nat.le_refl _) ?_;intro v250 w8 ho9 hb hg_ hnew_;clear hg_ hnew_;(first|rw [← Ny249.out] at ho9|(simp only [Int.reduceToNat] at ho9;rw [← Ny249.out] at ho9));have n0_:=Aside0.mk (Kd.R_lower ho9 (below_size bw));have n1_:=Aside0.mk (blk_below (g:=gb248) (o:=.cells #[.int .i64 0,.slice none 0 0] 68 (0,0)) bk hb);have n2_:=Aside0.mk (below_step bw hb);clear BK248;clear HB;have HO251:=n0_;have BK248:=n1_;have HB:=n2_;clear n0_ n1_ n2_;clear hb ho9;obtain ⟨Ao10,co10,eo10⟩:=Kd.R_slice HO251.out;subst eo10)|((with_reducible refine gate_dst (N:=5) rfl ?_);refine box_event ?hg (N:=5) ?hd (cs:=#[.int .i64 0,.slice none 0 0]) (t:=68) ?hr ?_;(case hd=>rfl);(case hg=>rfl);(case hr=>first|(go_simp;done)|(go_simp;rfl));intro gb252 hg w11 hbox hb;have n0_:=Aside0.mk (Kd.R_below (by (with_reducible repeat (first|apply Kd.R_alloc|apply Kd.R_drewN|apply Kd.R_drew));exact HO251.out) hb);have n1_:=Aside0.mk (blk_below (g:=gb248) (o:=.cells #[.int .i64 0,.slice none 0 0] 68 (0,0)) bk hb);have n2_:=Aside0.mk (below_step bw hb);have n3_:=Aside0.mk (hbox);have n4_:=Aside0.mk ((by rw [hg];exact (below_size bw):w.heap.size ≤ gb252));have n5_:=Aside0.mk ((by rw [hg];exact (below_size bw):w.heap.size ≤ gb252));have n6_:=Aside0.mk ((by rw [hg];exact Nat.ne_of_lt (blk_lt (g:=gb248) (o:=.cells #[.int .i64 0,.slice none 0 0] 68 (0,0)) bk):gb248 ≠ gb252));have n7_:=Aside0.mk ((by rw [hg];exact Nat.ne_of_gt (blk_lt (g:=gb248) (o:=.cells #[.int .i64 0,.slice none 0 0] 68 (0,0)) bk):gb252 ≠ gb248));clear HO251;clear BK248;clear HB;have HO251:=n0_;have BK248:=n1_;have HB:=n2_;have BK252:=n3_;have GW252:=n4_;have GE252:=n5_;have NB248_252:=n6_;have NB252_248:=n7_;clear n0_ n1_ n2_ n3_ n4_ n5_ n6_ n7_;clear hb hbox hg;have hnb12:=NB252_248.out;have hnc12:=NB248_252.out;have hcz13_0:w11.cell? ⟨gb252,0,none⟩ = some (.int .i64 0):=(blk_cell BK252.out 0).trans rfl;have hcz13_1:w11.cell? ⟨gb252,1,none⟩ = some (.slice none 0 0):=(blk_cell BK252.out 1).trans rfl;have hfz13_0:=blk_frozen BK252.out 0;have hfz13_1:=blk_frozen BK252.out 1))
    go_loopg [15] k (fun kq v15 w'=>∃ (x15_1:Int) (x253001_1:List Bool) (u253001:Value),v15 = .int .i64 x15_1 ∧ Aside0 (impl_votesOf.l0 kq a1 (y249.length:Int) x15_1 a0 x253001_1 = some (r1,r2)) ∧ Aside0 (kq ≤ k) ∧ Aside0 (Kd.R Kd.bool 4 w' w.heap.size (fun _=>True) u253001 x253001_1) ∧ Aside0 (w'.heap[gb248]? = some (.cells #[.int .i64 0,(.slice none 0 0)] 68 (0,0))) ∧ Aside0 (w'.heap[gb252]? = some (.cells #[.int .i64 a0,u253001] 68 (0,0))) ∧ Aside0 (Below w.heap.size w w'))
    case atStart=>exact ⟨(0),(y249),(.slice Ao10 y249.length co10),(by first|rfl|(simp;done)|(simp [*];done)),H',⟨Nat.le_refl _⟩,⟨by (with_reducible repeat (first|apply Kd.R_alloc|apply Kd.R_drewN|apply Kd.R_drew));exact Kd.R_mono (Kd.R_far (p:=⟨gb252,1,none⟩) (Kd.R_far (p:=⟨gb252,0,none⟩) (Kd.R_types HO251.out BK252.out (by decide)) (fun _ hk=>hk.2) (.int .i64 a0)) (fun _ hk=>hk.2) (.slice Ao10 y249.length co10)) (fun _ hk=>trivial)⟩,⟨by (with_reducible repeat (first|refine blk_drewN ?_ _|refine blk_drew ?_|refine blk_alloc ?_ _));refine blk_far ?_ NB248_252.out _;(with_reducible repeat (first|refine blk_drewN ?_ _|refine blk_drew ?_|refine blk_alloc ?_ _));refine blk_far ?_ NB248_252.out _;(with_reducible repeat (first|refine blk_drewN ?_ _|refine blk_drew ?_|refine blk_alloc ?_ _));exact BK248.out⟩,⟨by (with_reducible repeat (first|refine blk_drewN ?_ _|refine blk_drew ?_|refine blk_alloc ?_ _));refine blk_put (cs:=#[.int .i64 a0,.slice none 0 0]) ?_ 1 _ rfl;(with_reducible repeat (first|refine blk_drewN ?_ _|refine blk_drew ?_|refine blk_alloc ?_ _));refine blk_put (cs:=#[.int .i64 0,.slice none 0 0]) ?_ 0 _ rfl;(with_reducible repeat (first|refine blk_drewN ?_ _|refine blk_drew ?_|refine blk_alloc ?_ _));exact BK252.out⟩,⟨by repeat (first|(with_reducible first|exact HB.out|apply below_alloc|apply pw_below_drewN|apply below_drew1|refine below_set ?_ GE248.out|refine below_set ?_ GE252.out)|exact HB.out)⟩⟩
    case round =>
     clear H'
     try clear c1
     try clear p1
     try clear p2
     try clear c3
     try clear c3b0
     try clear c3b1
     try clear c5
     try clear c5b0
     try clear c5b1
     try clear c6
     try clear c6b0
     try clear c6b1
     try clear p6
     try clear c7
     try clear c12
     try clear hcz13_0
     try clear hcz13_1
     try clear hfz13_0
     try clear hfz13_1
     obtain ⟨x15_1,x253001_1,u253001,rfl,HA,HK1,HO_253001,BK248,BK252,HB⟩:=hrel
     cases gk with
     | zero=>exact absurd HA.out (by simp [impl_votesOf.l0])
     | succ k1 =>
      have H:=HA.out;clear HA;simp only [impl_votesOf.l0] at H;by_cases c14:x15_1 < (y249.length:Int)
      ·rw [if_pos c14] at H;have c14b0:decide (x15_1 < (y249.length:Int)) = true:=decide_eq_true c14;clear c14;replace H:=Option.bind_eq_some_iff.mp H;obtain ⟨t253,A150,H⟩:=H;replace H:(if 0 ≤ x15_1 then (if x15_1 < (x253001_1.length:Int) then (impl_votesOf.l0 k1 a1 (y249.length:Int) (wrap64 (x15_1 + 1)) a0 (x253001_1.set (x15_1:Int).toNat t253)) else (none)) else (none)) = some (r1,r2):=H;have A15:=Aside0.mk A150;clear A150;by_cases c16:0 ≤ x15_1
       ·rw [if_pos c16] at H;have c16b0:decide (0 ≤ x15_1) = true:=decide_eq_true c16;clear c16;by_cases c17:x15_1 < (x253001_1.length:Int)
        ·rw [if_pos c17] at H;have c17b0:decide (x15_1 < (x253001_1.length:Int)) = true:=decide_eq_true c17;clear c17;obtain ⟨y254,hy254⟩:∃ y_:List Bool,y_ = (x253001_1.set (x15_1:Int).toNat t253):=⟨_,rfl⟩;replace H:(impl_votesOf.l0 k1 a1 (y249.length:Int) (wrap64 (x15_1 + 1)) a0 y254) = some (r1,r2):=by first|(rw [hy254];with_reducible exact H)|(have H2_:=(Option.bind_some _ _).symm.trans H;rw [hy254];with_reducible exact H2_)|(have H2_:=(Option.bind_some _ _).symm.trans H;with_reducible exact H2_)|with_reducible exact H|(rw [hy254];exact H)|exact H
         have Ny254:=Aside0.mk hy254;clear hy254;have H':=Aside0.mk H;clear H
         try go_wp2
         have n0_:=Aside0.mk (Kd.R_drew HO_253001.out);have n1_:=Aside0.mk (blk_drew BK248.out);have n2_:=Aside0.mk (blk_drew BK252.out);have n3_:=Aside0.mk (below_drew1 HB.out);clear HO_253001;clear BK248;clear BK252;clear HB;have HO_253001:=n0_;have BK248:=n1_;have BK252:=n2_;have HB:=n3_;clear n0_ n1_ n2_ n3_;refine start_ (n:=8) (S:=fun w'=>w'.cell? ⟨gb252,0,none⟩ = some (.int .i64 a0) ∧ w'.cell? ⟨gb252,1,none⟩ = some (u253001)) (ds:=[7]) #[false,false,false,false,false,false,false,false] (by kernel_rfl) rfl rfl ⟨(blk_cell BK252.out 0).trans rfl,(blk_cell BK252.out 1).trans rfl⟩ (fun hHeld=>?_);refine with_tabW impl_votesOf.tab5 impl_votesOf.bits5 (fun HT_ HW_=>?_)
         generalize wr.drew = w19 at HO_253001 BK248 BK252 HB hHeld ⊢
         refine pure_ (i:=0) (N:=some 18) (v:=?_) (a':=?_) #[true,false,false,false,false,false,false,false] rfl rfl (any_of HT_.out (by kernel_rfl)) (fun _ _ _ h=>h) (Or.inl ⟨by rfl,?_⟩) ?_ ?_;rotate_left
         ·intro w';go_simp
          with_reducible rfl
         rotate_left
         ·simp only [Act.put,sA,sZ,sS,i64_w,i32_w];rfl
         refine pure_ (i:=2) (N:=some 20) (v:=?_) (a':=?_) #[true,false,true,false,false,false,false,false] rfl rfl (any_of HT_.out (by kernel_rfl)) (fun _ _ _ h=>h) (Or.inl ⟨by rfl,?_⟩) ?_ ?_;rotate_left
         ·intro w';go_simp
          with_reducible rfl
         rotate_left
         ·simp only [Act.put,sA,sZ,sS,i64_w,i32_w];rfl
         refine pure_ (i:=3) (N:=some 21) (v:=?_) (a':=?_) #[true,false,true,true,false,false,false,false] rfl rfl (any_of HT_.out (by kernel_rfl)) (fun _ _ _ h=>h) (Or.inl ⟨by rfl,?_⟩) ?_ ?_;rotate_left
         ·intro w';go_simp
          with_reducible rfl
         rotate_left
         ·simp only [Act.put,sA,sZ,sS,i64_w,i32_w];rfl
         refine pure_ (i:=4) (N:=some 22) (v:=?_) (a':=?_) #[true,false,true,true,true,false,false,false] rfl rfl (any_of HT_.out (by kernel_rfl)) (fun _ _ _ h=>h) (Or.inl ⟨by rfl,?_⟩) ?_ ?_;rotate_left
         ·intro w';go_simp
          with_reducible rfl
         rotate_left
         ·simp only [Act.put,sA,sZ,sS,i64_w,i32_w];rfl
         refine take_ (i:=1) (N:=some 19) (v:=?_) (a':=?_) #[true,true,true,true,true,false,false,false] rfl rfl (take_ofW HT_.out HW_.out (by kernel_rfl)) (fun _ _ _ h=>h) (Or.inl ⟨by rfl,?_⟩) hHeld ?_ ?_;rotate_left
         ·rintro w' ⟨s0,s1⟩
          go_simp
          with_reducible rfl
         rotate_left
         ·simp only [Act.put,sA,sZ,sS,i64_w,i32_w];rfl
         refine one_ (i:=5) (N:=some 23) #[true,true,true,true,true,true,false,false] rfl rfl (one_of HT_.out (by kernel_rfl)) (by decide) (fun K hK=>?_);refine goesFr_ eg1_ #[.int .i64 x15_1] (by rfl) rfl rfl (by rfl) mq ?_
         with_reducible refine (HP1.out _ x15_1 t253 A15.out ?side1).mono ?_
         (case side1=>repeat (first|(with_reducible first|exact HB.out|apply below_alloc|apply pw_below_drewN|apply below_drew1|refine below_set ?_ GE248.out|refine below_set ?_ GE252.out)|exact HB.out))
         rintro e w20 ⟨rfl,hb⟩
         refine ⟨_,rfl,?_⟩;have n0_:=Aside0.mk (Kd.R_below (by (with_reducible repeat (first|apply Kd.R_alloc|apply Kd.R_drewN|apply Kd.R_drew));exact HO_253001.out) hb);have n1_:=Aside0.mk (blk_below (g:=gb248) (o:=.cells #[.int .i64 0,.slice none 0 0] 68 (0,0)) bk hb);have n2_:=Aside0.mk (blk_below (g:=gb252) (o:=.cells #[.int .i64 a0,u253001] 68 (0,0)) bk hb);have n3_:=Aside0.mk (below_step bw hb);clear HO_253001;clear BK248;clear BK252;clear HB;have HO_253001:=n0_;have BK248:=n1_;have BK252:=n2_;have HB:=n3_;clear n0_ n1_ n2_ n3_;(try clear hb)
         (try clear hb2)
         (try clear hk)
         (try clear hi)
         have p18:0 ≤ (x15_1:Int):=of_decide_eq_true ab;have q18:(x15_1:Int) < ((x253001_1.length:Int):Int):=of_decide_eq_true ab;obtain ⟨go18,co18,eo18,gb18,gl18,cl18,HG18⟩:=Kd.R_form HO_253001.out (by omega);(first|cases eo18|(injection eo18 with ea_ en_ ec_;(first|subst ea_|(injection ea_ with ea_;subst ea_));subst ec_;clear en_))
         have GB18:=Aside0.mk gb18;have GG18:=Aside0.mk HG18;clear gb18 gl18 HG18;obtain ⟨hx18_0,hf18_0⟩:=Kd.R_celln false HO_253001.out (x15_1:Int) p18 q18;replace p18:=eq_true p18;replace q18:=eq_true q18;have HP21:=Kd.R_putn HO_253001.out (x15_1:Int) t253;rw [← Ny254.out] at HP21;have HQ21:=Aside0.mk HP21;clear HP21;refine hK.out _ _ ⟨(blk_cell BK252.out 0).trans rfl,(blk_cell BK252.out 1).trans rfl⟩ (fun hHeld=>?_);clear hK K;refine norm_ (a':=?_) ?_ ?_;rotate_left
         ·show Act.put _ (some 23) _ = _;simp only [Act.put,sA,sZ,sS,i64_w,i32_w];rfl
         refine pure_ (i:=6) (N:=some 24) (v:=?_) (a':=?_) #[true,true,true,true,true,true,true,false] rfl rfl (any_of HT_.out (by kernel_rfl)) (fun _ _ _ h=>h) (Or.inl ⟨by rfl,?_⟩) ?_ ?_;rotate_left
         ·intro w';go_simp
          with_reducible rfl
         rotate_left
         ·simp only [Act.put,sA,sZ,sS,i64_w,i32_w];rfl
         refine last_ (i:=7) (N:=none) #[true,true,true,true,true,true,true,true] rfl rfl (one_of HT_.out (by kernel_rfl)) (by decide) (fun K hK=>?_);refine skip_ (w1:=?_) (by rfl) rfl ?_ ?_;rotate_left
         ·go_simp
          rfl
         refine hK.out _ _ ?_;clear hK K;refine done_ (done_of HT_.out (by kernel_rfl)) ?_
         try go_wp2
         go_roundg k1
         case measure=>have:=HK1.out;omega
         case rel=>exact ⟨(wrap64 (x15_1 + 1)),(y254),(.slice (some ⟨go18,0,none⟩) x253001_1.length co18),(by first|rfl|(simp;done)|(simp [*];done)),H',⟨by have:=HK1.out;omega⟩,⟨by (with_reducible repeat (first|apply Kd.R_alloc|apply Kd.R_drewN|apply Kd.R_drew));exact HQ21.out⟩,⟨by (with_reducible repeat (first|refine blk_drewN ?_ _|refine blk_drew ?_|refine blk_alloc ?_ _));refine blk_far ?_ (by have h_:=Kd.R_ne HO_253001.out BK248.out (by decide);intro e_;exact h_ (by rw [e_];rfl)) _;(with_reducible repeat (first|refine blk_drewN ?_ _|refine blk_drew ?_|refine blk_alloc ?_ _));exact BK248.out⟩,⟨by (with_reducible repeat (first|refine blk_drewN ?_ _|refine blk_drew ?_|refine blk_alloc ?_ _));refine blk_far ?_ (by have h_:=Kd.R_ne HO_253001.out BK252.out (by decide);intro e_;exact h_ (by rw [e_];rfl)) _;(with_reducible repeat (first|refine blk_drewN ?_ _|refine blk_drew ?_|refine blk_alloc ?_ _));exact BK252.out⟩,⟨by repeat (first|(with_reducible first|exact HB.out|apply below_alloc|apply pw_below_drewN|apply below_drew1|refine below_set ?_ GB18.out|refine below_set ?_ GE248.out|refine below_set ?_ GE252.out)|exact HB.out)⟩⟩
        ·rw [if_neg c17] at H;exact absurd H (by simp)
       ·rw [if_neg c16] at H;exact absurd H (by simp)
      ·rw [if_neg c14] at H;have c14b0:decide (x15_1 < (y249.length:Int)) = false:=decide_eq_false c14;clear c14;simp only [Option.some.injEq,Prod.mk.injEq] at H;obtain ⟨rfl,rfl⟩:=H;have hnb22:=NB252_248.out;have hnc22:=NB248_252.out;have hcz23_0:wr.cell? ⟨gb252,0,none⟩ = some (.int .i64 a0):=(blk_cell BK252.out 0).trans rfl;have hcz23_1:wr.cell? ⟨gb252,1,none⟩ = some (u253001):=(blk_cell BK252.out 1).trans rfl;have hfz23_0:=blk_frozen BK252.out 0;have hfz23_1:=blk_frozen BK252.out 1;have hcz24_0:wr.cell? ⟨gb248,0,none⟩ = some (.int .i64 0):=(blk_cell BK248.out 0).trans rfl;have hcz24_1:wr.cell? ⟨gb248,1,none⟩ = some (.slice none 0 0):=(blk_cell BK248.out 1).trans rfl;have hfz24_0:=blk_frozen BK248.out 0;have hfz24_1:=blk_frozen BK248.out 1;obtain ⟨Ao25,co25,eo25⟩:=Kd.R_slice HO_253001.out;subst eo25;go_wp2
       refine bodyPost_ret (results_cell_row rfl _ _ gb248 68 #[.int .i64 a0,.slice Ao25 x253001_1.length co25] (0,0) _ rfl (by (with_reducible repeat (first|refine blk_drewN ?_ _|refine blk_drew ?_|refine blk_alloc ?_ _));refine blk_put (cs:=#[.int .i64 a0,.slice none 0 0]) ?_ 1 _ rfl;(with_reducible repeat (first|refine blk_drewN ?_ _|refine blk_drew ?_|refine blk_alloc ?_ _));refine blk_put (cs:=#[.int .i64 0,.slice none 0 0]) ?_ 0 _ rfl;(with_reducible repeat (first|refine blk_drewN ?_ _|refine blk_drew ?_|refine blk_alloc ?_ _));exact BK248.out) Try.underlying68 rfl (by kernel_rfl)) rfl ?_;exact ⟨_,by first|rfl|(simp [errW_none,errW_some] <;> rfl)|(simp only [← hji4];first|rfl|(simp [errW_none,errW_some] <;> rfl))|(simp [*,errW_none,errW_some] <;> rfl),by (with_reducible repeat (first|apply Kd.R_alloc|apply Kd.R_drewN|apply Kd.R_drew));exact Kd.R_mono (Kd.R_far (p:=⟨gb248,1,none⟩) (Kd.R_far (p:=⟨gb248,0,none⟩) (Kd.R_types HO_253001.out BK248.out (by decide)) (fun _ hk=>hk.2) (.int .i64 a0)) (fun _ hk=>hk.2) (.slice Ao25 x253001_1.length co25)) (fun _ hk=>trivial),by repeat (first|(with_reducible first|exact HB.out|apply below_alloc|apply pw_below_drewN|apply below_drew1|refine below_set ?_ GE248.out|refine below_set ?_ GE252.out)|exact HB.out)⟩
   ·rw [if_neg c6] at H;exact absurd H (by simp)
  ·rw [if_neg c5] at H;exact absurd H (by simp)
 ·rw [if_neg c3] at H;exact absurd H (by simp)


/-! ### impl_maskOf: function 129 -/
def impl_maskOf.l0:Nat → Int → List Int → Int → Int → Option (Int)
 | 0,_,_,_,_=>none
 | k + 1,x3,x6,x7,x8=>if x8 < x7 then (if 0 ≤ x8 then (if x8 < (x6.length:Int) then (if 0 ≤ (rd x6 x8) then (impl_maskOf.l0 k (Go.bits .or .i64 x3 (shl .i64 1 (rd x6 x8))) x6 x7 (wrap64 (x8 + 1))) else (none)) else (none)) else (none)) else (some x3)
def impl_maskOf.f (k:Nat) (l0:List Int):Option (Int):=impl_maskOf.l0 k 0 l0 (l0.length:Int) 0
theorem impl_maskOf.mono_l:∀ k,(∀ y0 y1 y2 y3,LeO (impl_maskOf.l0 k y0 y1 y2 y3) (impl_maskOf.l0 (k + 1) y0 y1 y2 y3))
 | 0=>fun _ _ _ _ r h=>by simp [impl_maskOf.l0] at h
 | k + 1=>by
  have ih0:=impl_maskOf.mono_l k
  ·intro y0 y1 y2 y3;unfold impl_maskOf.l0
   repeat' with_reducible first|exact ih0 _ _ _ _|exact LeO.refl _|exact LeO.none _|refine LeO.ite ?_ ?_|refine LeO.bind ?_ (fun _=>?_)
theorem impl_maskOf.mono:∀ a0 k,LeO (impl_maskOf.f k a0) (impl_maskOf.f (k + 1) a0):=by
 intro a0 k;have ih0:=impl_maskOf.mono_l k;unfold impl_maskOf.f
 repeat' with_reducible first|exact ih0 _ _ _ _|exact LeO.refl _|exact LeO.none _|refine LeO.ite ?_ ?_|refine LeO.bind ?_ (fun _=>?_)
set_option maxHeartbeats 8000000 in
set_option maxRecDepth 100000 in
theorem impl_maskOf.calls (k:Nat) (A0:Option Addr) (c0:Nat) (l0:List Int) (r:Int) (w:World) (hr0:Kd.C (Kd.int .i64) w A0 l0.length l0) (hc0:l0.length ≤ c0) (h:impl_maskOf.f k l0 = some r) :
  Calls Try.prog 129 #[.slice A0 l0.length c0] w fun e w'=>e = .returned (.int .i64 r) ∧ Drawn0 w w':=by
 have HR0:=Aside0.mk hr0;have HC0:=Aside0.mk hc0;clear hr0 hc0;have H:(impl_maskOf.l0 k 0 l0 (l0.length:Int) 0) = some r:=h;clear h;have H':=Aside0.mk H;clear H;go_enter Try.func129,Try.ntmps129;go_wp2
 go_loopg [3,8] k (fun kq v3 v8 w'=>∃ (x3_1:Int) (x8_1:Int),v3 = .int .i64 x3_1 ∧ v8 = .int .i64 x8_1 ∧ Aside0 (impl_maskOf.l0 kq x3_1 l0 (l0.length:Int) x8_1 = some r) ∧ Aside0 (kq ≤ k) ∧ Drawn0 w w')
 case atStart=>exact ⟨(0),(0),(by first|rfl|(simp;done)|(simp [*];done)),(by first|rfl|(simp;done)|(simp [*];done)),H',⟨Nat.le_refl _⟩,by repeat (first|exact Drawn0.refl _|apply Drawn0.step)⟩
 case round =>
  clear H'
  try clear c1
  obtain ⟨x3_1,x8_1,rfl,rfl,HA,HK1,⟨m1,rfl⟩⟩:=hrel
  cases gk with
  | zero=>exact absurd HA.out (by simp [impl_maskOf.l0])
  | succ k1 =>
   have H:=HA.out;clear HA;simp only [impl_maskOf.l0] at H;by_cases c2:x8_1 < (l0.length:Int)
   ·rw [if_pos c2] at H;have c2b0:decide (x8_1 < (l0.length:Int)) = true:=decide_eq_true c2;clear c2;by_cases c3:0 ≤ x8_1
    ·rw [if_pos c3] at H;have c3b0:decide (0 ≤ x8_1) = true:=decide_eq_true c3;clear c3;by_cases c4:x8_1 < (l0.length:Int)
     ·rw [if_pos c4] at H;have c4b0:decide (x8_1 < (l0.length:Int)) = true:=decide_eq_true c4;clear c4;by_cases c5:0 ≤ (rd l0 x8_1)
      ·rw [if_pos c5] at H;have c5b0:=eq_true c5;have c5b1:decide (0 ≤ (rd l0 x8_1)) = true:=decide_eq_true c5;clear c5;obtain ⟨ji6,hji6⟩:∃ j_:Int,(shl .i64 1 (rd l0 x8_1)) = j_:=⟨_,rfl⟩;replace H:(impl_maskOf.l0 k1 (Go.bits .or .i64 x3_1 (ji6)) l0 (l0.length:Int) (wrap64 (x8_1 + 1))) = some r:=by first|(rw [hji6] at H;exact H)|(simp only [hji6] at H ⊢;exact H)
       have hji6_:(IntKind.i64.wrap (1 * 2 ^ min (rd l0 x8_1).toNat 64)) = ji6:=hji6;have hji6z:(rd l0 x8_1) ≤ 64 → (IntKind.i64.wrap (1 * 2 ^ (rd l0 x8_1).toNat)) = ji6:=shl_small hji6;have hji6u:(IntKind.i64.wrap (2 ^ min (rd l0 x8_1).toNat 64)) = ji6:=by have h_:=hji6_;rw [Int.one_mul] at h_;exact h_
       have hji6v:(rd l0 x8_1) ≤ 64 → (IntKind.i64.wrap (2 ^ (rd l0 x8_1).toNat)) = ji6:=fun hle_=>by have h_:=hji6z hle_;rw [Int.one_mul] at h_;exact h_
       have hji6y:(wrap64 (1 * 2 ^ min (rd l0 x8_1).toNat 64)) = ji6:=(i64_w _).symm.trans hji6_;have hji6x:(rd l0 x8_1) ≤ 64 → (wrap64 (1 * 2 ^ (rd l0 x8_1).toNat)) = ji6:=fun h_=>(i64_w _).symm.trans (hji6z h_)
       have H':=Aside0.mk H;clear H;have p255:0 ≤ (x8_1:Int):=of_decide_eq_true ab;have q255:x8_1 < (l0.length:Int):=of_decide_eq_true ab;obtain ⟨ad255,e255,hx255_0⟩:=Kd.at_int HR0.out x8_1 p255 q255;cases e255
       replace p255:=eq_true p255;replace q255:=eq_true q255;go_wp2
       go_roundg k1
       case measure=>have:=HK1.out;omega
       case rel=>exact ⟨(Go.bits .or .i64 x3_1 (ji6)),(wrap64 (x8_1 + 1)),(by first|rfl|(simp;done)|(simp only [← hji6] <;> (first|rfl|simp))|(simp [*];done)),(by first|rfl|(simp;done)|(simp [*];done)),H',⟨by have:=HK1.out;omega⟩,by repeat (first|exact Drawn0.refl _|apply Drawn0.step)⟩
      ·rw [if_neg c5] at H;exact absurd H (by simp)
     ·rw [if_neg c4] at H;exact absurd H (by simp)
    ·rw [if_neg c3] at H;exact absurd H (by simp)
   ·rw [if_neg c2] at H;have c2b0:decide (x8_1 < (l0.length:Int)) = false:=decide_eq_false c2;clear c2;obtain rfl:=Option.some.inj H;go_wp2
    go_ret
    exact ⟨by first|rfl|(simp;done)|(simp [*];done),by repeat (first|exact Drawn0.refl _|apply Drawn0.step)⟩


/-! ### slices_IndexFunc_int_int: function 158 -/
def slices_IndexFunc_int_int.l0:Nat → List Int → (Int → Option (Bool)) → Int → Int → Option (Int)
 | 0,_,_,_,_=>none
 | k + 1,x0,x1,x7,x8=>if x8 < x7 then (if 0 ≤ x8 then (if x8 < (x0.length:Int) then ((x1 (rd x0 x8)).bind fun t257=>(if t257 = true then (some x8) else (slices_IndexFunc_int_int.l0 k x0 x1 x7 (wrap64 (x8 + 1))))) else (none)) else (none)) else (some (-1))
def slices_IndexFunc_int_int.f (k:Nat) (l0:List Int) (a1:(Int → Option (Bool))):Option (Int):=slices_IndexFunc_int_int.l0 k l0 a1 (l0.length:Int) 0
theorem slices_IndexFunc_int_int.mono_l:∀ k,(∀ y0 y1 y2 y3,LeO (slices_IndexFunc_int_int.l0 k y0 y1 y2 y3) (slices_IndexFunc_int_int.l0 (k + 1) y0 y1 y2 y3))
 | 0=>fun _ _ _ _ r h=>by simp [slices_IndexFunc_int_int.l0] at h
 | k + 1=>by
  have ih0:=slices_IndexFunc_int_int.mono_l k
  ·intro y0 y1 y2 y3;unfold slices_IndexFunc_int_int.l0
   repeat' with_reducible first|exact ih0 _ _ _ _|exact LeO.refl _|exact LeO.none _|refine LeO.ite ?_ ?_|refine LeO.bind ?_ (fun _=>?_)
theorem slices_IndexFunc_int_int.mono:∀ a0 a1 k,LeO (slices_IndexFunc_int_int.f k a0 a1) (slices_IndexFunc_int_int.f (k + 1) a0 a1):=by
 intro a0 a1 k;have ih0:=slices_IndexFunc_int_int.mono_l k;unfold slices_IndexFunc_int_int.f
 repeat' with_reducible first|exact ih0 _ _ _ _|exact LeO.refl _|exact LeO.none _|refine LeO.ite ?_ ?_|refine LeO.bind ?_ (fun _=>?_)
theorem slices_IndexFunc_int_int.monop_l {p_ q_:(Int → Option (Bool))} (h_:∀ x0_,LeO (p_ x0_) (q_ x0_)):∀ k,(∀ y0 y2 y3,LeO (slices_IndexFunc_int_int.l0 k y0 p_ y2 y3) (slices_IndexFunc_int_int.l0 k y0 q_ y2 y3))
 | 0=>fun _ _ _ r hz=>by simp [slices_IndexFunc_int_int.l0] at hz
 | k + 1=>by
  have ih0:=slices_IndexFunc_int_int.monop_l h_ k
  ·intro y0 y1 y2;unfold slices_IndexFunc_int_int.l0
   repeat' with_reducible first|exact ih0 _ _ _|exact h_ _|exact LeO.refl _|refine LeO.ite ?_ ?_|refine LeO.bind ?_ (fun _=>?_)
theorem slices_IndexFunc_int_int.mono_p {p_ q_:(Int → Option (Bool))} (h_:∀ x0_,LeO (p_ x0_) (q_ x0_)):∀ a0 k,LeO (slices_IndexFunc_int_int.f k a0 p_) (slices_IndexFunc_int_int.f k a0 q_):=by
 intro a0 k;have ih0:=slices_IndexFunc_int_int.monop_l h_ k;unfold slices_IndexFunc_int_int.f
 repeat' with_reducible first|exact ih0 _ _ _|exact h_ _|exact LeO.refl _|refine LeO.ite ?_ ?_|refine LeO.bind ?_ (fun _=>?_)
set_option maxHeartbeats 8000000 in
set_option maxRecDepth 100000 in
theorem slices_IndexFunc_int_int.calls (k:Nat) (A0:Option Addr) (c0:Nat) (l0:List Int) (a1:(Int → Option (Bool))) (g1_:Nat) (lb1_:Array Value) (eg1_:∀ (args:Array Value) (w:World),(callFunc g1_ args).run Try.prog w = .ok (.enter g1_ args) w) (r:Int) (w:World) (hr0:Kd.C (Kd.int .i64) w A0 l0.length l0) (hc0:l0.length ≤ c0) (hp1:∀ (W:World) (b0_:Int) (r0_:Bool),a1 b0_ = some r0_ → Below w.heap.size w W → Calls Try.prog g1_ (#[.int .i64 b0_] ++ lb1_) W fun e w'=>e = .returned (.bool r0_) ∧ Below W.heap.size W w') (h:slices_IndexFunc_int_int.f k l0 a1 = some r) :
  Calls Try.prog 158 #[.slice A0 l0.length c0,.func (.func g1_) #[] lb1_] w fun e w'=>e = .returned (.int .i64 r) ∧ Below w.heap.size w w':=by
 have HR0:=Aside0.mk hr0;have HC0:=Aside0.mk hc0;clear hr0 hc0;have HP1:=Aside0.mk hp1;clear hp1;have HB:=Aside0.mk (Below.refl w.heap.size w);have H:(slices_IndexFunc_int_int.l0 k l0 a1 (l0.length:Int) 0) = some r:=h;clear h;have H':=Aside0.mk H;clear H;go_enter Try.func158,Try.ntmps158;go_wp2
 go_loopg [8] k (fun kq v8 w'=>∃ (x8_1:Int),v8 = .int .i64 x8_1 ∧ Aside0 (slices_IndexFunc_int_int.l0 kq l0 a1 (l0.length:Int) x8_1 = some r) ∧ Aside0 (kq ≤ k) ∧ Aside0 (Below w.heap.size w w'))
 case atStart=>exact ⟨(0),(by first|rfl|(simp;done)|(simp [*];done)),H',⟨Nat.le_refl _⟩,⟨by repeat (first|(with_reducible first|exact HB.out|apply below_alloc|apply pw_below_drewN|apply below_drew1)|exact HB.out)⟩⟩
 case round =>
  clear H'
  try clear c1
  try clear p1
  try clear p2
  obtain ⟨x8_1,rfl,HA,HK1,HB⟩:=hrel
  cases gk with
  | zero=>exact absurd HA.out (by simp [slices_IndexFunc_int_int.l0])
  | succ k1 =>
   have H:=HA.out;clear HA;simp only [slices_IndexFunc_int_int.l0] at H;by_cases c3:x8_1 < (l0.length:Int)
   ·rw [if_pos c3] at H;have c3b0:decide (x8_1 < (l0.length:Int)) = true:=decide_eq_true c3;clear c3;by_cases c4:0 ≤ x8_1
    ·rw [if_pos c4] at H;have c4b0:decide (0 ≤ x8_1) = true:=decide_eq_true c4;clear c4;by_cases c5:x8_1 < (l0.length:Int)
     ·rw [if_pos c5] at H;have c5b0:decide (x8_1 < (l0.length:Int)) = true:=decide_eq_true c5;clear c5;replace H:=Option.bind_eq_some_iff.mp H;obtain ⟨t257,A60,H⟩:=H;replace H:(if t257 = true then (some x8_1) else (slices_IndexFunc_int_int.l0 k1 l0 a1 (l0.length:Int) (wrap64 (x8_1 + 1)))) = some r:=H;have A6:=Aside0.mk A60;clear A60;by_cases c7:t257 = true
      ·subst c7;have H1:(some x8_1) = some r:=by rw [if_pos rfl] at H;exact H
       clear H;have H:=H1;clear H1;obtain rfl:=Option.some.inj H;have p256:0 ≤ (x8_1:Int):=of_decide_eq_true ab;have q256:x8_1 < (l0.length:Int):=of_decide_eq_true ab;obtain ⟨ad256,e256,hx256_0⟩:=Kd.at_int HR0.out x8_1 p256 q256;cases e256
       replace hx256_0:=(HB.out.cell (World.block_lt_of_cell? w _ hx256_0)).trans hx256_0;replace p256:=eq_true p256;replace q256:=eq_true q256;go_wp2_with (first|((with_reducible refine gate_fn (t:=11) rfl ?_);refine goesFL_ (some 16) rfl rfl eg1_ #[.int .i64 (rd l0 x8_1)] rfl rfl mq ?_;(with_reducible refine (HP1.out _ (rd l0 x8_1) true A6.out ?side1).mono ?_);(case side1=>repeat (first|(with_reducible first|exact HB.out|apply below_alloc|apply pw_below_drewN|apply below_drew1)|exact HB.out));rintro e w8 ⟨rfl,hb⟩;refine ⟨_,rfl,?_⟩;have n0_:=Aside0.mk (below_step bw hb);clear HB;have HB:=n0_;clear n0_;(try clear hb);(try clear hb2);(try clear hk);(try clear hi)))
       go_ret
       exact ⟨by first|rfl|(simp [errW_none,errW_some] <;> rfl)|(simp [*,errW_none,errW_some] <;> rfl),by repeat (first|(with_reducible first|exact HB.out|apply below_alloc|apply pw_below_drewN|apply below_drew1)|exact HB.out)⟩
      ·replace c7:=Bool.eq_false_iff.mpr c7;subst c7;have H1:(slices_IndexFunc_int_int.l0 k1 l0 a1 (l0.length:Int) (wrap64 (x8_1 + 1))) = some r:=by rw [if_neg (show ¬ (false = true) by decide)] at H;exact H
       clear H;have H:=H1;clear H1;have H':=Aside0.mk H;clear H;have p256:0 ≤ (x8_1:Int):=of_decide_eq_true ab;have q256:x8_1 < (l0.length:Int):=of_decide_eq_true ab;obtain ⟨ad256,e256,hx256_0⟩:=Kd.at_int HR0.out x8_1 p256 q256;cases e256
       replace hx256_0:=(HB.out.cell (World.block_lt_of_cell? w _ hx256_0)).trans hx256_0;replace p256:=eq_true p256;replace q256:=eq_true q256;go_wp2_with (first|((with_reducible refine gate_fn (t:=11) rfl ?_);refine goesFL_ (some 16) rfl rfl eg1_ #[.int .i64 (rd l0 x8_1)] rfl rfl mq ?_;(with_reducible refine (HP1.out _ (rd l0 x8_1) false A6.out ?side1).mono ?_);(case side1=>repeat (first|(with_reducible first|exact HB.out|apply below_alloc|apply pw_below_drewN|apply below_drew1)|exact HB.out));rintro e w9 ⟨rfl,hb⟩;refine ⟨_,rfl,?_⟩;have n0_:=Aside0.mk (below_step bw hb);clear HB;have HB:=n0_;clear n0_;(try clear hb);(try clear hb2);(try clear hk);(try clear hi)))
       go_roundg k1
       case measure=>have:=HK1.out;omega
       case rel=>exact ⟨(wrap64 (x8_1 + 1)),(by first|rfl|(simp;done)|(simp [*];done)),H',⟨by have:=HK1.out;omega⟩,⟨by repeat (first|(with_reducible first|exact HB.out|apply below_alloc|apply pw_below_drewN|apply below_drew1)|exact HB.out)⟩⟩
     ·rw [if_neg c5] at H;exact absurd H (by simp)
    ·rw [if_neg c4] at H;exact absurd H (by simp)
   ·rw [if_neg c3] at H;have c3b0:decide (x8_1 < (l0.length:Int)) = false:=decide_eq_false c3;clear c3;obtain rfl:=Option.some.inj H;go_wp2
    go_ret
    exact ⟨by first|rfl|(simp [errW_none,errW_some] <;> rfl)|(simp [*,errW_none,errW_some] <;> rfl),by repeat (first|(with_reducible first|exact HB.out|apply below_alloc|apply pw_below_drewN|apply below_drew1)|exact HB.out)⟩


/-! ### slices_ContainsFunc_int_int: function 132 -/
def slices_ContainsFunc_int_int.f (k:Nat) (l0:List Int) (a1:(Int → Option (Bool))):Option (Bool):=(slices_IndexFunc_int_int.f k l0 a1).bind fun t258=>(some (decide (t258 ≥ 0)))
theorem slices_ContainsFunc_int_int.mono:∀ a0 a1 k,LeO (slices_ContainsFunc_int_int.f k a0 a1) (slices_ContainsFunc_int_int.f (k + 1) a0 a1):=by
 intro a0 a1 k;unfold slices_ContainsFunc_int_int.f
 repeat' with_reducible first|exact slices_IndexFunc_int_int.mono _ _ _|exact LeO.refl _|exact LeO.none _|refine LeO.trans (slices_IndexFunc_int_int.mono _ _ _) (slices_IndexFunc_int_int.mono_p (fun _=>?_) _ _)|refine LeO.ite ?_ ?_|refine LeO.bind ?_ (fun _=>?_)
theorem slices_ContainsFunc_int_int.mono_p {p_ q_:(Int → Option (Bool))} (h_:∀ x0_,LeO (p_ x0_) (q_ x0_)):∀ a0 k,LeO (slices_ContainsFunc_int_int.f k a0 p_) (slices_ContainsFunc_int_int.f k a0 q_):=by
 intro a0 k;unfold slices_ContainsFunc_int_int.f
 repeat' with_reducible first|exact h_ _|refine slices_IndexFunc_int_int.mono_p (fun _=>?_) _ _|exact LeO.refl _|refine LeO.ite ?_ ?_|refine LeO.bind ?_ (fun _=>?_)
set_option maxHeartbeats 8000000 in
set_option maxRecDepth 100000 in
theorem slices_ContainsFunc_int_int.calls (k:Nat) (A0:Option Addr) (c0:Nat) (l0:List Int) (a1:(Int → Option (Bool))) (g1_:Nat) (lb1_:Array Value) (eg1_:∀ (args:Array Value) (w:World),(callFunc g1_ args).run Try.prog w = .ok (.enter g1_ args) w) (r:Bool) (w:World) (hr0:Kd.C (Kd.int .i64) w A0 l0.length l0) (hc0:l0.length ≤ c0) (hp1:∀ (W:World) (b0_:Int) (r0_:Bool),a1 b0_ = some r0_ → Below w.heap.size w W → Calls Try.prog g1_ (#[.int .i64 b0_] ++ lb1_) W fun e w'=>e = .returned (.bool r0_) ∧ Below W.heap.size W w') (h:slices_ContainsFunc_int_int.f k l0 a1 = some r) :
  Calls Try.prog 132 #[.slice A0 l0.length c0,.func (.func g1_) #[] lb1_] w fun e w'=>e = .returned (.bool r) ∧ Below w.heap.size w w':=by
 have HR0:=Aside0.mk hr0;have HC0:=Aside0.mk hc0;clear hr0 hc0;have HP1:=Aside0.mk hp1;clear hp1;have HB:=Aside0.mk (Below.refl w.heap.size w);have H:((slices_IndexFunc_int_int.f k l0 a1).bind fun t258=>(some (decide (t258 ≥ 0)))) = some r:=h;clear h;replace H:=Option.bind_eq_some_iff.mp H;obtain ⟨t258,A30,H⟩:=H;replace H:(some (decide (t258 ≥ 0))) = some r:=H;have A3:=Aside0.mk A30;clear A30;obtain rfl:=Option.some.inj H;go_enter Try.func132,Try.ntmps132;go_wp2_with (first|((with_reducible refine gate_callee (f:=158) rfl ?_);refine goesL_ (some 7) rfl rfl Try.func158 (by kernel_rfl) rfl #[.slice A0 l0.length c0,.func (.func g1_) #[] lb1_] rfl mq ?_;(with_reducible refine (slices_IndexFunc_int_int.calls k _ _ l0 a1 g1_ lb1_ eg1_ t258 _ ?side1 ?side2 ?side3 A3.out).mono ?_);(case side1=>repeat (first|exact HR0.out|(with_reducible refine Kd.C_alloc ?_ _)|(with_reducible refine Kd.C_drewN ?_ _)|(with_reducible refine Kd.C_drew ?_)));(case side2=>exact HC0.out);(case side3=>exact (fun W_ a0_ r0_ hx_ hb_ =>HP1.out W_ a0_ r0_ hx_ (below_step bw hb_) ));rintro e w4 ⟨rfl,hb⟩;refine ⟨_,rfl,?_⟩;have n0_:=Aside0.mk (below_step bw hb);clear HB;have HB:=n0_;clear n0_;(try clear hb);(try clear hb2);(try clear hk);(try clear hi)))
 go_ret
 exact ⟨by first|rfl|(simp [errW_none,errW_some] <;> rfl)|(simp [*,errW_none,errW_some] <;> rfl),by repeat (first|(with_reducible first|exact HB.out|apply below_alloc|apply pw_below_drewN|apply below_drew1)|exact HB.out)⟩


/-! ### impl_votesBy_1_1: function 133 -/
def impl_votesBy_1_1.f (a0:Int) (a1:Int):Option (Bool):=some ((Go.bits .and .i64 a1 a0) == a0)
set_option maxHeartbeats 8000000 in
set_option maxRecDepth 100000 in
theorem impl_votesBy_1_1.calls (a0:Int) (gc1:Nat) (a1:Int) (r:Bool) (w:World) (hb1:w.heap[gc1]? = some (.cells #[.int .i64 a1] 3 (0,0))) (h:impl_votesBy_1_1.f a0 a1 = some r) :
  Calls Try.prog 133 #[.int .i64 a0,.pointer (some ⟨gc1,0,none⟩)] w fun e w'=>e = .returned (.bool r) ∧ Drawn0 w w':=by
 have BK1:=Aside0.mk hb1;clear hb1;have H:(some ((Go.bits .and .i64 a1 a0) == a0)) = some r:=h;clear h;obtain rfl:=Option.some.inj H;have hcz3_0:w.cell? ⟨gc1,0,none⟩ = some (.int .i64 a1):=(blk_cell BK1.out 0).trans rfl;have hfz3_0:=blk_frozen BK1.out 0;go_enter Try.func133,Try.ntmps133;go_wp2
 go_ret
 exact ⟨by first|rfl|(simp;done)|(simp [*];done),by repeat (first|exact Drawn0.refl _|apply Drawn0.step)⟩
theorem impl_votesBy_1_1.enters:∀ (args:Array Value) (w:World),(callFunc 133 args).run Try.prog w = .ok (.enter 133 args) w:=enters_of Try.func133 (by kernel_rfl) rfl


/-! ### impl_votesBy_1: function 131 -/
def impl_votesBy_1.f (k:Nat) (a0:Int) (l1:List Int):Option (Bool):=(slices_ContainsFunc_int_int.f k l1 (fun y0_=>impl_votesBy_1_1.f y0_ a0)).bind fun t260=>(some t260)
theorem impl_votesBy_1.mono:∀ a0 a1 k,LeO (impl_votesBy_1.f k a0 a1) (impl_votesBy_1.f (k + 1) a0 a1):=by
 intro a0 a1 k;unfold impl_votesBy_1.f
 repeat' with_reducible first|exact slices_ContainsFunc_int_int.mono _ _ _|exact LeO.refl _|exact LeO.none _|refine LeO.trans (slices_ContainsFunc_int_int.mono _ _ _) (slices_ContainsFunc_int_int.mono_p (fun _=>?_) _ _)|refine LeO.ite ?_ ?_|refine LeO.bind ?_ (fun _=>?_)
set_option maxHeartbeats 8000000 in
set_option maxRecDepth 100000 in
theorem impl_votesBy_1.calls (k:Nat) (a0:Int) (gc1:Nat) (A1:Option Addr) (c1:Nat) (l1:List Int) (r:Bool) (w:World) (hr1:Kd.C (Kd.int .i64) w A1 l1.length l1) (hc1:l1.length ≤ c1) (hb1:w.heap[gc1]? = some (.cells #[.slice A1 l1.length c1] 40 (0,0))) (h:impl_votesBy_1.f k a0 l1 = some r) :
  Calls Try.prog 131 #[.int .i64 a0,.pointer (some ⟨gc1,0,none⟩)] w fun e w'=>e = .returned (.bool r) ∧ Below w.heap.size w w':=by
 have hmf:∀ (fn:Fn) (first cap:Array Value) (w:World),(Instr.makeFunc fn first cap).run Try.prog w = .ok (.func fn first cap) w:=fun _ _ _ _=>rfl
 have HR1:=Aside0.mk hr1;have HC1:=Aside0.mk hc1;clear hr1 hc1;have BK1:=Aside0.mk hb1;clear hb1;have HB:=Aside0.mk (Below.refl w.heap.size w);have H:((slices_ContainsFunc_int_int.f k l1 (fun y0_=>impl_votesBy_1_1.f y0_ a0)).bind fun t260=>(some t260)) = some r:=h;clear h;replace H:=Option.bind_eq_some_iff.mp H;obtain ⟨t260,A30,H⟩:=H;replace H:(some t260) = some r:=H;have A3:=Aside0.mk A30;clear A30;obtain rfl:=Option.some.inj H;go_enter Try.func131,Try.ntmps131;go_wp2_with (first|((with_reducible refine gate_dst (N:=2) rfl ?_);refine box_event ?hg (N:=2) ?hd (cs:=#[.int .i64 a0]) (t:=3) ?hr ?_;(case hd=>rfl);(case hg=>rfl);(case hr=>first|(go_simp;done)|(go_simp;rfl));intro gb259 hg w4 hbox hb;have n0_:=Aside0.mk (blk_below (g:=gc1) (o:=.cells #[.slice A1 l1.length c1] 40 (0,0)) bk hb);have n1_:=Aside0.mk (below_step bw hb);have n2_:=Aside0.mk (hbox);have n3_:=Aside0.mk ((by rw [hg];exact (below_size bw):w.heap.size ≤ gb259));have n4_:=Aside0.mk ((by rw [hg];exact (below_size bw):w.heap.size ≤ gb259));have n5_:=Aside0.mk ((by rw [hg];exact Nat.ne_of_lt (blk_lt (g:=gc1) (o:=.cells #[.slice A1 l1.length c1] 40 (0,0)) bk):gc1 ≠ gb259));have n6_:=Aside0.mk ((by rw [hg];exact Nat.ne_of_gt (blk_lt (g:=gc1) (o:=.cells #[.slice A1 l1.length c1] 40 (0,0)) bk):gb259 ≠ gc1));clear BK1;clear HB;have BK1:=n0_;have HB:=n1_;have BK259:=n2_;have GW259:=n3_;have GE259:=n4_;have NB1_259:=n5_;have NB259_1:=n6_;clear n0_ n1_ n2_ n3_ n4_ n5_ n6_;clear hb hbox hg;have hnb5:=NB1_259.out;have hnc5:=NB259_1.out;have hcz6_0:w4.cell? ⟨gc1,0,none⟩ = some (.slice A1 l1.length c1):=(blk_cell BK1.out 0).trans rfl;have hfz6_0:=blk_frozen BK1.out 0)|((with_reducible refine gate_callee (f:=132) rfl ?_);refine goesL_ (some 6) rfl rfl Try.func132 (by kernel_rfl) rfl #[.slice A1 l1.length c1,.func (.func 133) #[] #[.pointer (some ⟨gb259,0,none⟩)]] rfl mq ?_;(with_reducible refine (slices_ContainsFunc_int_int.calls k _ _ l1 (fun y0_=>impl_votesBy_1_1.f y0_ a0) 133 #[.pointer (some ⟨gb259,0,none⟩)] impl_votesBy_1_1.enters t260 _ ?side1 ?side2 ?side3 A3.out).mono ?_);(case side1=>repeat (first|exact (Kd.C_below HR1.out HB.out)|(with_reducible refine Kd.C_alloc ?_ _)|(with_reducible refine Kd.C_drewN ?_ _)|(with_reducible refine Kd.C_drew ?_)));(case side2=>exact HC1.out);(case side3=>exact (fun W_ a0_ r0_ hx_ hb_ =>(impl_votesBy_1_1.calls a0_ gb259 a0 r0_ W_  (box_later bk hb_) hx_).mono (fun _ _ h_=>⟨h_.1,h_.2.below⟩)));rintro e w7 ⟨rfl,hb⟩;refine ⟨_,rfl,?_⟩;have n0_:=Aside0.mk (blk_below (g:=gc1) (o:=.cells #[.slice A1 l1.length c1] 40 (0,0)) bk hb);have n1_:=Aside0.mk (blk_below (g:=gb259) (o:=.cells #[.int .i64 a0] 3 (0,0)) bk hb);have n2_:=Aside0.mk (below_step bw hb);clear BK1;clear BK259;clear HB;have BK1:=n0_;have BK259:=n1_;have HB:=n2_;clear n0_ n1_ n2_;(try clear hb);(try clear hb2);(try clear hk);(try clear hi)))
 go_ret
 exact ⟨by first|rfl|(simp [errW_none,errW_some] <;> rfl)|(simp [*,errW_none,errW_some] <;> rfl),by repeat (first|(with_reducible first|exact HB.out|apply below_alloc|apply pw_below_drewN|apply below_drew1|refine below_set ?_ GE1.out|refine below_set ?_ GE259.out)|exact HB.out)⟩
theorem impl_votesBy_1.enters:∀ (args:Array Value) (w:World),(callFunc 131 args).run Try.prog w = .ok (.enter 131 args) w:=enters_of Try.func131 (by kernel_rfl) rfl


/-! ### impl_votesBy: function 97 -/
def impl_votesBy.l0:Nat → Int → List (List Int) → Int → Int → List Int → Option (Int × List Bool)
 | 0,_,_,_,_,_=>none
 | k + 1,x0,x9,x10,x11,x266000=>if x11 < x10 then (if 0 ≤ x11 then (if x11 < (x9.length:Int) then ((impl_maskOf.f k (rd_LI x9 x11)).bind fun t267=>(if x266000.length < 17592186044416 then (impl_votesBy.l0 k x0 x9 x10 (wrap64 (x11 + 1)) (x266000 ++ [t267])) else (none))) else (none)) else (none)) else ((impl_votesOf.f k x0 (fun y0_=>impl_votesBy_1.f k y0_ x266000)).bind fun bt271=>(some (bt271.1,bt271.2)))
def impl_votesBy.f (k:Nat) (a0:Int) (l1:List (List Int)):Option (Int × List Bool):=impl_votesBy.l0 k a0 l1 (l1.length:Int) 0 (([]:List Int))
theorem impl_votesBy.mono_l:∀ k,(∀ y0 y1 y2 y3 y4,LeO (impl_votesBy.l0 k y0 y1 y2 y3 y4) (impl_votesBy.l0 (k + 1) y0 y1 y2 y3 y4))
 | 0=>fun _ _ _ _ _ r h=>by simp [impl_votesBy.l0] at h
 | k + 1=>by
  have ih0:=impl_votesBy.mono_l k
  ·intro y0 y1 y2 y3 y4;unfold impl_votesBy.l0
   repeat' with_reducible first|exact ih0 _ _ _ _ _|exact impl_maskOf.mono _ _|exact impl_votesBy_1.mono _ _ _|exact impl_votesOf.mono _ _ _|exact LeO.refl _|exact LeO.none _|refine LeO.trans (impl_votesOf.mono _ _ _) (impl_votesOf.mono_p (fun _=>?_) _ _)|refine LeO.ite ?_ ?_|refine LeO.bind ?_ (fun _=>?_)
theorem impl_votesBy.mono:∀ a0 a1 k,LeO (impl_votesBy.f k a0 a1) (impl_votesBy.f (k + 1) a0 a1):=by
 intro a0 a1 k;have ih0:=impl_votesBy.mono_l k;unfold impl_votesBy.f
 repeat' with_reducible first|exact ih0 _ _ _ _ _|exact impl_maskOf.mono _ _|exact impl_votesBy_1.mono _ _ _|exact impl_votesOf.mono _ _ _|exact LeO.refl _|exact LeO.none _|refine LeO.trans (impl_votesOf.mono _ _ _) (impl_votesOf.mono_p (fun _=>?_) _ _)|refine LeO.ite ?_ ?_|refine LeO.bind ?_ (fun _=>?_)
set_option maxHeartbeats 8000000 in
set_option maxRecDepth 100000 in
theorem impl_votesBy.calls (k:Nat) (a0:Int) (A1:Option Addr) (c1:Nat) (l1:List (List Int)) (r1:Int) (r2:List Bool) (w:World) (hr1:Kd.C (Kd.slice 3 (Kd.int .i64)) w A1 l1.length l1) (hc1:l1.length ≤ c1) (h:impl_votesBy.f k a0 l1 = some (r1,r2)) :
  Calls Try.prog 97 #[.int .i64 a0,.slice A1 l1.length c1] w fun e w'=>∃ v1_:Value,e = .returned (.agg #[.int .i64 r1,v1_]) ∧ Kd.R Kd.bool 4 w' w.heap.size (fun _=>True) v1_ r2 ∧ Below w.heap.size w w':=by
 have hmf:∀ (fn:Fn) (first cap:Array Value) (w:World),(Instr.makeFunc fn first cap).run Try.prog w = .ok (.func fn first cap) w:=fun _ _ _ _=>rfl
 have hu68:=Try.underlying68;have HR1:=Aside0.mk hr1;have HC1:=Aside0.mk hc1;clear hr1 hc1;have HB:=Aside0.mk (Below.refl w.heap.size w);have H:(impl_votesBy.l0 k a0 l1 (l1.length:Int) 0 (([]:List Int))) = some (r1,r2):=h;clear h;obtain ⟨y262,hy262⟩:∃ y_:List Int,y_ = (([]:List Int)):=⟨_,rfl⟩;replace H:(impl_votesBy.l0 k a0 l1 (l1.length:Int) 0 y262) = some (r1,r2):=by first|(rw [hy262];with_reducible exact H)|(have H2_:=(Option.bind_some _ _).symm.trans H;rw [hy262];with_reducible exact H2_)|(have H2_:=(Option.bind_some _ _).symm.trans H;with_reducible exact H2_)|with_reducible exact H|(rw [hy262];exact H)|exact H
 have Ny262:=Aside0.mk hy262;clear hy262;have H':=Aside0.mk H;clear H;go_enter Try.func97,Try.ntmps97;go_wp2_with (first|((with_reducible refine gate_dst (N:=4) rfl ?_);refine box_event ?hg (N:=4) ?hd (cs:=#[.int .i64 0,.slice none 0 0]) (t:=68) ?hr ?_;(case hd=>rfl);(case hg=>rfl);(case hr=>first|(go_simp;done)|(go_simp;rfl));intro gb261 hg w3 hbox hb;have n0_:=Aside0.mk (below_step bw hb);have n1_:=Aside0.mk (hbox);have n2_:=Aside0.mk ((by rw [hg];exact (below_size bw):w.heap.size ≤ gb261));have n3_:=Aside0.mk ((by rw [hg];exact (below_size bw):w.heap.size ≤ gb261));clear HB;have HB:=n0_;have BK261:=n1_;have GW261:=n2_;have GE261:=n3_;clear n0_ n1_ n2_ n3_;clear hb hbox hg)|((with_reducible refine gate_dst (N:=8) rfl ?_);refine Kd.R_lit (Kd.int .i64) _ 3 ?hg (N:=8) ?hd (xs:=([]:List Int)) (inner:=[]) (ok:=fun _=>True) (okp:=fun _=>True) ?hr ?hp (fun _ hk=>hk) trivial (Below.refl _ _) (Nat.le_refl _) (by simp) ?_;(case hd=>rfl);(case hg=>rfl);(case hr=>first|(go_simp;done)|(go_simp;rfl));(case hp=>exact (Reps.none _ _));intro v263 w4 ho5 hb hg_ hnew_;clear hg_ hnew_;(first|rw [← Ny262.out] at ho5|(simp only [Int.reduceToNat] at ho5;rw [← Ny262.out] at ho5));have n0_:=Aside0.mk (Kd.R_lower ho5 (below_size bw));have n1_:=Aside0.mk (blk_below (g:=gb261) (o:=.cells #[.int .i64 0,.slice none 0 0] 68 (0,0)) bk hb);have n2_:=Aside0.mk (below_step bw hb);clear BK261;clear HB;have HO264:=n0_;have BK261:=n1_;have HB:=n2_;clear n0_ n1_ n2_;clear hb ho5)|((with_reducible refine gate_dst (N:=5) rfl ?_);refine box_event ?hg (N:=5) ?hd (cs:=#[.slice none 0 0]) (t:=40) ?hr ?_;(case hd=>rfl);(case hg=>rfl);(case hr=>first|(go_simp;done)|(go_simp;rfl));intro gb265 hg w6 hbox hb;have n0_:=Aside0.mk (Kd.R_below (by (with_reducible repeat (first|apply Kd.R_alloc|apply Kd.R_drewN|apply Kd.R_drew));exact HO264.out) hb);have n1_:=Aside0.mk (blk_below (g:=gb261) (o:=.cells #[.int .i64 0,.slice none 0 0] 68 (0,0)) bk hb);have n2_:=Aside0.mk (below_step bw hb);have n3_:=Aside0.mk (hbox);have n4_:=Aside0.mk ((by rw [hg];exact (below_size bw):w.heap.size ≤ gb265));have n5_:=Aside0.mk ((by rw [hg];exact (below_size bw):w.heap.size ≤ gb265));have n6_:=Aside0.mk ((by rw [hg];exact Nat.ne_of_lt (blk_lt (g:=gb261) (o:=.cells #[.int .i64 0,.slice none 0 0] 68 (0,0)) bk):gb261 ≠ gb265));have n7_:=Aside0.mk ((by rw [hg];exact Nat.ne_of_gt (blk_lt (g:=gb261) (o:=.cells #[.int .i64 0,.slice none 0 0] 68 (0,0)) bk):gb265 ≠ gb261));clear HO264;clear BK261;clear HB;have HO264:=n0_;have BK261:=n1_;have HB:=n2_;have BK265:=n3_;have GW265:=n4_;have GE265:=n5_;have NB261_265:=n6_;have NB265_261:=n7_;clear n0_ n1_ n2_ n3_ n4_ n5_ n6_ n7_;clear hb hbox hg;obtain ⟨Ao7,co7,eo7⟩:=Kd.R_slice HO264.out;subst eo7;have hnb8:=NB265_261.out;have hnc8:=NB261_265.out;have hcz9_0:w6.cell? ⟨gb265,0,none⟩ = some (.slice none 0 0):=(blk_cell BK265.out 0).trans rfl;have hfz9_0:=blk_frozen BK265.out 0))
 go_loopg [11] k (fun kq v11 w'=>∃ (x11_1:Int) (x266000_1:List Int) (u266000:Value),v11 = .int .i64 x11_1 ∧ Aside0 (impl_votesBy.l0 kq a0 l1 (l1.length:Int) x11_1 x266000_1 = some (r1,r2)) ∧ Aside0 (kq ≤ k) ∧ Aside0 (Kd.R (Kd.int .i64) 3 w' w.heap.size (fun _=>True) u266000 x266000_1) ∧ Aside0 (w'.heap[gb261]? = some (.cells #[.int .i64 0,(.slice none 0 0)] 68 (0,0))) ∧ Aside0 (w'.heap[gb265]? = some (.cells #[u266000] 40 (0,0))) ∧ Aside0 (Below w.heap.size w w'))
 case atStart=>exact ⟨(0),(y262),(.slice Ao7 y262.length co7),(by first|rfl|(simp;done)|(simp [*];done)),H',⟨Nat.le_refl _⟩,⟨by (with_reducible repeat (first|apply Kd.R_alloc|apply Kd.R_drewN|apply Kd.R_drew));exact Kd.R_mono (Kd.R_far (p:=⟨gb265,0,none⟩) (Kd.R_types HO264.out BK265.out (by decide)) (fun _ hk=>hk.2) (.slice Ao7 y262.length co7)) (fun _ hk=>trivial)⟩,⟨by (with_reducible repeat (first|refine blk_drewN ?_ _|refine blk_drew ?_|refine blk_alloc ?_ _));refine blk_far ?_ NB261_265.out _;(with_reducible repeat (first|refine blk_drewN ?_ _|refine blk_drew ?_|refine blk_alloc ?_ _));exact BK261.out⟩,⟨by (with_reducible repeat (first|refine blk_drewN ?_ _|refine blk_drew ?_|refine blk_alloc ?_ _));refine blk_put (cs:=#[.slice none 0 0]) ?_ 0 _ rfl;(with_reducible repeat (first|refine blk_drewN ?_ _|refine blk_drew ?_|refine blk_alloc ?_ _));exact BK265.out⟩,⟨by repeat (first|(with_reducible first|exact HB.out|apply below_alloc|apply pw_below_drewN|apply below_drew1|refine below_set ?_ GE261.out|refine below_set ?_ GE265.out)|exact HB.out)⟩⟩
 case round =>
  clear H'
  try clear c1
  try clear p2
  try clear c8
  try clear c9
  try clear hcz9_0
  try clear hfz9_0
  obtain ⟨x11_1,x266000_1,u266000,rfl,HA,HK1,HO_266000,BK261,BK265,HB⟩:=hrel
  cases gk with
  | zero=>exact absurd HA.out (by simp [impl_votesBy.l0])
  | succ k1 =>
   have H:=HA.out;clear HA;simp only [impl_votesBy.l0] at H;by_cases c10:x11_1 < (l1.length:Int)
   ·rw [if_pos c10] at H;have c10b0:decide (x11_1 < (l1.length:Int)) = true:=decide_eq_true c10;clear c10;by_cases c11:0 ≤ x11_1
    ·rw [if_pos c11] at H;have c11b0:decide (0 ≤ x11_1) = true:=decide_eq_true c11;clear c11;by_cases c12:x11_1 < (l1.length:Int)
     ·rw [if_pos c12] at H;have c12b0:decide (x11_1 < (l1.length:Int)) = true:=decide_eq_true c12;clear c12;replace H:=Option.bind_eq_some_iff.mp H;obtain ⟨t267,A130,H⟩:=H;replace H:(if x266000_1.length < 17592186044416 then (impl_votesBy.l0 k1 a0 l1 (l1.length:Int) (wrap64 (x11_1 + 1)) (x266000_1 ++ [t267])) else (none)) = some (r1,r2):=H;have A13:=Aside0.mk A130;clear A130;by_cases c14:x266000_1.length < 17592186044416
      ·rw [if_pos c14] at H;have LMc14:=Aside0.mk c14;clear c14;obtain ⟨y268,hy268⟩:∃ y_:List Int,y_ = (x266000_1 ++ [t267]):=⟨_,rfl⟩;replace H:(impl_votesBy.l0 k1 a0 l1 (l1.length:Int) (wrap64 (x11_1 + 1)) y268) = some (r1,r2):=by first|(rw [hy268];with_reducible exact H)|(have H2_:=(Option.bind_some _ _).symm.trans H;rw [hy268];with_reducible exact H2_)|(have H2_:=(Option.bind_some _ _).symm.trans H;with_reducible exact H2_)|with_reducible exact H|(rw [hy268];exact H)|exact H
       have Ny268:=Aside0.mk hy268;clear hy268;have H':=Aside0.mk H;clear H;have p266:0 ≤ (x11_1:Int):=of_decide_eq_true ab;have q266:x11_1 < (l1.length:Int):=of_decide_eq_true ab;obtain ⟨ad266,A266_0,c266_0,e266,hx266_0,hl266_0,hi266_0⟩:=at_LI HR1.out x11_1 p266 q266;cases e266
       replace hx266_0:=(HB.out.cell (World.block_lt_of_cell? w _ hx266_0)).trans hx266_0;have HR266_0:=Aside0.mk hi266_0;have HC266_0:=Aside0.mk hl266_0;clear hi266_0 hl266_0;replace p266:=eq_true p266;replace q266:=eq_true q266
       try go_wp2
       have n0_:=Aside0.mk (Kd.R_drew HO_266000.out);have n1_:=Aside0.mk (blk_drew BK261.out);have n2_:=Aside0.mk (blk_drew BK265.out);have n3_:=Aside0.mk (below_drew1 HB.out);clear HO_266000;clear BK261;clear BK265;clear HB;have HO_266000:=n0_;have BK261:=n1_;have BK265:=n2_;have HB:=n3_;clear n0_ n1_ n2_ n3_;refine start_ (n:=6) (S:=fun w'=>w'.cell? ⟨gb265,0,none⟩ = some (u266000)) (ds:=[5]) #[false,false,false,false,false,false] (by kernel_rfl) rfl rfl ((blk_cell BK265.out 0).trans rfl) (fun hHeld=>?_);generalize wr.drew = w15 at HO_266000 BK261 BK265 HB hHeld ⊢
       refine pure_ (i:=1) (N:=some 16) (v:=?_) (a':=?_) #[false,true,false,false,false,false] rfl rfl (by kernel_rfl) (fun _ _ _ h=>h) (Or.inl ⟨by rfl,?_⟩) ?_ ?_;rotate_left
       ·intro w';go_simp
        with_reducible rfl
       rotate_left
       ·simp only [Act.put,sA,sZ,sS,i64_w,i32_w];rfl
       refine take_ (i:=0) (N:=some 15) (v:=?_) (a':=?_) #[true,true,false,false,false,false] rfl rfl (by kernel_rfl) (fun _ _ _ h=>h) (Or.inl ⟨by rfl,?_⟩) hHeld ?_ ?_;rotate_left
       ·intro w' s0;go_simp
        with_reducible rfl
       rotate_left
       ·simp only [Act.put,sA,sZ,sS,i64_w,i32_w];rfl
       refine one_ (i:=2) (N:=some 17) #[true,true,true,false,false,false] rfl rfl (by kernel_rfl) (by decide) (fun K hK=>?_);refine goes_ Try.func129 (by kernel_rfl) rfl #[.slice A266_0 (rd_LI l1 x11_1).length c266_0] (by rfl) rfl rfl mq ?_
       with_reducible refine (impl_maskOf.calls k1 _ _ (rd_LI l1 x11_1) t267 _ ?side1 ?side2 A13.out).mono ?_
       (case side1=>repeat (first|exact (Kd.C_below HR266_0.out HB.out)|(with_reducible refine Kd.C_alloc ?_ _)|(with_reducible refine Kd.C_drewN ?_ _)|(with_reducible refine Kd.C_drew ?_)))
       (case side2=>exact HC266_0.out)
       rintro e w' ⟨rfl,⟨nd,rfl⟩⟩
       refine ⟨_,rfl,?_⟩;refine hK.out _ _ ((blk_cell BK265.out 0).trans rfl) (fun hHeld=>?_);clear hK K;refine norm_ (a':=?_) ?_ ?_;rotate_left
       ·show Act.put _ (some 17) _ = _;simp only [Act.put,sA,sZ,sS,i64_w,i32_w];rfl
       refine one_ (i:=3) (N:=some 18) #[true,true,true,true,false,false] rfl rfl (by kernel_rfl) (by decide) (fun K hK=>?_);refine value_ (w1:=?_) (v:=?_) (by rfl) rfl ?_ ?_;rotate_left 2
       ·go_simp
        constructor
        ·rfl
        ·rfl
       refine hK.out _ _ ((blk_cell (blk_alloc BK265.out _) 0).trans rfl) (fun hHeld=>?_);clear hK K;refine norm_ (a':=?_) ?_ ?_;rotate_left
       ·show Act.put _ (some 18) _ = _;simp only [Act.put,sA,sZ,sS,i64_w,i32_w];rfl
       refine one_ (i:=4) (N:=some 19) #[true,true,true,true,true,false] rfl rfl (by kernel_rfl) (by decide) (fun K hK=>?_);refine Kd.R_append_step (Kd.int .i64) (w0:=w) w.heap.size (by rfl) (.tmp 15) (.tmp 18) 40 3 (.int .i64 0) 8 rfl Try.underlying40 info3 rfl (by decide) (by omega) u266000 x266000_1 t267 [.int .i64 t267] (fun _=>True) (fun _=>False) rfl rfl ?aP (fun _ hk=>hk.elim) ?aF ?aO ?aB ?aS ?aL ?_;(case aP=>exact rfl)
       (case aB=>exact bw)
       (case aF=>exact (fun _ _=>trivial))
       (case aO=>exact (by (with_reducible repeat (first|apply Kd.R_alloc|apply Kd.R_drewN|apply Kd.R_drew));exact HO_266000.out))
       (case aS=>exact (below_size bw))
       (case aL=>have:=LMc14.out;omega)
       intro v269 w16 ho hb hg hat;rw [← Ny268.out] at ho;have n0_:=Aside0.mk (blk_grown (g:=gb261) (o:=.cells #[.int .i64 0,.slice none 0 0] 68 (0,0)) bk hg (Kd.R_ne HO_266000.out BK261.out (by decide)));have n1_:=Aside0.mk (blk_grown (g:=gb265) (o:=.cells #[u266000] 40 (0,0)) bk hg (Kd.R_ne HO_266000.out BK265.out (by decide)));have n2_:=Aside0.mk (hb);have n3_:=Aside0.mk (ho);clear BK261;clear BK265;clear HB;clear HO_266000;have BK261:=n0_;have BK265:=n1_;have HB:=n2_;have HO270:=n3_;clear n0_ n1_ n2_ n3_;clear ho hb hg hat;obtain ⟨Ao17,co17,eo17⟩:=Kd.R_slice HO270.out;(first|subst eo17|(injection eo17 with f1_ f2_ f3_;have f4_:=f1_.symm;have f5_:=f3_.symm;clear f1_ f2_ f3_;subst f4_;subst f5_))
       refine hK.out _ _ ((blk_cell BK265.out 0).trans rfl) (fun hHeld=>?_);clear hK K;refine norm_ (a':=?_) ?_ ?_;rotate_left
       ·show Act.put _ (some 19) _ = _;simp only [Act.put,sA,sZ,sS,i64_w,i32_w];rfl
       refine last_ (i:=5) (N:=none) #[true,true,true,true,true,true] rfl rfl (by kernel_rfl) (by decide) (fun K hK=>?_);have hs18:w16.cell? ⟨gb265,0,none⟩ = some (u266000):=(blk_cell BK265.out 0).trans rfl;have hfs18:=blk_frozen BK265.out 0;have hns18_0:=NB261_265.out;have hms18_0:=NB265_261.out;refine skip_ (w1:=?_) (by rfl) rfl ?_ ?_;rotate_left
       ·go_simp
        rfl
       refine hK.out _ _ ?_;clear hK K;refine done_ (by kernel_rfl) ?_
       try go_wp2
       go_roundg k1
       case measure=>have:=HK1.out;omega
       case rel=>exact ⟨(wrap64 (x11_1 + 1)),(y268),(.slice Ao17 y268.length co17),(by first|rfl|(simp;done)|(simp [*];done)),H',⟨by have:=HK1.out;omega⟩,⟨by (with_reducible repeat (first|apply Kd.R_alloc|apply Kd.R_drewN|apply Kd.R_drew));exact Kd.R_mono (Kd.R_far (p:=⟨gb265,0,none⟩) (Kd.R_types HO270.out BK265.out (by decide)) (fun _ hk=>hk.2) (.slice Ao17 y268.length co17)) (fun _ hk=>trivial)⟩,⟨by (with_reducible repeat (first|refine blk_drewN ?_ _|refine blk_drew ?_|refine blk_alloc ?_ _));refine blk_far ?_ NB261_265.out _;(with_reducible repeat (first|refine blk_drewN ?_ _|refine blk_drew ?_|refine blk_alloc ?_ _));exact BK261.out⟩,⟨by (with_reducible repeat (first|refine blk_drewN ?_ _|refine blk_drew ?_|refine blk_alloc ?_ _));refine blk_put (cs:=#[u266000]) ?_ 0 _ rfl;(with_reducible repeat (first|refine blk_drewN ?_ _|refine blk_drew ?_|refine blk_alloc ?_ _));exact BK265.out⟩,⟨by repeat (first|(with_reducible first|exact HB.out|apply below_alloc|apply pw_below_drewN|apply below_drew1|refine below_set ?_ GE261.out|refine below_set ?_ GE265.out)|exact HB.out)⟩⟩
      ·rw [if_neg c14] at H;exact absurd H (by simp)
     ·rw [if_neg c12] at H;exact absurd H (by simp)
    ·rw [if_neg c11] at H;exact absurd H (by simp)
   ·rw [if_neg c10] at H;have c10b0:decide (x11_1 < (l1.length:Int)) = false:=decide_eq_false c10;clear c10;replace H:=Option.bind_eq_some_iff.mp H;obtain ⟨⟨t271,t272⟩,A190,H⟩:=H;replace H:(some (t271,t272)) = some (r1,r2):=H;have A19:=Aside0.mk A190;clear A190;simp only [Option.some.injEq,Prod.mk.injEq] at H;obtain ⟨rfl,rfl⟩:=H;obtain ⟨Ao20,co20,eo20⟩:=Kd.R_slice HO_266000.out;subst eo20;go_wp2_with (first|((with_reducible refine gate_callee (f:=71) rfl ?_);refine goesL_ (some 23) rfl rfl Try.func71 (by kernel_rfl) rfl #[.int .i64 a0,.func (.func 131) #[] #[.pointer (some ⟨gb265,0,none⟩)]] rfl mq ?_;(with_reducible refine (impl_votesOf.calls k1 a0 (fun y0_=>impl_votesBy_1.f k1 y0_ x266000_1) 131 #[.pointer (some ⟨gb265,0,none⟩)] impl_votesBy_1.enters t271 t272 _ ?side1 A19.out).mono ?_);(case side1=>exact (fun W_ a0_ r0_ hx_ hb_ =>(impl_votesBy_1.calls k1 a0_ gb265 _ _ x266000_1 r0_ W_  (Kd.C_below (by repeat (first|exact (Kd.R_reads' HO_266000.out).2.2|(with_reducible refine Kd.C_alloc ?_ _)|(with_reducible refine Kd.C_drewN ?_ _)|(with_reducible refine Kd.C_drew ?_))) hb_) (by exact (Kd.R_reads' HO_266000.out).2.1) (box_later bk hb_) hx_).mono (fun _ _ h_=>h_)));rintro e w21 ⟨v273,rfl,ho0,hb⟩;refine ⟨_,rfl,?_⟩;have n0_:=Aside0.mk (Kd.R_below (by (with_reducible repeat (first|apply Kd.R_alloc|apply Kd.R_drewN|apply Kd.R_drew));exact HO_266000.out) hb);have n1_:=Aside0.mk (Kd.R_lower ho0 (below_size bw));have n2_:=Aside0.mk (blk_below (g:=gb261) (o:=.cells #[.int .i64 0,.slice none 0 0] 68 (0,0)) bk hb);have n3_:=Aside0.mk (blk_below (g:=gb265) (o:=.cells #[.slice Ao20 x266000_1.length co20] 40 (0,0)) bk hb);have n4_:=Aside0.mk (below_step bw hb);clear HO_266000;clear BK261;clear BK265;clear HB;have HO_266000:=n0_;have HO274:=n1_;have BK261:=n2_;have BK265:=n3_;have HB:=n4_;clear n0_ n1_ n2_ n3_ n4_;(try clear hb);(try clear hb2);(try clear hk);(try clear hi);(try clear ho0);have hnb22:=NB261_265.out;have hnc22:=NB265_261.out;have hcz23_0:w21.cell? ⟨gb261,0,none⟩ = some (.int .i64 0):=(blk_cell BK261.out 0).trans rfl;have hcz23_1:w21.cell? ⟨gb261,1,none⟩ = some (.slice none 0 0):=(blk_cell BK261.out 1).trans rfl;have hfz23_0:=blk_frozen BK261.out 0;have hfz23_1:=blk_frozen BK261.out 1;obtain ⟨Ao24,co24,eo24⟩:=Kd.R_slice HO274.out;subst eo24))
    refine bodyPost_ret (results_cell_row rfl _ _ gb261 68 #[.int .i64 t271,.slice Ao24 t272.length co24] (0,0) _ rfl (by (with_reducible repeat (first|refine blk_drewN ?_ _|refine blk_drew ?_|refine blk_alloc ?_ _));refine blk_put (cs:=#[.int .i64 t271,.slice none 0 0]) ?_ 1 _ rfl;(with_reducible repeat (first|refine blk_drewN ?_ _|refine blk_drew ?_|refine blk_alloc ?_ _));refine blk_put (cs:=#[.int .i64 0,.slice none 0 0]) ?_ 0 _ rfl;(with_reducible repeat (first|refine blk_drewN ?_ _|refine blk_drew ?_|refine blk_alloc ?_ _));exact BK261.out) Try.underlying68 rfl (by kernel_rfl)) rfl ?_;exact ⟨_,by first|rfl|(simp [errW_none,errW_some] <;> rfl)|(simp [*,errW_none,errW_some] <;> rfl),by (with_reducible repeat (first|apply Kd.R_alloc|apply Kd.R_drewN|apply Kd.R_drew));exact Kd.R_mono (Kd.R_far (p:=⟨gb261,1,none⟩) (Kd.R_far (p:=⟨gb261,0,none⟩) (Kd.R_types HO274.out BK261.out (by decide)) (fun _ hk=>hk.2) (.int .i64 t271)) (fun _ hk=>hk.2) (.slice Ao24 t272.length co24)) (fun _ hk=>trivial),by repeat (first|(with_reducible first|exact HB.out|apply below_alloc|apply pw_below_drewN|apply below_drew1|refine below_set ?_ GE261.out|refine below_set ?_ GE265.out)|exact HB.out)⟩


/-! ### impl_Game_votes: function 49 -/
def impl_Game_votes.f (k:Nat) (a0_0:Int) (l0_1:List (List Int)):Option (Int × List Bool):=(impl_votesBy.f k a0_0 l0_1).bind fun bt277=>(some (bt277.1,bt277.2))
theorem impl_Game_votes.mono:∀ a0 a1 k,LeO (impl_Game_votes.f k a0 a1) (impl_Game_votes.f (k + 1) a0 a1):=by
 intro a0 a1 k;unfold impl_Game_votes.f
 repeat' with_reducible first|exact impl_votesBy.mono _ _ _|exact LeO.refl _|exact LeO.none _|refine LeO.ite ?_ ?_|refine LeO.bind ?_ (fun _=>?_)
set_option maxHeartbeats 8000000 in
set_option maxRecDepth 100000 in
theorem impl_Game_votes.calls (k:Nat) (a0_0:Int) (A0_1:Option Addr) (c0_1:Nat) (l0_1:List (List Int)) (r1:Int) (r2:List Bool) (w:World) (hr0_1:Kd.C (Kd.slice 3 (Kd.int .i64)) w A0_1 l0_1.length l0_1) (hc0_1:l0_1.length ≤ c0_1) (h:impl_Game_votes.f k a0_0 l0_1 = some (r1,r2)) :
  Calls Try.prog 49 #[.agg #[.int .i64 a0_0,.slice A0_1 l0_1.length c0_1]] w fun e w'=>∃ v1_:Value,e = .returned (.agg #[.int .i64 r1,v1_]) ∧ Kd.R Kd.bool 4 w' w.heap.size (fun _=>True) v1_ r2 ∧ Below w.heap.size w w':=by
 have hu28:=Try.underlying28;have hu68:=Try.underlying68;have HR0_1:=Aside0.mk hr0_1;have HC0_1:=Aside0.mk hc0_1;clear hr0_1 hc0_1;have HB:=Aside0.mk (Below.refl w.heap.size w);have H:((impl_votesBy.f k a0_0 l0_1).bind fun bt277=>(some (bt277.1,bt277.2))) = some (r1,r2):=h;clear h;replace H:=Option.bind_eq_some_iff.mp H;obtain ⟨⟨t277,t278⟩,A20,H⟩:=H;replace H:(some (t277,t278)) = some (r1,r2):=H;have A2:=Aside0.mk A20;clear A20;simp only [Option.some.injEq,Prod.mk.injEq] at H;obtain ⟨rfl,rfl⟩:=H;go_enter Try.func49,Try.ntmps49;go_wp2_with (first|((with_reducible refine gate_dst (N:=1) rfl ?_);refine box_event ?hg (N:=1) ?hd (cs:=#[.int .i64 a0_0,.slice A0_1 l0_1.length c0_1]) (t:=28) ?hr ?_;(case hd=>rfl);(case hg=>rfl);(case hr=>first|(go_simp;done)|(go_simp;rfl));intro gb275 hg w3 hbox hb;have n0_:=Aside0.mk (below_step bw hb);have n1_:=Aside0.mk (hbox);have n2_:=Aside0.mk ((by rw [hg];exact (below_size bw):w.heap.size ≤ gb275));have n3_:=Aside0.mk ((by rw [hg];exact (below_size bw):w.heap.size ≤ gb275));clear HB;have HB:=n0_;have BK275:=n1_;have GW275:=n2_;have GE275:=n3_;clear n0_ n1_ n2_ n3_;clear hb hbox hg)|((with_reducible refine gate_dst (N:=2) rfl ?_);refine box_event ?hg (N:=2) ?hd (cs:=#[.int .i64 0,.slice none 0 0]) (t:=68) ?hr ?_;(case hd=>rfl);(case hg=>rfl);(case hr=>first|(go_simp;done)|(go_simp;rfl));intro gb276 hg w4 hbox hb;have n0_:=Aside0.mk (blk_below (g:=gb275) (o:=.cells #[.int .i64 a0_0,.slice A0_1 l0_1.length c0_1] 28 (0,0)) bk hb);have n1_:=Aside0.mk (below_step bw hb);have n2_:=Aside0.mk (hbox);have n3_:=Aside0.mk ((by rw [hg];exact (below_size bw):w.heap.size ≤ gb276));have n4_:=Aside0.mk ((by rw [hg];exact (below_size bw):w.heap.size ≤ gb276));have n5_:=Aside0.mk ((by rw [hg];exact Nat.ne_of_lt (blk_lt (g:=gb275) (o:=.cells #[.int .i64 a0_0,.slice A0_1 l0_1.length c0_1] 28 (0,0)) bk):gb275 ≠ gb276));have n6_:=Aside0.mk ((by rw [hg];exact Nat.ne_of_gt (blk_lt (g:=gb275) (o:=.cells #[.int .i64 a0_0,.slice A0_1 l0_1.length c0_1] 28 (0,0)) bk):gb276 ≠ gb275));clear BK275;clear HB;have BK275:=n0_;have HB:=n1_;have BK276:=n2_;have GW276:=n3_;have GE276:=n4_;have NB275_276:=n5_;have NB276_275:=n6_;clear n0_ n1_ n2_ n3_ n4_ n5_ n6_;clear hb hbox hg;have hnb5:=NB275_276.out;have hnc5:=NB276_275.out;have hcz6_0:w4.cell? ⟨gb275,0,none⟩ = some (.int .i64 a0_0):=(blk_cell BK275.out 0).trans rfl;have hcz6_1:w4.cell? ⟨gb275,1,none⟩ = some (.slice A0_1 l0_1.length c0_1):=(blk_cell BK275.out 1).trans rfl;have hfz6_0:=blk_frozen BK275.out 0;have hfz6_1:=blk_frozen BK275.out 1)|((with_reducible refine gate_callee (f:=97) rfl ?_);refine goesL_ (some 7) rfl rfl Try.func97 (by kernel_rfl) rfl #[.int .i64 a0_0,.slice A0_1 l0_1.length c0_1] rfl mq ?_;(with_reducible refine (impl_votesBy.calls k a0_0 _ _ l0_1 t277 t278 _ ?side1 ?side2 A2.out).mono ?_);(case side1=>repeat (first|exact (Kd.C_below HR0_1.out HB.out)|(with_reducible refine Kd.C_alloc ?_ _)|(with_reducible refine Kd.C_drewN ?_ _)|(with_reducible refine Kd.C_drew ?_)));(case side2=>exact HC0_1.out);rintro e w7 ⟨v279,rfl,ho0,hb⟩;refine ⟨_,rfl,?_⟩;have n0_:=Aside0.mk (Kd.R_lower ho0 (below_size bw));have n1_:=Aside0.mk (blk_below (g:=gb275) (o:=.cells #[.int .i64 a0_0,.slice A0_1 l0_1.length c0_1] 28 (0,0)) bk hb);have n2_:=Aside0.mk (blk_below (g:=gb276) (o:=.cells #[.int .i64 0,.slice none 0 0] 68 (0,0)) bk hb);have n3_:=Aside0.mk (below_step bw hb);clear BK275;clear BK276;clear HB;have HO280:=n0_;have BK275:=n1_;have BK276:=n2_;have HB:=n3_;clear n0_ n1_ n2_ n3_;(try clear hb);(try clear hb2);(try clear hk);(try clear hi);(try clear ho0);have hcz8_0:w7.cell? ⟨gb276,0,none⟩ = some (.int .i64 0):=(blk_cell BK276.out 0).trans rfl;have hcz8_1:w7.cell? ⟨gb276,1,none⟩ = some (.slice none 0 0):=(blk_cell BK276.out 1).trans rfl;have hfz8_0:=blk_frozen BK276.out 0;have hfz8_1:=blk_frozen BK276.out 1;obtain ⟨Ao9,co9,eo9⟩:=Kd.R_slice HO280.out;subst eo9))
 refine bodyPost_ret (results_cell_row rfl _ _ gb276 68 #[.int .i64 t277,.slice Ao9 t278.length co9] (0,0) _ rfl (by (with_reducible repeat (first|refine blk_drewN ?_ _|refine blk_drew ?_|refine blk_alloc ?_ _));refine blk_put (cs:=#[.int .i64 t277,.slice none 0 0]) ?_ 1 _ rfl;(with_reducible repeat (first|refine blk_drewN ?_ _|refine blk_drew ?_|refine blk_alloc ?_ _));refine blk_put (cs:=#[.int .i64 0,.slice none 0 0]) ?_ 0 _ rfl;(with_reducible repeat (first|refine blk_drewN ?_ _|refine blk_drew ?_|refine blk_alloc ?_ _));exact BK276.out) Try.underlying68 rfl (by kernel_rfl)) rfl ?_;exact ⟨_,by first|rfl|(simp [errW_none,errW_some] <;> rfl)|(simp [*,errW_none,errW_some] <;> rfl),by (with_reducible repeat (first|apply Kd.R_alloc|apply Kd.R_drewN|apply Kd.R_drew));exact Kd.R_mono (Kd.R_far (p:=⟨gb276,1,none⟩) (Kd.R_far (p:=⟨gb276,0,none⟩) (Kd.R_types HO280.out BK276.out (by decide)) (fun _ hk=>hk.2) (.int .i64 t277)) (fun _ hk=>hk.2) (.slice Ao9 t278.length co9)) (fun _ hk=>trivial),by repeat (first|(with_reducible first|exact HB.out|apply below_alloc|apply pw_below_drewN|apply below_drew1|refine below_set ?_ GE275.out|refine below_set ?_ GE276.out)|exact HB.out)⟩


/-! ### impl_has: function 134 -/
def impl_has.f (a0:Int) (a1:Int):Option (Bool):=if 0 ≤ a1 then (some ((Go.bits .and .i64 (shr .i64 a0 a1) 1) == 1)) else (none)
set_option maxHeartbeats 8000000 in
set_option maxRecDepth 100000 in
theorem impl_has.calls (a0:Int) (a1:Int) (r:Bool) (w:World) (h:impl_has.f a0 a1 = some r) :
  Calls Try.prog 134 #[.int .i64 a0,.int .i64 a1] w fun e w'=>e = .returned (.bool r) ∧ Drawn0 w w':=by
 have H:(if 0 ≤ a1 then (some ((Go.bits .and .i64 (shr .i64 a0 a1) 1) == 1)) else (none)) = some r:=h;clear h;by_cases c3:0 ≤ a1
 ·rw [if_pos c3] at H;have c3b0:=eq_true c3;have c3b1:decide (0 ≤ a1) = true:=decide_eq_true c3;clear c3;obtain ⟨ji4,hji4⟩:∃ j_:Int,(shr .i64 a0 a1) = j_:=⟨_,rfl⟩;replace H:(some ((Go.bits .and .i64 (ji4) 1) == 1)) = some r:=by first|(rw [hji4] at H;exact H)|(simp only [hji4] at H ⊢;exact H)
  have hji4_:(a0 / 2 ^ min a1.toNat 64) = ji4:=hji4;have hji4z:a1 ≤ 64 → (a0 / 2 ^ a1.toNat) = ji4:=shr_small hji4;obtain rfl:=Option.some.inj H;go_enter Try.func134,Try.ntmps134;go_wp2
  go_ret
  exact ⟨by first|rfl|(simp;done)|(simp only [← hji4] <;> (first|rfl|simp))|(simp [*];done),by repeat (first|exact Drawn0.refl _|apply Drawn0.step)⟩
 ·rw [if_neg c3] at H;exact absurd H (by simp)


/-! ### impl_votes_isWorth: function 98 -/
def impl_votes_isWorth.l0:Nat → Int → Int → Int → Int → Int → List Bool → Option (Bool)
 | 0,_,_,_,_,_,_=>none
 | k + 1,x1,x2,x10,x11,x311000,x311001=>if x11 < x10 then ((impl_has.f x11 x1).bind fun t311=>(if t311 = true then (impl_votes_isWorth.l0 k x1 x2 x10 (wrap64 (x11 + 1)) x311000 x311001) else ((impl_has.f x11 x2).bind fun t312=>(if t312 = true then (impl_votes_isWorth.l0 k x1 x2 x10 (wrap64 (x11 + 1)) x311000 x311001) else (if 0 ≤ x2 then (if 0 ≤ (Go.bits .or .i64 x11 (shl .i64 1 x2)) then (if (Go.bits .or .i64 x11 (shl .i64 1 x2)) < (x311001.length:Int) then (if rdOf false x311001 (Go.bits .or .i64 x11 (shl .i64 1 x2)) = true then (if 0 ≤ x1 then (if 0 ≤ (Go.bits .or .i64 x11 (shl .i64 1 x1)) then (if (Go.bits .or .i64 x11 (shl .i64 1 x1)) < (x311001.length:Int) then (if (rdOf false x311001 (Go.bits .or .i64 x11 (shl .i64 1 x1)) = true) then (impl_votes_isWorth.l0 k x1 x2 x10 (wrap64 (x11 + 1)) x311000 x311001) else (some false)) else (none)) else (none)) else (none)) else (impl_votes_isWorth.l0 k x1 x2 x10 (wrap64 (x11 + 1)) x311000 x311001)) else (none)) else (none)) else (none)))))) else (some true)
def impl_votes_isWorth.f (k:Nat) (a0_0:Int) (l0_1:List Bool) (a1:Int) (a2:Int):Option (Bool):=impl_votes_isWorth.l0 k a1 a2 (l0_1.length:Int) 0 a0_0 l0_1
theorem impl_votes_isWorth.mono_l:∀ k,(∀ y0 y1 y2 y3 y4 y5,LeO (impl_votes_isWorth.l0 k y0 y1 y2 y3 y4 y5) (impl_votes_isWorth.l0 (k + 1) y0 y1 y2 y3 y4 y5))
 | 0=>fun _ _ _ _ _ _ r h=>by simp [impl_votes_isWorth.l0] at h
 | k + 1=>by
  have ih0:=impl_votes_isWorth.mono_l k
  ·intro y0 y1 y2 y3 y4 y5;unfold impl_votes_isWorth.l0
   repeat' with_reducible first|exact ih0 _ _ _ _ _ _|exact LeO.refl _|exact LeO.none _|refine LeO.ite ?_ ?_|refine LeO.bind ?_ (fun _=>?_)
theorem impl_votes_isWorth.mono:∀ a0 a1 a2 a3 k,LeO (impl_votes_isWorth.f k a0 a1 a2 a3) (impl_votes_isWorth.f (k + 1) a0 a1 a2 a3):=by
 intro a0 a1 a2 a3 k;have ih0:=impl_votes_isWorth.mono_l k;unfold impl_votes_isWorth.f
 repeat' with_reducible first|exact ih0 _ _ _ _ _ _|exact LeO.refl _|exact LeO.none _|refine LeO.ite ?_ ?_|refine LeO.bind ?_ (fun _=>?_)
def impl_votes_isWorth.T4:Bool × List (List Nat × List Nat):=(true,[([],[]),([],[]),([0,1],[0,1]),([2],[2]),([3,2],[3]),([4],[4]),([4],[4]),([5,6,4,4],[4,5,6]),([7,4],[4,7]),([4,8],[4,8]),([9,7],[9]),([10],[10]),([11,10],[10,11]),([10],[10]),([10],[10]),([14,10],[10,14]),([13,15,10],[10,13,15]),([12,16,10],[10,12,16]),([17,10],[10,17]),([10,18],[10,18]),([19,10],[19]),([20],[20]),([21,20],[20,21]),([20],[20]),([20],[20]),([24,20],[20,24]),([23,25,20],[20,23,25]),([22,26,20],[20,22,26]),([27,20],[20,27]),([28,20],[20,28]),([20,29],[20,29])])
def impl_votes_isWorth.B4:List Nat:=[0,0,3,7,15,31,31,127,255,511,1023,2047,4095,2047,2047,18431,59391,131071,262143,524287,1048575,2097151,4194303,2097151,2097151,18874367,60817407,134217727,268435455,536870911,1073741823]
theorem impl_votes_isWorth.tab4:rtab .any (opsOf Try.f98 4) = impl_votes_isWorth.T4:=by kernel_rfl
theorem impl_votes_isWorth.bits4:waitsOk impl_votes_isWorth.T4.2 impl_votes_isWorth.B4 = true:=by kernel_rfl
set_option maxHeartbeats 8000000 in
set_option maxRecDepth 100000 in
theorem impl_votes_isWorth.calls (k:Nat) (a0_0:Int) (A0_1:Option Addr) (c0_1:Nat) (l0_1:List Bool) (a1:Int) (a2:Int) (r:Bool) (w:World) (hr0_1:Kd.C Kd.bool w A0_1 l0_1.length l0_1) (hc0_1:l0_1.length ≤ c0_1) (h:impl_votes_isWorth.f k a0_0 l0_1 a1 a2 = some r) :
  Calls Try.prog 98 #[.agg #[.int .i64 a0_0,.slice A0_1 l0_1.length c0_1],.int .i64 a1,.int .i64 a2] w fun e w'=>e = .returned (.bool r) ∧ Below w.heap.size w w':=by
 have hu68:=Try.underlying68;have HR0_1:=Aside0.mk hr0_1;have HC0_1:=Aside0.mk hc0_1;clear hr0_1 hc0_1;have HB:=Aside0.mk (Below.refl w.heap.size w);have H:(impl_votes_isWorth.l0 k a1 a2 (l0_1.length:Int) 0 a0_0 l0_1) = some r:=h;clear h;have H':=Aside0.mk H;clear H;go_enter Try.func98,Try.ntmps98;go_wp2_with (first|((with_reducible refine gate_dst (N:=3) rfl ?_);refine box_event ?hg (N:=3) ?hd (cs:=#[.int .i64 a0_0,.slice A0_1 l0_1.length c0_1]) (t:=68) ?hr ?_;(case hd=>rfl);(case hg=>rfl);(case hr=>first|(go_simp;done)|(go_simp;rfl));intro gb310 hg w4 hbox hb;have n0_:=Aside0.mk (below_step bw hb);have n1_:=Aside0.mk (hbox);have n2_:=Aside0.mk ((by rw [hg];exact (below_size bw):w.heap.size ≤ gb310));have n3_:=Aside0.mk ((by rw [hg];exact (below_size bw):w.heap.size ≤ gb310));clear HB;have HB:=n0_;have BK310:=n1_;have GW310:=n2_;have GE310:=n3_;clear n0_ n1_ n2_ n3_;clear hb hbox hg;have hcz5_0:w4.cell? ⟨gb310,0,none⟩ = some (.int .i64 a0_0):=(blk_cell BK310.out 0).trans rfl;have hcz5_1:w4.cell? ⟨gb310,1,none⟩ = some (.slice A0_1 l0_1.length c0_1):=(blk_cell BK310.out 1).trans rfl;have hfz5_0:=blk_frozen BK310.out 0;have hfz5_1:=blk_frozen BK310.out 1))
 go_loopg [11] k (fun kq v11 w'=>∃ (x11_1:Int),v11 = .int .i64 x11_1 ∧ Aside0 (impl_votes_isWorth.l0 kq a1 a2 (l0_1.length:Int) x11_1 a0_0 l0_1 = some r) ∧ Aside0 (kq ≤ k) ∧ Aside0 (w'.heap[gb310]? = some (.cells #[.int .i64 a0_0,(.slice A0_1 l0_1.length c0_1)] 68 (0,0))) ∧ Aside0 (Below w.heap.size w w'))
 case atStart=>exact ⟨(0),(by first|rfl|(simp;done)|(simp [*];done)),H',⟨Nat.le_refl _⟩,⟨by (with_reducible repeat (first|refine blk_drewN ?_ _|refine blk_drew ?_|refine blk_alloc ?_ _));exact BK310.out⟩,⟨by repeat (first|(with_reducible first|exact HB.out|apply below_alloc|apply pw_below_drewN|apply below_drew1|refine below_set ?_ GE310.out)|exact HB.out)⟩⟩
 case round =>
  clear H'
  try clear p2
  try clear hcz5_0
  try clear hcz5_1
  try clear hfz5_0
  try clear hfz5_1
  obtain ⟨x11_1,rfl,HA,HK1,BK310,HB⟩:=hrel
  cases gk with
  | zero=>exact absurd HA.out (by simp [impl_votes_isWorth.l0])
  | succ k1 =>
   have H:=HA.out;clear HA;simp only [impl_votes_isWorth.l0] at H;by_cases c6:x11_1 < (l0_1.length:Int)
   ·rw [if_pos c6] at H;have c6b0:decide (x11_1 < (l0_1.length:Int)) = true:=decide_eq_true c6;clear c6;replace H:=Option.bind_eq_some_iff.mp H;obtain ⟨t311,A70,H⟩:=H;replace H:(if t311 = true then (impl_votes_isWorth.l0 k1 a1 a2 (l0_1.length:Int) (wrap64 (x11_1 + 1)) a0_0 l0_1) else ((impl_has.f x11_1 a2).bind fun t312=>(if t312 = true then (impl_votes_isWorth.l0 k1 a1 a2 (l0_1.length:Int) (wrap64 (x11_1 + 1)) a0_0 l0_1) else (if 0 ≤ a2 then (if 0 ≤ (Go.bits .or .i64 x11_1 (shl .i64 1 a2)) then (if (Go.bits .or .i64 x11_1 (shl .i64 1 a2)) < (l0_1.length:Int) then (if rdOf false l0_1 (Go.bits .or .i64 x11_1 (shl .i64 1 a2)) = true then (if 0 ≤ a1 then (if 0 ≤ (Go.bits .or .i64 x11_1 (shl .i64 1 a1)) then (if (Go.bits .or .i64 x11_1 (shl .i64 1 a1)) < (l0_1.length:Int) then (if (rdOf false l0_1 (Go.bits .or .i64 x11_1 (shl .i64 1 a1)) = true) then (impl_votes_isWorth.l0 k1 a1 a2 (l0_1.length:Int) (wrap64 (x11_1 + 1)) a0_0 l0_1) else (some false)) else (none)) else (none)) else (none)) else (impl_votes_isWorth.l0 k1 a1 a2 (l0_1.length:Int) (wrap64 (x11_1 + 1)) a0_0 l0_1)) else (none)) else (none)) else (none))))) = some r:=H;have A7:=Aside0.mk A70;clear A70;by_cases c8:t311 = true
    ·subst c8;have H1:(impl_votes_isWorth.l0 k1 a1 a2 (l0_1.length:Int) (wrap64 (x11_1 + 1)) a0_0 l0_1) = some r:=by rw [if_pos rfl] at H;exact H
     clear H;have H:=H1;clear H1;have H':=Aside0.mk H;clear H
     try go_wp2
     have n0_:=Aside0.mk (blk_drew BK310.out);have n1_:=Aside0.mk (below_drew1 HB.out);clear BK310;clear HB;have BK310:=n0_;have HB:=n1_;clear n0_ n1_;refine start_ (n:=31) (S:=fun w'=>True) (ds:=[]) #[false,false,false,false,false,false,false,false,false,false,false,false,false,false,false,false,false,false,false,false,false,false,false,false,false,false,false,false,false,false,false] (by kernel_rfl) rfl rfl trivial (fun hHeld=>?_);refine with_tabW impl_votes_isWorth.tab4 impl_votes_isWorth.bits4 (fun HT_ HW_=>?_)
     generalize wr.drew = w9 at BK310 HB hHeld ⊢
     refine pure_ (i:=0) (N:=some 14) (v:=?_) (a':=?_) #[true,false,false,false,false,false,false,false,false,false,false,false,false,false,false,false,false,false,false,false,false,false,false,false,false,false,false,false,false,false,false] rfl rfl (any_of HT_.out (by kernel_rfl)) (fun _ _ _ h=>h) (Or.inl ⟨by rfl,?_⟩) ?_ ?_;rotate_left
     ·intro w';go_simp
      with_reducible rfl
     rotate_left
     ·simp only [Act.put,sA,sZ,sS,i64_w,i32_w];rfl
     refine pure_ (i:=1) (N:=some 15) (v:=?_) (a':=?_) #[true,true,false,false,false,false,false,false,false,false,false,false,false,false,false,false,false,false,false,false,false,false,false,false,false,false,false,false,false,false,false] rfl rfl (any_of HT_.out (by kernel_rfl)) (fun _ _ _ h=>h) (Or.inl ⟨by rfl,?_⟩) ?_ ?_;rotate_left
     ·intro w';go_simp
      with_reducible rfl
     rotate_left
     ·simp only [Act.put,sA,sZ,sS,i64_w,i32_w];rfl
     refine one_ (i:=2) (N:=some 16) #[true,true,true,false,false,false,false,false,false,false,false,false,false,false,false,false,false,false,false,false,false,false,false,false,false,false,false,false,false,false,false] rfl rfl (one_of HT_.out (by kernel_rfl)) (by decide) (fun K hK=>?_);refine goes_ Try.func134 (by kernel_rfl) rfl #[.int .i64 x11_1,.int .i64 a1] (by rfl) rfl rfl mq ?_
     with_reducible refine (impl_has.calls x11_1 a1 true _ A7.out).mono ?_
     rintro e w' ⟨rfl,⟨nd,rfl⟩⟩
     refine ⟨_,rfl,?_⟩;refine hK.out _ _ trivial (fun hHeld=>?_);clear hK K;refine norm_ (a':=?_) ?_ ?_;rotate_left
     ·show Act.put _ (some 16) _ = _;simp only [Act.put,sA,sZ,sS,i64_w,i32_w];rfl
     refine pure_ (i:=3) (N:=some 17) (v:=?_) (a':=?_) #[true,true,true,true,false,false,false,false,false,false,false,false,false,false,false,false,false,false,false,false,false,false,false,false,false,false,false,false,false,false,false] rfl rfl (any_of HT_.out (by kernel_rfl)) (fun _ _ _ h=>h) (Or.inl ⟨by rfl,?_⟩) ?_ ?_;rotate_left
     ·intro w';go_simp
      with_reducible rfl
     rotate_left
     ·simp only [Act.put,sA,sZ,sS,i64_w,i32_w];rfl
     refine pure_ (i:=4) (N:=some 18) (v:=?_) (a':=?_) #[true,true,true,true,true,false,false,false,false,false,false,false,false,false,false,false,false,false,false,false,false,false,false,false,false,false,false,false,false,false,false] rfl rfl (any_of HT_.out (by kernel_rfl)) (fun _ _ _ h=>h) (Or.inl ⟨by rfl,?_⟩) ?_ ?_;rotate_left
     ·intro w';go_simp
      with_reducible rfl
     rotate_left
     ·simp only [Act.put,sA,sZ,sS,i64_w,i32_w];rfl
     refine pure_ (i:=5) (N:=some 19) (v:=undef) (a':=?_) #[true,true,true,true,true,true,false,false,false,false,false,false,false,false,false,false,false,false,false,false,false,false,false,false,false,false,false,false,false,false,false] rfl rfl (any_of HT_.out (by kernel_rfl)) (fun _ _ _ h=>h) (Or.inr ⟨by rfl,rfl⟩) ?_ ?_;rotate_left
     ·simp only [Act.put,sA,sZ,sS,i64_w,i32_w];rfl
     refine pure_ (i:=6) (N:=some 20) (v:=undef) (a':=?_) #[true,true,true,true,true,true,true,false,false,false,false,false,false,false,false,false,false,false,false,false,false,false,false,false,false,false,false,false,false,false,false] rfl rfl (any_of HT_.out (by kernel_rfl)) (fun _ _ _ h=>h) (Or.inr ⟨by rfl,rfl⟩) ?_ ?_;rotate_left
     ·simp only [Act.put,sA,sZ,sS,i64_w,i32_w];rfl
     refine pure_ (i:=7) (N:=some 21) (v:=undef) (a':=?_) #[true,true,true,true,true,true,true,true,false,false,false,false,false,false,false,false,false,false,false,false,false,false,false,false,false,false,false,false,false,false,false] rfl rfl (any_of HT_.out (by kernel_rfl)) (fun _ _ _ h=>h) (Or.inr ⟨by rfl,rfl⟩) ?_ ?_;rotate_left
     ·simp only [Act.put,sA,sZ,sS,i64_w,i32_w];rfl
     refine pure_ (i:=8) (N:=some 22) (v:=undef) (a':=?_) #[true,true,true,true,true,true,true,true,true,false,false,false,false,false,false,false,false,false,false,false,false,false,false,false,false,false,false,false,false,false,false] rfl rfl (any_of HT_.out (by kernel_rfl)) (fun _ _ _ h=>h) (Or.inr ⟨by rfl,rfl⟩) ?_ ?_;rotate_left
     ·simp only [Act.put,sA,sZ,sS,i64_w,i32_w];rfl
     refine pure_ (i:=9) (N:=some 23) (v:=?_) (a':=?_) #[true,true,true,true,true,true,true,true,true,true,false,false,false,false,false,false,false,false,false,false,false,false,false,false,false,false,false,false,false,false,false] rfl rfl (any_of HT_.out (by kernel_rfl)) (fun _ _ _ h=>h) (Or.inl ⟨by rfl,?_⟩) ?_ ?_;rotate_left
     ·intro w';go_simp
      with_reducible rfl
     rotate_left
     ·simp only [Act.put,sA,sZ,sS,i64_w,i32_w];rfl
     refine pure_ (i:=10) (N:=some 24) (v:=?_) (a':=?_) #[true,true,true,true,true,true,true,true,true,true,true,false,false,false,false,false,false,false,false,false,false,false,false,false,false,false,false,false,false,false,false] rfl rfl (any_of HT_.out (by kernel_rfl)) (fun _ _ _ h=>h) (Or.inl ⟨by rfl,?_⟩) ?_ ?_;rotate_left
     ·intro w';go_simp
      with_reducible rfl
     rotate_left
     ·simp only [Act.put,sA,sZ,sS,i64_w,i32_w];rfl
     refine pure_ (i:=11) (N:=some 25) (v:=undef) (a':=?_) #[true,true,true,true,true,true,true,true,true,true,true,true,false,false,false,false,false,false,false,false,false,false,false,false,false,false,false,false,false,false,false] rfl rfl (any_of HT_.out (by kernel_rfl)) (fun _ _ _ h=>h) (Or.inr ⟨by rfl,rfl⟩) ?_ ?_;rotate_left
     ·simp only [Act.put,sA,sZ,sS,i64_w,i32_w];rfl
     refine pure_ (i:=12) (N:=some 26) (v:=undef) (a':=?_) #[true,true,true,true,true,true,true,true,true,true,true,true,true,false,false,false,false,false,false,false,false,false,false,false,false,false,false,false,false,false,false] rfl rfl (any_of HT_.out (by kernel_rfl)) (fun _ _ _ h=>h) (Or.inr ⟨by rfl,rfl⟩) ?_ ?_;rotate_left
     ·simp only [Act.put,sA,sZ,sS,i64_w,i32_w];rfl
     refine pure_ (i:=13) (N:=some 27) (v:=undef) (a':=?_) #[true,true,true,true,true,true,true,true,true,true,true,true,true,true,false,false,false,false,false,false,false,false,false,false,false,false,false,false,false,false,false] rfl rfl (any_of HT_.out (by kernel_rfl)) (fun _ _ _ h=>h) (Or.inr ⟨by rfl,rfl⟩) ?_ ?_;rotate_left
     ·simp only [Act.put,sA,sZ,sS,i64_w,i32_w];rfl
     refine pure_ (i:=14) (N:=some 28) (v:=undef) (a':=?_) #[true,true,true,true,true,true,true,true,true,true,true,true,true,true,true,false,false,false,false,false,false,false,false,false,false,false,false,false,false,false,false] rfl rfl (any_of HT_.out (by kernel_rfl)) (fun _ _ _ h=>h) (Or.inr ⟨by rfl,rfl⟩) ?_ ?_;rotate_left
     ·simp only [Act.put,sA,sZ,sS,i64_w,i32_w];rfl
     refine pure_ (i:=15) (N:=some 29) (v:=undef) (a':=?_) #[true,true,true,true,true,true,true,true,true,true,true,true,true,true,true,true,false,false,false,false,false,false,false,false,false,false,false,false,false,false,false] rfl rfl (any_of HT_.out (by kernel_rfl)) (fun _ _ _ h=>h) (Or.inr ⟨by rfl,rfl⟩) ?_ ?_;rotate_left
     ·simp only [Act.put,sA,sZ,sS,i64_w,i32_w];rfl
     refine pure_ (i:=16) (N:=some 30) (v:=undef) (a':=?_) #[true,true,true,true,true,true,true,true,true,true,true,true,true,true,true,true,true,false,false,false,false,false,false,false,false,false,false,false,false,false,false] rfl rfl (any_of HT_.out (by kernel_rfl)) (fun _ _ _ h=>h) (Or.inr ⟨by rfl,rfl⟩) ?_ ?_;rotate_left
     ·simp only [Act.put,sA,sZ,sS,i64_w,i32_w];rfl
     refine pure_ (i:=17) (N:=some 31) (v:=undef) (a':=?_) #[true,true,true,true,true,true,true,true,true,true,true,true,true,true,true,true,true,true,false,false,false,false,false,false,false,false,false,false,false,false,false] rfl rfl (any_of HT_.out (by kernel_rfl)) (fun _ _ _ h=>h) (Or.inr ⟨by rfl,rfl⟩) ?_ ?_;rotate_left
     ·simp only [Act.put,sA,sZ,sS,i64_w,i32_w];rfl
     refine pure_ (i:=18) (N:=some 32) (v:=undef) (a':=?_) #[true,true,true,true,true,true,true,true,true,true,true,true,true,true,true,true,true,true,true,false,false,false,false,false,false,false,false,false,false,false,false] rfl rfl (any_of HT_.out (by kernel_rfl)) (fun _ _ _ h=>h) (Or.inr ⟨by rfl,rfl⟩) ?_ ?_;rotate_left
     ·simp only [Act.put,sA,sZ,sS,i64_w,i32_w];rfl
     refine pure_ (i:=19) (N:=some 33) (v:=?_) (a':=?_) #[true,true,true,true,true,true,true,true,true,true,true,true,true,true,true,true,true,true,true,true,false,false,false,false,false,false,false,false,false,false,false] rfl rfl (any_of HT_.out (by kernel_rfl)) (fun _ _ _ h=>h) (Or.inl ⟨by rfl,?_⟩) ?_ ?_;rotate_left
     ·intro w';go_simp
      with_reducible rfl
     rotate_left
     ·simp only [Act.put,sA,sZ,sS,i64_w,i32_w];rfl
     refine pure_ (i:=20) (N:=some 34) (v:=?_) (a':=?_) #[true,true,true,true,true,true,true,true,true,true,true,true,true,true,true,true,true,true,true,true,true,false,false,false,false,false,false,false,false,false,false] rfl rfl (any_of HT_.out (by kernel_rfl)) (fun _ _ _ h=>h) (Or.inl ⟨by rfl,?_⟩) ?_ ?_;rotate_left
     ·intro w';go_simp
      with_reducible rfl
     rotate_left
     ·simp only [Act.put,sA,sZ,sS,i64_w,i32_w];rfl
     refine pure_ (i:=21) (N:=some 35) (v:=undef) (a':=?_) #[true,true,true,true,true,true,true,true,true,true,true,true,true,true,true,true,true,true,true,true,true,true,false,false,false,false,false,false,false,false,false] rfl rfl (any_of HT_.out (by kernel_rfl)) (fun _ _ _ h=>h) (Or.inr ⟨by rfl,rfl⟩) ?_ ?_;rotate_left
     ·simp only [Act.put,sA,sZ,sS,i64_w,i32_w];rfl
     refine pure_ (i:=22) (N:=some 36) (v:=undef) (a':=?_) #[true,true,true,true,true,true,true,true,true,true,true,true,true,true,true,true,true,true,true,true,true,true,true,false,false,false,false,false,false,false,false] rfl rfl (any_of HT_.out (by kernel_rfl)) (fun _ _ _ h=>h) (Or.inr ⟨by rfl,rfl⟩) ?_ ?_;rotate_left
     ·simp only [Act.put,sA,sZ,sS,i64_w,i32_w];rfl
     refine pure_ (i:=23) (N:=some 37) (v:=undef) (a':=?_) #[true,true,true,true,true,true,true,true,true,true,true,true,true,true,true,true,true,true,true,true,true,true,true,true,false,false,false,false,false,false,false] rfl rfl (any_of HT_.out (by kernel_rfl)) (fun _ _ _ h=>h) (Or.inr ⟨by rfl,rfl⟩) ?_ ?_;rotate_left
     ·simp only [Act.put,sA,sZ,sS,i64_w,i32_w];rfl
     refine pure_ (i:=24) (N:=some 38) (v:=undef) (a':=?_) #[true,true,true,true,true,true,true,true,true,true,true,true,true,true,true,true,true,true,true,true,true,true,true,true,true,false,false,false,false,false,false] rfl rfl (any_of HT_.out (by kernel_rfl)) (fun _ _ _ h=>h) (Or.inr ⟨by rfl,rfl⟩) ?_ ?_;rotate_left
     ·simp only [Act.put,sA,sZ,sS,i64_w,i32_w];rfl
     refine pure_ (i:=25) (N:=some 39) (v:=undef) (a':=?_) #[true,true,true,true,true,true,true,true,true,true,true,true,true,true,true,true,true,true,true,true,true,true,true,true,true,true,false,false,false,false,false] rfl rfl (any_of HT_.out (by kernel_rfl)) (fun _ _ _ h=>h) (Or.inr ⟨by rfl,rfl⟩) ?_ ?_;rotate_left
     ·simp only [Act.put,sA,sZ,sS,i64_w,i32_w];rfl
     refine pure_ (i:=26) (N:=some 40) (v:=undef) (a':=?_) #[true,true,true,true,true,true,true,true,true,true,true,true,true,true,true,true,true,true,true,true,true,true,true,true,true,true,true,false,false,false,false] rfl rfl (any_of HT_.out (by kernel_rfl)) (fun _ _ _ h=>h) (Or.inr ⟨by rfl,rfl⟩) ?_ ?_;rotate_left
     ·simp only [Act.put,sA,sZ,sS,i64_w,i32_w];rfl
     refine pure_ (i:=27) (N:=some 41) (v:=undef) (a':=?_) #[true,true,true,true,true,true,true,true,true,true,true,true,true,true,true,true,true,true,true,true,true,true,true,true,true,true,true,true,false,false,false] rfl rfl (any_of HT_.out (by kernel_rfl)) (fun _ _ _ h=>h) (Or.inr ⟨by rfl,rfl⟩) ?_ ?_;rotate_left
     ·simp only [Act.put,sA,sZ,sS,i64_w,i32_w];rfl
     refine pure_ (i:=28) (N:=some 42) (v:=undef) (a':=?_) #[true,true,true,true,true,true,true,true,true,true,true,true,true,true,true,true,true,true,true,true,true,true,true,true,true,true,true,true,true,false,false] rfl rfl (any_of HT_.out (by kernel_rfl)) (fun _ _ _ h=>h) (Or.inr ⟨by rfl,rfl⟩) ?_ ?_;rotate_left
     ·simp only [Act.put,sA,sZ,sS,i64_w,i32_w];rfl
     refine pure_ (i:=29) (N:=some 43) (v:=undef) (a':=?_) #[true,true,true,true,true,true,true,true,true,true,true,true,true,true,true,true,true,true,true,true,true,true,true,true,true,true,true,true,true,true,false] rfl rfl (any_of HT_.out (by kernel_rfl)) (fun _ _ _ h=>h) (Or.inr ⟨by rfl,rfl⟩) ?_ ?_;rotate_left
     ·simp only [Act.put,sA,sZ,sS,i64_w,i32_w];rfl
     refine pure_ (i:=30) (N:=some 44) (v:=?_) (a':=?_) #[true,true,true,true,true,true,true,true,true,true,true,true,true,true,true,true,true,true,true,true,true,true,true,true,true,true,true,true,true,true,true] rfl rfl (any_of HT_.out (by kernel_rfl)) (fun _ _ _ h=>h) (Or.inl ⟨by rfl,?_⟩) ?_ ?_;rotate_left
     ·intro w';go_simp
      with_reducible rfl
     rotate_left
     ·simp only [Act.put,sA,sZ,sS,i64_w,i32_w];rfl
     refine done_ (done_of HT_.out (by kernel_rfl)) ?_
     try go_wp2
     go_roundg k1
     case measure=>have:=HK1.out;omega
     case rel=>exact ⟨(wrap64 (x11_1 + 1)),(by first|rfl|(simp;done)|(simp [*];done)),H',⟨by have:=HK1.out;omega⟩,⟨by (with_reducible repeat (first|refine blk_drewN ?_ _|refine blk_drew ?_|refine blk_alloc ?_ _));exact BK310.out⟩,⟨by repeat (first|(with_reducible first|exact HB.out|apply below_alloc|apply pw_below_drewN|apply below_drew1|refine below_set ?_ GE310.out)|exact HB.out)⟩⟩
    ·replace c8:=Bool.eq_false_iff.mpr c8;subst c8;have H1:((impl_has.f x11_1 a2).bind fun t312=>(if t312 = true then (impl_votes_isWorth.l0 k1 a1 a2 (l0_1.length:Int) (wrap64 (x11_1 + 1)) a0_0 l0_1) else (if 0 ≤ a2 then (if 0 ≤ (Go.bits .or .i64 x11_1 (shl .i64 1 a2)) then (if (Go.bits .or .i64 x11_1 (shl .i64 1 a2)) < (l0_1.length:Int) then (if rdOf false l0_1 (Go.bits .or .i64 x11_1 (shl .i64 1 a2)) = true then (if 0 ≤ a1 then (if 0 ≤ (Go.bits .or .i64 x11_1 (shl .i64 1 a1)) then (if (Go.bits .or .i64 x11_1 (shl .i64 1 a1)) < (l0_1.length:Int) then (if (rdOf false l0_1 (Go.bits .or .i64 x11_1 (shl .i64 1 a1)) = true) then (impl_votes_isWorth.l0 k1 a1 a2 (l0_1.length:Int) (wrap64 (x11_1 + 1)) a0_0 l0_1) else (some false)) else (none)) else (none)) else (none)) else (impl_votes_isWorth.l0 k1 a1 a2 (l0_1.length:Int) (wrap64 (x11_1 + 1)) a0_0 l0_1)) else (none)) else (none)) else (none)))) = some r:=by rw [if_neg (show ¬ (false = true) by decide)] at H;exact H
     clear H;have H:=H1;clear H1;replace H:=Option.bind_eq_some_iff.mp H;obtain ⟨t312,A100,H⟩:=H;replace H:(if t312 = true then (impl_votes_isWorth.l0 k1 a1 a2 (l0_1.length:Int) (wrap64 (x11_1 + 1)) a0_0 l0_1) else (if 0 ≤ a2 then (if 0 ≤ (Go.bits .or .i64 x11_1 (shl .i64 1 a2)) then (if (Go.bits .or .i64 x11_1 (shl .i64 1 a2)) < (l0_1.length:Int) then (if rdOf false l0_1 (Go.bits .or .i64 x11_1 (shl .i64 1 a2)) = true then (if 0 ≤ a1 then (if 0 ≤ (Go.bits .or .i64 x11_1 (shl .i64 1 a1)) then (if (Go.bits .or .i64 x11_1 (shl .i64 1 a1)) < (l0_1.length:Int) then (if (rdOf false l0_1 (Go.bits .or .i64 x11_1 (shl .i64 1 a1)) = true) then (impl_votes_isWorth.l0 k1 a1 a2 (l0_1.length:Int) (wrap64 (x11_1 + 1)) a0_0 l0_1) else (some false)) else (none)) else (none)) else (none)) else (impl_votes_isWorth.l0 k1 a1 a2 (l0_1.length:Int) (wrap64 (x11_1 + 1)) a0_0 l0_1)) else (none)) else (none)) else (none))) = some r:=H;have A10:=Aside0.mk A100;clear A100;by_cases c11:t312 = true
     ·subst c11;have H1:(impl_votes_isWorth.l0 k1 a1 a2 (l0_1.length:Int) (wrap64 (x11_1 + 1)) a0_0 l0_1) = some r:=by rw [if_pos rfl] at H;exact H
      clear H;have H:=H1;clear H1;have H':=Aside0.mk H;clear H
      try go_wp2
      have n0_:=Aside0.mk (blk_drew BK310.out);have n1_:=Aside0.mk (below_drew1 HB.out);clear BK310;clear HB;have BK310:=n0_;have HB:=n1_;clear n0_ n1_;refine start_ (n:=31) (S:=fun w'=>True) (ds:=[]) #[false,false,false,false,false,false,false,false,false,false,false,false,false,false,false,false,false,false,false,false,false,false,false,false,false,false,false,false,false,false,false] (by kernel_rfl) rfl rfl trivial (fun hHeld=>?_);refine with_tabW impl_votes_isWorth.tab4 impl_votes_isWorth.bits4 (fun HT_ HW_=>?_)
      generalize wr.drew = w12 at BK310 HB hHeld ⊢
      refine pure_ (i:=0) (N:=some 14) (v:=?_) (a':=?_) #[true,false,false,false,false,false,false,false,false,false,false,false,false,false,false,false,false,false,false,false,false,false,false,false,false,false,false,false,false,false,false] rfl rfl (any_of HT_.out (by kernel_rfl)) (fun _ _ _ h=>h) (Or.inl ⟨by rfl,?_⟩) ?_ ?_;rotate_left
      ·intro w';go_simp
       with_reducible rfl
      rotate_left
      ·simp only [Act.put,sA,sZ,sS,i64_w,i32_w];rfl
      refine pure_ (i:=1) (N:=some 15) (v:=?_) (a':=?_) #[true,true,false,false,false,false,false,false,false,false,false,false,false,false,false,false,false,false,false,false,false,false,false,false,false,false,false,false,false,false,false] rfl rfl (any_of HT_.out (by kernel_rfl)) (fun _ _ _ h=>h) (Or.inl ⟨by rfl,?_⟩) ?_ ?_;rotate_left
      ·intro w';go_simp
       with_reducible rfl
      rotate_left
      ·simp only [Act.put,sA,sZ,sS,i64_w,i32_w];rfl
      refine one_ (i:=2) (N:=some 16) #[true,true,true,false,false,false,false,false,false,false,false,false,false,false,false,false,false,false,false,false,false,false,false,false,false,false,false,false,false,false,false] rfl rfl (one_of HT_.out (by kernel_rfl)) (by decide) (fun K hK=>?_);refine goes_ Try.func134 (by kernel_rfl) rfl #[.int .i64 x11_1,.int .i64 a1] (by rfl) rfl rfl mq ?_
      with_reducible refine (impl_has.calls x11_1 a1 false _ A7.out).mono ?_
      rintro e w' ⟨rfl,⟨nd,rfl⟩⟩
      refine ⟨_,rfl,?_⟩;refine hK.out _ _ trivial (fun hHeld=>?_);clear hK K;refine norm_ (a':=?_) ?_ ?_;rotate_left
      ·show Act.put _ (some 16) _ = _;simp only [Act.put,sA,sZ,sS,i64_w,i32_w];rfl
      refine pure_ (i:=3) (N:=some 17) (v:=?_) (a':=?_) #[true,true,true,true,false,false,false,false,false,false,false,false,false,false,false,false,false,false,false,false,false,false,false,false,false,false,false,false,false,false,false] rfl rfl (any_of HT_.out (by kernel_rfl)) (fun _ _ _ h=>h) (Or.inl ⟨by rfl,?_⟩) ?_ ?_;rotate_left
      ·intro w';go_simp
       with_reducible rfl
      rotate_left
      ·simp only [Act.put,sA,sZ,sS,i64_w,i32_w];rfl
      refine pure_ (i:=4) (N:=some 18) (v:=?_) (a':=?_) #[true,true,true,true,true,false,false,false,false,false,false,false,false,false,false,false,false,false,false,false,false,false,false,false,false,false,false,false,false,false,false] rfl rfl (any_of HT_.out (by kernel_rfl)) (fun _ _ _ h=>h) (Or.inl ⟨by rfl,?_⟩) ?_ ?_;rotate_left
      ·intro w';go_simp
       with_reducible rfl
      rotate_left
      ·simp only [Act.put,sA,sZ,sS,i64_w,i32_w];rfl
      refine pure_ (i:=5) (N:=some 19) (v:=?_) (a':=?_) #[true,true,true,true,true,true,false,false,false,false,false,false,false,false,false,false,false,false,false,false,false,false,false,false,false,false,false,false,false,false,false] rfl rfl (any_of HT_.out (by kernel_rfl)) (fun _ _ _ h=>h) (Or.inl ⟨by rfl,?_⟩) ?_ ?_;rotate_left
      ·intro w';go_simp
       with_reducible rfl
      rotate_left
      ·simp only [Act.put,sA,sZ,sS,i64_w,i32_w];rfl
      refine pure_ (i:=6) (N:=some 20) (v:=?_) (a':=?_) #[true,true,true,true,true,true,true,false,false,false,false,false,false,false,false,false,false,false,false,false,false,false,false,false,false,false,false,false,false,false,false] rfl rfl (any_of HT_.out (by kernel_rfl)) (fun _ _ _ h=>h) (Or.inl ⟨by rfl,?_⟩) ?_ ?_;rotate_left
      ·intro w';go_simp
       with_reducible rfl
      rotate_left
      ·simp only [Act.put,sA,sZ,sS,i64_w,i32_w];rfl
      refine one_ (i:=7) (N:=some 21) #[true,true,true,true,true,true,true,true,false,false,false,false,false,false,false,false,false,false,false,false,false,false,false,false,false,false,false,false,false,false,false] rfl rfl (one_of HT_.out (by kernel_rfl)) (by decide) (fun K hK=>?_);refine goes_ Try.func134 (by kernel_rfl) rfl #[.int .i64 x11_1,.int .i64 a2] (by rfl) rfl rfl mq ?_
      with_reducible refine (impl_has.calls x11_1 a2 true _ A10.out).mono ?_
      rintro e w' ⟨rfl,⟨nd,rfl⟩⟩
      refine ⟨_,rfl,?_⟩;refine hK.out _ _ trivial (fun hHeld=>?_);clear hK K;refine norm_ (a':=?_) ?_ ?_;rotate_left
      ·show Act.put _ (some 21) _ = _;simp only [Act.put,sA,sZ,sS,i64_w,i32_w];rfl
      refine pure_ (i:=8) (N:=some 22) (v:=?_) (a':=?_) #[true,true,true,true,true,true,true,true,true,false,false,false,false,false,false,false,false,false,false,false,false,false,false,false,false,false,false,false,false,false,false] rfl rfl (any_of HT_.out (by kernel_rfl)) (fun _ _ _ h=>h) (Or.inl ⟨by rfl,?_⟩) ?_ ?_;rotate_left
      ·intro w';go_simp
       with_reducible rfl
      rotate_left
      ·simp only [Act.put,sA,sZ,sS,i64_w,i32_w];rfl
      refine pure_ (i:=9) (N:=some 23) (v:=?_) (a':=?_) #[true,true,true,true,true,true,true,true,true,true,false,false,false,false,false,false,false,false,false,false,false,false,false,false,false,false,false,false,false,false,false] rfl rfl (any_of HT_.out (by kernel_rfl)) (fun _ _ _ h=>h) (Or.inl ⟨by rfl,?_⟩) ?_ ?_;rotate_left
      ·intro w';go_simp
       with_reducible rfl
      rotate_left
      ·simp only [Act.put,sA,sZ,sS,i64_w,i32_w];rfl
      refine pure_ (i:=10) (N:=some 24) (v:=?_) (a':=?_) #[true,true,true,true,true,true,true,true,true,true,true,false,false,false,false,false,false,false,false,false,false,false,false,false,false,false,false,false,false,false,false] rfl rfl (any_of HT_.out (by kernel_rfl)) (fun _ _ _ h=>h) (Or.inl ⟨by rfl,?_⟩) ?_ ?_;rotate_left
      ·intro w';go_simp
       with_reducible rfl
      rotate_left
      ·simp only [Act.put,sA,sZ,sS,i64_w,i32_w];rfl
      refine pure_ (i:=11) (N:=some 25) (v:=undef) (a':=?_) #[true,true,true,true,true,true,true,true,true,true,true,true,false,false,false,false,false,false,false,false,false,false,false,false,false,false,false,false,false,false,false] rfl rfl (any_of HT_.out (by kernel_rfl)) (fun _ _ _ h=>h) (Or.inr ⟨by rfl,rfl⟩) ?_ ?_;rotate_left
      ·simp only [Act.put,sA,sZ,sS,i64_w,i32_w];rfl
      refine pure_ (i:=12) (N:=some 26) (v:=undef) (a':=?_) #[true,true,true,true,true,true,true,true,true,true,true,true,true,false,false,false,false,false,false,false,false,false,false,false,false,false,false,false,false,false,false] rfl rfl (any_of HT_.out (by kernel_rfl)) (fun _ _ _ h=>h) (Or.inr ⟨by rfl,rfl⟩) ?_ ?_;rotate_left
      ·simp only [Act.put,sA,sZ,sS,i64_w,i32_w];rfl
      refine pure_ (i:=13) (N:=some 27) (v:=undef) (a':=?_) #[true,true,true,true,true,true,true,true,true,true,true,true,true,true,false,false,false,false,false,false,false,false,false,false,false,false,false,false,false,false,false] rfl rfl (any_of HT_.out (by kernel_rfl)) (fun _ _ _ h=>h) (Or.inr ⟨by rfl,rfl⟩) ?_ ?_;rotate_left
      ·simp only [Act.put,sA,sZ,sS,i64_w,i32_w];rfl
      refine pure_ (i:=14) (N:=some 28) (v:=undef) (a':=?_) #[true,true,true,true,true,true,true,true,true,true,true,true,true,true,true,false,false,false,false,false,false,false,false,false,false,false,false,false,false,false,false] rfl rfl (any_of HT_.out (by kernel_rfl)) (fun _ _ _ h=>h) (Or.inr ⟨by rfl,rfl⟩) ?_ ?_;rotate_left
      ·simp only [Act.put,sA,sZ,sS,i64_w,i32_w];rfl
      refine pure_ (i:=15) (N:=some 29) (v:=undef) (a':=?_) #[true,true,true,true,true,true,true,true,true,true,true,true,true,true,true,true,false,false,false,false,false,false,false,false,false,false,false,false,false,false,false] rfl rfl (any_of HT_.out (by kernel_rfl)) (fun _ _ _ h=>h) (Or.inr ⟨by rfl,rfl⟩) ?_ ?_;rotate_left
      ·simp only [Act.put,sA,sZ,sS,i64_w,i32_w];rfl
      refine pure_ (i:=16) (N:=some 30) (v:=undef) (a':=?_) #[true,true,true,true,true,true,true,true,true,true,true,true,true,true,true,true,true,false,false,false,false,false,false,false,false,false,false,false,false,false,false] rfl rfl (any_of HT_.out (by kernel_rfl)) (fun _ _ _ h=>h) (Or.inr ⟨by rfl,rfl⟩) ?_ ?_;rotate_left
      ·simp only [Act.put,sA,sZ,sS,i64_w,i32_w];rfl
      refine pure_ (i:=17) (N:=some 31) (v:=undef) (a':=?_) #[true,true,true,true,true,true,true,true,true,true,true,true,true,true,true,true,true,true,false,false,false,false,false,false,false,false,false,false,false,false,false] rfl rfl (any_of HT_.out (by kernel_rfl)) (fun _ _ _ h=>h) (Or.inr ⟨by rfl,rfl⟩) ?_ ?_;rotate_left
      ·simp only [Act.put,sA,sZ,sS,i64_w,i32_w];rfl
      refine pure_ (i:=18) (N:=some 32) (v:=undef) (a':=?_) #[true,true,true,true,true,true,true,true,true,true,true,true,true,true,true,true,true,true,true,false,false,false,false,false,false,false,false,false,false,false,false] rfl rfl (any_of HT_.out (by kernel_rfl)) (fun _ _ _ h=>h) (Or.inr ⟨by rfl,rfl⟩) ?_ ?_;rotate_left
      ·simp only [Act.put,sA,sZ,sS,i64_w,i32_w];rfl
      refine pure_ (i:=19) (N:=some 33) (v:=?_) (a':=?_) #[true,true,true,true,true,true,true,true,true,true,true,true,true,true,true,true,true,true,true,true,false,false,false,false,false,false,false,false,false,false,false] rfl rfl (any_of HT_.out (by kernel_rfl)) (fun _ _ _ h=>h) (Or.inl ⟨by rfl,?_⟩) ?_ ?_;rotate_left
      ·intro w';go_simp
       with_reducible rfl
      rotate_left
      ·simp only [Act.put,sA,sZ,sS,i64_w,i32_w];rfl
      refine pure_ (i:=20) (N:=some 34) (v:=?_) (a':=?_) #[true,true,true,true,true,true,true,true,true,true,true,true,true,true,true,true,true,true,true,true,true,false,false,false,false,false,false,false,false,false,false] rfl rfl (any_of HT_.out (by kernel_rfl)) (fun _ _ _ h=>h) (Or.inl ⟨by rfl,?_⟩) ?_ ?_;rotate_left
      ·intro w';go_simp
       with_reducible rfl
      rotate_left
      ·simp only [Act.put,sA,sZ,sS,i64_w,i32_w];rfl
      refine pure_ (i:=21) (N:=some 35) (v:=undef) (a':=?_) #[true,true,true,true,true,true,true,true,true,true,true,true,true,true,true,true,true,true,true,true,true,true,false,false,false,false,false,false,false,false,false] rfl rfl (any_of HT_.out (by kernel_rfl)) (fun _ _ _ h=>h) (Or.inr ⟨by rfl,rfl⟩) ?_ ?_;rotate_left
      ·simp only [Act.put,sA,sZ,sS,i64_w,i32_w];rfl
      refine pure_ (i:=22) (N:=some 36) (v:=undef) (a':=?_) #[true,true,true,true,true,true,true,true,true,true,true,true,true,true,true,true,true,true,true,true,true,true,true,false,false,false,false,false,false,false,false] rfl rfl (any_of HT_.out (by kernel_rfl)) (fun _ _ _ h=>h) (Or.inr ⟨by rfl,rfl⟩) ?_ ?_;rotate_left
      ·simp only [Act.put,sA,sZ,sS,i64_w,i32_w];rfl
      refine pure_ (i:=23) (N:=some 37) (v:=undef) (a':=?_) #[true,true,true,true,true,true,true,true,true,true,true,true,true,true,true,true,true,true,true,true,true,true,true,true,false,false,false,false,false,false,false] rfl rfl (any_of HT_.out (by kernel_rfl)) (fun _ _ _ h=>h) (Or.inr ⟨by rfl,rfl⟩) ?_ ?_;rotate_left
      ·simp only [Act.put,sA,sZ,sS,i64_w,i32_w];rfl
      refine pure_ (i:=24) (N:=some 38) (v:=undef) (a':=?_) #[true,true,true,true,true,true,true,true,true,true,true,true,true,true,true,true,true,true,true,true,true,true,true,true,true,false,false,false,false,false,false] rfl rfl (any_of HT_.out (by kernel_rfl)) (fun _ _ _ h=>h) (Or.inr ⟨by rfl,rfl⟩) ?_ ?_;rotate_left
      ·simp only [Act.put,sA,sZ,sS,i64_w,i32_w];rfl
      refine pure_ (i:=25) (N:=some 39) (v:=undef) (a':=?_) #[true,true,true,true,true,true,true,true,true,true,true,true,true,true,true,true,true,true,true,true,true,true,true,true,true,true,false,false,false,false,false] rfl rfl (any_of HT_.out (by kernel_rfl)) (fun _ _ _ h=>h) (Or.inr ⟨by rfl,rfl⟩) ?_ ?_;rotate_left
      ·simp only [Act.put,sA,sZ,sS,i64_w,i32_w];rfl
      refine pure_ (i:=26) (N:=some 40) (v:=undef) (a':=?_) #[true,true,true,true,true,true,true,true,true,true,true,true,true,true,true,true,true,true,true,true,true,true,true,true,true,true,true,false,false,false,false] rfl rfl (any_of HT_.out (by kernel_rfl)) (fun _ _ _ h=>h) (Or.inr ⟨by rfl,rfl⟩) ?_ ?_;rotate_left
      ·simp only [Act.put,sA,sZ,sS,i64_w,i32_w];rfl
      refine pure_ (i:=27) (N:=some 41) (v:=undef) (a':=?_) #[true,true,true,true,true,true,true,true,true,true,true,true,true,true,true,true,true,true,true,true,true,true,true,true,true,true,true,true,false,false,false] rfl rfl (any_of HT_.out (by kernel_rfl)) (fun _ _ _ h=>h) (Or.inr ⟨by rfl,rfl⟩) ?_ ?_;rotate_left
      ·simp only [Act.put,sA,sZ,sS,i64_w,i32_w];rfl
      refine pure_ (i:=28) (N:=some 42) (v:=undef) (a':=?_) #[true,true,true,true,true,true,true,true,true,true,true,true,true,true,true,true,true,true,true,true,true,true,true,true,true,true,true,true,true,false,false] rfl rfl (any_of HT_.out (by kernel_rfl)) (fun _ _ _ h=>h) (Or.inr ⟨by rfl,rfl⟩) ?_ ?_;rotate_left
      ·simp only [Act.put,sA,sZ,sS,i64_w,i32_w];rfl
      refine pure_ (i:=29) (N:=some 43) (v:=undef) (a':=?_) #[true,true,true,true,true,true,true,true,true,true,true,true,true,true,true,true,true,true,true,true,true,true,true,true,true,true,true,true,true,true,false] rfl rfl (any_of HT_.out (by kernel_rfl)) (fun _ _ _ h=>h) (Or.inr ⟨by rfl,rfl⟩) ?_ ?_;rotate_left
      ·simp only [Act.put,sA,sZ,sS,i64_w,i32_w];rfl
      refine pure_ (i:=30) (N:=some 44) (v:=?_) (a':=?_) #[true,true,true,true,true,true,true,true,true,true,true,true,true,true,true,true,true,true,true,true,true,true,true,true,true,true,true,true,true,true,true] rfl rfl (any_of HT_.out (by kernel_rfl)) (fun _ _ _ h=>h) (Or.inl ⟨by rfl,?_⟩) ?_ ?_;rotate_left
      ·intro w';go_simp
       with_reducible rfl
      rotate_left
      ·simp only [Act.put,sA,sZ,sS,i64_w,i32_w];rfl
      refine done_ (done_of HT_.out (by kernel_rfl)) ?_
      try go_wp2
      go_roundg k1
      case measure=>have:=HK1.out;omega
      case rel=>exact ⟨(wrap64 (x11_1 + 1)),(by first|rfl|(simp;done)|(simp [*];done)),H',⟨by have:=HK1.out;omega⟩,⟨by (with_reducible repeat (first|refine blk_drewN ?_ _|refine blk_drew ?_|refine blk_alloc ?_ _));exact BK310.out⟩,⟨by repeat (first|(with_reducible first|exact HB.out|apply below_alloc|apply pw_below_drewN|apply below_drew1|refine below_set ?_ GE310.out)|exact HB.out)⟩⟩
     ·replace c11:=Bool.eq_false_iff.mpr c11;subst c11;have H1:(if 0 ≤ a2 then (if 0 ≤ (Go.bits .or .i64 x11_1 (shl .i64 1 a2)) then (if (Go.bits .or .i64 x11_1 (shl .i64 1 a2)) < (l0_1.length:Int) then (if rdOf false l0_1 (Go.bits .or .i64 x11_1 (shl .i64 1 a2)) = true then (if 0 ≤ a1 then (if 0 ≤ (Go.bits .or .i64 x11_1 (shl .i64 1 a1)) then (if (Go.bits .or .i64 x11_1 (shl .i64 1 a1)) < (l0_1.length:Int) then (if (rdOf false l0_1 (Go.bits .or .i64 x11_1 (shl .i64 1 a1)) = true) then (impl_votes_isWorth.l0 k1 a1 a2 (l0_1.length:Int) (wrap64 (x11_1 + 1)) a0_0 l0_1) else (some false)) else (none)) else (none)) else (none)) else (impl_votes_isWorth.l0 k1 a1 a2 (l0_1.length:Int) (wrap64 (x11_1 + 1)) a0_0 l0_1)) else (none)) else (none)) else (none)) = some r:=by rw [if_neg (show ¬ (false = true) by decide)] at H;exact H
      clear H;have H:=H1;clear H1;by_cases c13:0 ≤ a2
      ·rw [if_pos c13] at H;have c13b0:=eq_true c13;have c13b1:decide (0 ≤ a2) = true:=decide_eq_true c13;clear c13;obtain ⟨ji14,hji14⟩:∃ j_:Int,(shl .i64 1 a2) = j_:=⟨_,rfl⟩;replace H:(if 0 ≤ (Go.bits .or .i64 x11_1 (ji14)) then (if (Go.bits .or .i64 x11_1 (ji14)) < (l0_1.length:Int) then (if rdOf false l0_1 (Go.bits .or .i64 x11_1 (ji14)) = true then (if 0 ≤ a1 then (if 0 ≤ (Go.bits .or .i64 x11_1 (shl .i64 1 a1)) then (if (Go.bits .or .i64 x11_1 (shl .i64 1 a1)) < (l0_1.length:Int) then (if (rdOf false l0_1 (Go.bits .or .i64 x11_1 (shl .i64 1 a1)) = true) then (impl_votes_isWorth.l0 k1 a1 a2 (l0_1.length:Int) (wrap64 (x11_1 + 1)) a0_0 l0_1) else (some false)) else (none)) else (none)) else (none)) else (impl_votes_isWorth.l0 k1 a1 a2 (l0_1.length:Int) (wrap64 (x11_1 + 1)) a0_0 l0_1)) else (none)) else (none)) = some r:=by first|(rw [hji14] at H;exact H)|(simp only [hji14] at H ⊢;exact H)
       (try rw [hji14] at A7)
       (try rw [hji14] at A10)
       have hji14_:(IntKind.i64.wrap (1 * 2 ^ min a2.toNat 64)) = ji14:=hji14;have hji14z:a2 ≤ 64 → (IntKind.i64.wrap (1 * 2 ^ a2.toNat)) = ji14:=shl_small hji14;have hji14u:(IntKind.i64.wrap (2 ^ min a2.toNat 64)) = ji14:=by have h_:=hji14_;rw [Int.one_mul] at h_;exact h_
       have hji14v:a2 ≤ 64 → (IntKind.i64.wrap (2 ^ a2.toNat)) = ji14:=fun hle_=>by have h_:=hji14z hle_;rw [Int.one_mul] at h_;exact h_
       have hji14y:(wrap64 (1 * 2 ^ min a2.toNat 64)) = ji14:=(i64_w _).symm.trans hji14_;have hji14x:a2 ≤ 64 → (wrap64 (1 * 2 ^ a2.toNat)) = ji14:=fun h_=>(i64_w _).symm.trans (hji14z h_)
       by_cases c15:0 ≤ (Go.bits .or .i64 x11_1 (ji14))
       ·rw [if_pos c15] at H;have c15b0:decide (0 ≤ (Go.bits .or .i64 x11_1 (ji14))) = true:=decide_eq_true c15;clear c15;by_cases c16:(Go.bits .or .i64 x11_1 (ji14)) < (l0_1.length:Int)
        ·rw [if_pos c16] at H;have c16b0:decide ((Go.bits .or .i64 x11_1 (ji14)) < (l0_1.length:Int)) = true:=decide_eq_true c16;clear c16;obtain ⟨bq17,hbq17⟩:∃ b_:Bool,b_ = (rdOf false l0_1 (Go.bits .or .i64 x11_1 (ji14))):=⟨_,rfl⟩;replace H:(if bq17 = true then (if 0 ≤ a1 then (if 0 ≤ (Go.bits .or .i64 x11_1 (shl .i64 1 a1)) then (if (Go.bits .or .i64 x11_1 (shl .i64 1 a1)) < (l0_1.length:Int) then (if (rdOf false l0_1 (Go.bits .or .i64 x11_1 (shl .i64 1 a1)) = true) then (impl_votes_isWorth.l0 k1 a1 a2 (l0_1.length:Int) (wrap64 (x11_1 + 1)) a0_0 l0_1) else (some false)) else (none)) else (none)) else (none)) else (impl_votes_isWorth.l0 k1 a1 a2 (l0_1.length:Int) (wrap64 (x11_1 + 1)) a0_0 l0_1)) = some r:=by rw [← hbq17] at H;exact H
         have Nbq17:=Aside0.mk hbq17;clear hbq17;by_cases c18:bq17 = true
         ·subst c18;have H1:(if 0 ≤ a1 then (if 0 ≤ (Go.bits .or .i64 x11_1 (shl .i64 1 a1)) then (if (Go.bits .or .i64 x11_1 (shl .i64 1 a1)) < (l0_1.length:Int) then (if (rdOf false l0_1 (Go.bits .or .i64 x11_1 (shl .i64 1 a1)) = true) then (impl_votes_isWorth.l0 k1 a1 a2 (l0_1.length:Int) (wrap64 (x11_1 + 1)) a0_0 l0_1) else (some false)) else (none)) else (none)) else (none)) = some r:=by rw [if_pos rfl] at H;exact H
          clear H;have H:=H1;clear H1;by_cases c19:0 ≤ a1
          ·rw [if_pos c19] at H;have c19b0:=eq_true c19;have c19b1:decide (0 ≤ a1) = true:=decide_eq_true c19;clear c19;obtain ⟨ji20,hji20⟩:∃ j_:Int,(shl .i64 1 a1) = j_:=⟨_,rfl⟩;replace H:(if 0 ≤ (Go.bits .or .i64 x11_1 (ji20)) then (if (Go.bits .or .i64 x11_1 (ji20)) < (l0_1.length:Int) then (if (rdOf false l0_1 (Go.bits .or .i64 x11_1 (ji20)) = true) then (impl_votes_isWorth.l0 k1 a1 a2 (l0_1.length:Int) (wrap64 (x11_1 + 1)) a0_0 l0_1) else (some false)) else (none)) else (none)) = some r:=by first|(rw [hji20] at H;exact H)|(simp only [hji20] at H ⊢;exact H)
           (try rw [hji20] at A7)
           (try rw [hji20] at A10)
           have hji20_:(IntKind.i64.wrap (1 * 2 ^ min a1.toNat 64)) = ji20:=hji20;have hji20z:a1 ≤ 64 → (IntKind.i64.wrap (1 * 2 ^ a1.toNat)) = ji20:=shl_small hji20;have hji20u:(IntKind.i64.wrap (2 ^ min a1.toNat 64)) = ji20:=by have h_:=hji20_;rw [Int.one_mul] at h_;exact h_
           have hji20v:a1 ≤ 64 → (IntKind.i64.wrap (2 ^ a1.toNat)) = ji20:=fun hle_=>by have h_:=hji20z hle_;rw [Int.one_mul] at h_;exact h_
           have hji20y:(wrap64 (1 * 2 ^ min a1.toNat 64)) = ji20:=(i64_w _).symm.trans hji20_;have hji20x:a1 ≤ 64 → (wrap64 (1 * 2 ^ a1.toNat)) = ji20:=fun h_=>(i64_w _).symm.trans (hji20z h_)
           by_cases c21:0 ≤ (Go.bits .or .i64 x11_1 (ji20))
           ·rw [if_pos c21] at H;have c21b0:decide (0 ≤ (Go.bits .or .i64 x11_1 (ji20))) = true:=decide_eq_true c21;clear c21;by_cases c22:(Go.bits .or .i64 x11_1 (ji20)) < (l0_1.length:Int)
            ·rw [if_pos c22] at H;have c22b0:decide ((Go.bits .or .i64 x11_1 (ji20)) < (l0_1.length:Int)) = true:=decide_eq_true c22;clear c22;obtain ⟨bq23,hbq23⟩:∃ b_:Bool,b_ = (rdOf false l0_1 (Go.bits .or .i64 x11_1 (ji20))):=⟨_,rfl⟩;replace H:(if (bq23 = true) then (impl_votes_isWorth.l0 k1 a1 a2 (l0_1.length:Int) (wrap64 (x11_1 + 1)) a0_0 l0_1) else (some false)) = some r:=by rw [← hbq23] at H;exact H
             have Nbq23:=Aside0.mk hbq23;clear hbq23;by_cases c24:(bq23 = true)
             ·subst c24;have H1:(impl_votes_isWorth.l0 k1 a1 a2 (l0_1.length:Int) (wrap64 (x11_1 + 1)) a0_0 l0_1) = some r:=by rw [if_pos rfl] at H;exact H
              clear H;have H:=H1;clear H1;have H':=Aside0.mk H;clear H
              try go_wp2
              have n0_:=Aside0.mk (blk_drew BK310.out);have n1_:=Aside0.mk (below_drew1 HB.out);clear BK310;clear HB;have BK310:=n0_;have HB:=n1_;clear n0_ n1_;have p313:0 ≤ ((Go.bits .or .i64 x11_1 (ji14)):Int):=of_decide_eq_true ab;have q313:(Go.bits .or .i64 x11_1 (ji14)) < (l0_1.length:Int):=of_decide_eq_true ab;obtain ⟨ad313,e313,hx313_0⟩:=Kd.at_bool HR0_1.out (Go.bits .or .i64 x11_1 (ji14)) p313 q313;have hw313_0:=hx313_0;(try rw [← Nbq17.out] at hw313_0)
              (try rw [← Nbq23.out] at hw313_0)
              (try rw [← Nbq17.out] at hx313_0)
              (try rw [← Nbq23.out] at hx313_0)
              cases e313
              replace hx313_0:=(HB.out.cell (World.block_lt_of_cell? w _ hx313_0)).trans hx313_0;replace p313:=eq_true p313;replace q313:=eq_true q313;have p314:0 ≤ ((Go.bits .or .i64 x11_1 (ji20)):Int):=of_decide_eq_true ab;have q314:(Go.bits .or .i64 x11_1 (ji20)) < (l0_1.length:Int):=of_decide_eq_true ab;obtain ⟨ad314,e314,hx314_0⟩:=Kd.at_bool HR0_1.out (Go.bits .or .i64 x11_1 (ji20)) p314 q314;have hw314_0:=hx314_0;(try rw [← Nbq17.out] at hw314_0)
              (try rw [← Nbq23.out] at hw314_0)
              (try rw [← Nbq17.out] at hx314_0)
              (try rw [← Nbq23.out] at hx314_0)
              obtain rfl:ad313 = ad314:=(by injection e314);replace hx314_0:=(HB.out.cell (World.block_lt_of_cell? w _ hx314_0)).trans hx314_0;replace p314:=eq_true p314;replace q314:=eq_true q314;refine start_ (n:=31) (S:=fun w'=>w'.cell? ⟨gb310,0,none⟩ = some (.int .i64 a0_0) ∧ w'.cell? ⟨gb310,1,none⟩ = some (.slice (some ad313) l0_1.length c0_1) ∧ w'.cell? (ad313.add ((Go.bits .or .i64 x11_1 (ji14))).toNat) = some (.bool true) ∧ w'.cell? (ad313.add ((Go.bits .or .i64 x11_1 (ji20))).toNat) = some (.bool true)) (ds:=[]) #[false,false,false,false,false,false,false,false,false,false,false,false,false,false,false,false,false,false,false,false,false,false,false,false,false,false,false,false,false,false,false] (by kernel_rfl) rfl rfl ⟨(blk_cell BK310.out 0).trans rfl,(blk_cell BK310.out 1).trans rfl,((HB.out.cell (World.block_lt_of_cell? w _ hw313_0)).trans hw313_0),((HB.out.cell (World.block_lt_of_cell? w _ hw314_0)).trans hw314_0)⟩ (fun hHeld=>?_);refine with_tabW impl_votes_isWorth.tab4 impl_votes_isWorth.bits4 (fun HT_ HW_=>?_)
              generalize wr.drew = w25 at BK310 HB hx313_0 hx314_0 hHeld ⊢
              refine pure_ (i:=0) (N:=some 14) (v:=?_) (a':=?_) #[true,false,false,false,false,false,false,false,false,false,false,false,false,false,false,false,false,false,false,false,false,false,false,false,false,false,false,false,false,false,false] rfl rfl (any_of HT_.out (by kernel_rfl)) (fun _ _ _ h=>h) (Or.inl ⟨by rfl,?_⟩) ?_ ?_;rotate_left
              ·intro w';go_simp
               with_reducible rfl
              rotate_left
              ·simp only [Act.put,sA,sZ,sS,i64_w,i32_w];rfl
              refine pure_ (i:=1) (N:=some 15) (v:=?_) (a':=?_) #[true,true,false,false,false,false,false,false,false,false,false,false,false,false,false,false,false,false,false,false,false,false,false,false,false,false,false,false,false,false,false] rfl rfl (any_of HT_.out (by kernel_rfl)) (fun _ _ _ h=>h) (Or.inl ⟨by rfl,?_⟩) ?_ ?_;rotate_left
              ·intro w';go_simp
               with_reducible rfl
              rotate_left
              ·simp only [Act.put,sA,sZ,sS,i64_w,i32_w];rfl
              refine one_ (i:=2) (N:=some 16) #[true,true,true,false,false,false,false,false,false,false,false,false,false,false,false,false,false,false,false,false,false,false,false,false,false,false,false,false,false,false,false] rfl rfl (one_of HT_.out (by kernel_rfl)) (by decide) (fun K hK=>?_);refine goes_ Try.func134 (by kernel_rfl) rfl #[.int .i64 x11_1,.int .i64 a1] (by rfl) rfl rfl mq ?_
              with_reducible refine (impl_has.calls x11_1 a1 false _ A7.out).mono ?_
              rintro e w' ⟨rfl,⟨nd,rfl⟩⟩
              refine ⟨_,rfl,?_⟩;refine hK.out _ _ ⟨(blk_cell BK310.out 0).trans rfl,(blk_cell BK310.out 1).trans rfl,((HB.out.cell (World.block_lt_of_cell? w _ hw313_0)).trans hw313_0),((HB.out.cell (World.block_lt_of_cell? w _ hw314_0)).trans hw314_0)⟩ (fun hHeld=>?_);clear hK K;refine norm_ (a':=?_) ?_ ?_;rotate_left
              ·show Act.put _ (some 16) _ = _;simp only [Act.put,sA,sZ,sS,i64_w,i32_w];rfl
              refine pure_ (i:=3) (N:=some 17) (v:=?_) (a':=?_) #[true,true,true,true,false,false,false,false,false,false,false,false,false,false,false,false,false,false,false,false,false,false,false,false,false,false,false,false,false,false,false] rfl rfl (any_of HT_.out (by kernel_rfl)) (fun _ _ _ h=>h) (Or.inl ⟨by rfl,?_⟩) ?_ ?_;rotate_left
              ·intro w';go_simp
               with_reducible rfl
              rotate_left
              ·simp only [Act.put,sA,sZ,sS,i64_w,i32_w];rfl
              refine pure_ (i:=4) (N:=some 18) (v:=?_) (a':=?_) #[true,true,true,true,true,false,false,false,false,false,false,false,false,false,false,false,false,false,false,false,false,false,false,false,false,false,false,false,false,false,false] rfl rfl (any_of HT_.out (by kernel_rfl)) (fun _ _ _ h=>h) (Or.inl ⟨by rfl,?_⟩) ?_ ?_;rotate_left
              ·intro w';go_simp
               with_reducible rfl
              rotate_left
              ·simp only [Act.put,sA,sZ,sS,i64_w,i32_w];rfl
              refine pure_ (i:=5) (N:=some 19) (v:=?_) (a':=?_) #[true,true,true,true,true,true,false,false,false,false,false,false,false,false,false,false,false,false,false,false,false,false,false,false,false,false,false,false,false,false,false] rfl rfl (any_of HT_.out (by kernel_rfl)) (fun _ _ _ h=>h) (Or.inl ⟨by rfl,?_⟩) ?_ ?_;rotate_left
              ·intro w';go_simp
               with_reducible rfl
              rotate_left
              ·simp only [Act.put,sA,sZ,sS,i64_w,i32_w];rfl
              refine pure_ (i:=6) (N:=some 20) (v:=?_) (a':=?_) #[true,true,true,true,true,true,true,false,false,false,false,false,false,false,false,false,false,false,false,false,false,false,false,false,false,false,false,false,false,false,false] rfl rfl (any_of HT_.out (by kernel_rfl)) (fun _ _ _ h=>h) (Or.inl ⟨by rfl,?_⟩) ?_ ?_;rotate_left
              ·intro w';go_simp
               with_reducible rfl
              rotate_left
              ·simp only [Act.put,sA,sZ,sS,i64_w,i32_w];rfl
              refine one_ (i:=7) (N:=some 21) #[true,true,true,true,true,true,true,true,false,false,false,false,false,false,false,false,false,false,false,false,false,false,false,false,false,false,false,false,false,false,false] rfl rfl (one_of HT_.out (by kernel_rfl)) (by decide) (fun K hK=>?_);refine goes_ Try.func134 (by kernel_rfl) rfl #[.int .i64 x11_1,.int .i64 a2] (by rfl) rfl rfl mq ?_
              with_reducible refine (impl_has.calls x11_1 a2 false _ A10.out).mono ?_
              rintro e w' ⟨rfl,⟨nd,rfl⟩⟩
              refine ⟨_,rfl,?_⟩;refine hK.out _ _ ⟨(blk_cell BK310.out 0).trans rfl,(blk_cell BK310.out 1).trans rfl,((HB.out.cell (World.block_lt_of_cell? w _ hw313_0)).trans hw313_0),((HB.out.cell (World.block_lt_of_cell? w _ hw314_0)).trans hw314_0)⟩ (fun hHeld=>?_);clear hK K;refine norm_ (a':=?_) ?_ ?_;rotate_left
              ·show Act.put _ (some 21) _ = _;simp only [Act.put,sA,sZ,sS,i64_w,i32_w];rfl
              refine pure_ (i:=8) (N:=some 22) (v:=?_) (a':=?_) #[true,true,true,true,true,true,true,true,true,false,false,false,false,false,false,false,false,false,false,false,false,false,false,false,false,false,false,false,false,false,false] rfl rfl (any_of HT_.out (by kernel_rfl)) (fun _ _ _ h=>h) (Or.inl ⟨by rfl,?_⟩) ?_ ?_;rotate_left
              ·intro w';go_simp
               with_reducible rfl
              rotate_left
              ·simp only [Act.put,sA,sZ,sS,i64_w,i32_w];rfl
              refine pure_ (i:=9) (N:=some 23) (v:=?_) (a':=?_) #[true,true,true,true,true,true,true,true,true,true,false,false,false,false,false,false,false,false,false,false,false,false,false,false,false,false,false,false,false,false,false] rfl rfl (any_of HT_.out (by kernel_rfl)) (fun _ _ _ h=>h) (Or.inl ⟨by rfl,?_⟩) ?_ ?_;rotate_left
              ·intro w';go_simp
               with_reducible rfl
              rotate_left
              ·simp only [Act.put,sA,sZ,sS,i64_w,i32_w];rfl
              refine pure_ (i:=10) (N:=some 24) (v:=?_) (a':=?_) #[true,true,true,true,true,true,true,true,true,true,true,false,false,false,false,false,false,false,false,false,false,false,false,false,false,false,false,false,false,false,false] rfl rfl (any_of HT_.out (by kernel_rfl)) (fun _ _ _ h=>h) (Or.inl ⟨by rfl,?_⟩) ?_ ?_;rotate_left
              ·intro w';go_simp
               with_reducible rfl
              rotate_left
              ·simp only [Act.put,sA,sZ,sS,i64_w,i32_w];rfl
              refine pure_ (i:=11) (N:=some 25) (v:=?_) (a':=?_) #[true,true,true,true,true,true,true,true,true,true,true,true,false,false,false,false,false,false,false,false,false,false,false,false,false,false,false,false,false,false,false] rfl rfl (any_of HT_.out (by kernel_rfl)) (fun _ _ _ h=>h) (Or.inl ⟨by rfl,?_⟩) ?_ ?_;rotate_left
              ·intro w';go_simp
               with_reducible rfl
              rotate_left
              ·simp only [Act.put,sA,sZ,sS,i64_w,i32_w];rfl
              refine pure_ (i:=13) (N:=some 27) (v:=?_) (a':=?_) #[true,true,true,true,true,true,true,true,true,true,true,true,false,true,false,false,false,false,false,false,false,false,false,false,false,false,false,false,false,false,false] rfl rfl (any_of HT_.out (by kernel_rfl)) (fun _ _ _ h=>h) (Or.inl ⟨by rfl,?_⟩) ?_ ?_;rotate_left
              ·intro w';go_simp
               with_reducible rfl
              rotate_left
              ·simp only [Act.put,sA,sZ,sS,i64_w,i32_w];rfl
              refine pure_ (i:=14) (N:=some 28) (v:=?_) (a':=?_) #[true,true,true,true,true,true,true,true,true,true,true,true,false,true,true,false,false,false,false,false,false,false,false,false,false,false,false,false,false,false,false] rfl rfl (any_of HT_.out (by kernel_rfl)) (fun _ _ _ h=>h) (Or.inl ⟨by rfl,?_⟩) ?_ ?_;rotate_left
              ·intro w';go_simp
               with_reducible rfl
              rotate_left
              ·simp only [Act.put,sA,sZ,sS,i64_w,i32_w];rfl
              refine pure_ (i:=15) (N:=some 29) (v:=?_) (a':=?_) #[true,true,true,true,true,true,true,true,true,true,true,true,false,true,true,true,false,false,false,false,false,false,false,false,false,false,false,false,false,false,false] rfl rfl (any_of HT_.out (by kernel_rfl)) (fun _ _ _ h=>h) (Or.inl ⟨by rfl,?_⟩) ?_ ?_;rotate_left
              ·intro w';go_simp
               with_reducible rfl
              rotate_left
              ·simp only [Act.put,sA,sZ,sS,i64_w,i32_w];rfl
              refine pure_ (i:=16) (N:=some 30) (v:=?_) (a':=?_) #[true,true,true,true,true,true,true,true,true,true,true,true,false,true,true,true,true,false,false,false,false,false,false,false,false,false,false,false,false,false,false] rfl rfl (any_of HT_.out (by kernel_rfl)) (fun _ _ _ h=>h) (Or.inl ⟨by rfl,?_⟩) ?_ ?_;rotate_left
              ·intro w';go_simp
               with_reducible rfl
              rotate_left
              ·simp only [Act.put,sA,sZ,sS,i64_w,i32_w];rfl
              refine take_ (i:=12) (N:=some 26) (v:=?_) (a':=?_) #[true,true,true,true,true,true,true,true,true,true,true,true,true,true,true,true,true,false,false,false,false,false,false,false,false,false,false,false,false,false,false] rfl rfl (take_ofW HT_.out HW_.out (by kernel_rfl)) (fun _ _ _ h=>h) (Or.inl ⟨by rfl,?_⟩) hHeld ?_ ?_;rotate_left
              ·rintro w' ⟨s0,s1,s2,s3⟩
               go_simp
               with_reducible rfl
              rotate_left
              ·simp only [Act.put,sA,sZ,sS,i64_w,i32_w];rfl
              refine pure_ (i:=17) (N:=some 31) (v:=?_) (a':=?_) #[true,true,true,true,true,true,true,true,true,true,true,true,true,true,true,true,true,true,false,false,false,false,false,false,false,false,false,false,false,false,false] rfl rfl (any_of HT_.out (by kernel_rfl)) (fun _ _ _ h=>h) (Or.inl ⟨by rfl,?_⟩) ?_ ?_;rotate_left
              ·intro w';go_simp
               with_reducible rfl
              rotate_left
              ·simp only [Act.put,sA,sZ,sS,i64_w,i32_w];rfl
              refine take_ (i:=18) (N:=some 32) (v:=?_) (a':=?_) #[true,true,true,true,true,true,true,true,true,true,true,true,true,true,true,true,true,true,true,false,false,false,false,false,false,false,false,false,false,false,false] rfl rfl (take_ofW HT_.out HW_.out (by kernel_rfl)) (fun _ _ _ h=>h) (Or.inl ⟨by rfl,?_⟩) hHeld ?_ ?_;rotate_left
              ·rintro w' ⟨s0,s1,s2,s3⟩
               go_simp
               with_reducible rfl
              rotate_left
              ·simp only [Act.put,sA,sZ,sS,i64_w,i32_w];rfl
              refine pure_ (i:=19) (N:=some 33) (v:=?_) (a':=?_) #[true,true,true,true,true,true,true,true,true,true,true,true,true,true,true,true,true,true,true,true,false,false,false,false,false,false,false,false,false,false,false] rfl rfl (any_of HT_.out (by kernel_rfl)) (fun _ _ _ h=>h) (Or.inl ⟨by rfl,?_⟩) ?_ ?_;rotate_left
              ·intro w';go_simp
               with_reducible rfl
              rotate_left
              ·simp only [Act.put,sA,sZ,sS,i64_w,i32_w];rfl
              refine pure_ (i:=20) (N:=some 34) (v:=?_) (a':=?_) #[true,true,true,true,true,true,true,true,true,true,true,true,true,true,true,true,true,true,true,true,true,false,false,false,false,false,false,false,false,false,false] rfl rfl (any_of HT_.out (by kernel_rfl)) (fun _ _ _ h=>h) (Or.inl ⟨by rfl,?_⟩) ?_ ?_;rotate_left
              ·intro w';go_simp
               with_reducible rfl
              rotate_left
              ·simp only [Act.put,sA,sZ,sS,i64_w,i32_w];rfl
              refine pure_ (i:=21) (N:=some 35) (v:=?_) (a':=?_) #[true,true,true,true,true,true,true,true,true,true,true,true,true,true,true,true,true,true,true,true,true,true,false,false,false,false,false,false,false,false,false] rfl rfl (any_of HT_.out (by kernel_rfl)) (fun _ _ _ h=>h) (Or.inl ⟨by rfl,?_⟩) ?_ ?_;rotate_left
              ·intro w';go_simp
               with_reducible rfl
              rotate_left
              ·simp only [Act.put,sA,sZ,sS,i64_w,i32_w];rfl
              refine pure_ (i:=23) (N:=some 37) (v:=?_) (a':=?_) #[true,true,true,true,true,true,true,true,true,true,true,true,true,true,true,true,true,true,true,true,true,true,false,true,false,false,false,false,false,false,false] rfl rfl (any_of HT_.out (by kernel_rfl)) (fun _ _ _ h=>h) (Or.inl ⟨by rfl,?_⟩) ?_ ?_;rotate_left
              ·intro w';go_simp
               with_reducible rfl
              rotate_left
              ·simp only [Act.put,sA,sZ,sS,i64_w,i32_w];rfl
              refine pure_ (i:=24) (N:=some 38) (v:=?_) (a':=?_) #[true,true,true,true,true,true,true,true,true,true,true,true,true,true,true,true,true,true,true,true,true,true,false,true,true,false,false,false,false,false,false] rfl rfl (any_of HT_.out (by kernel_rfl)) (fun _ _ _ h=>h) (Or.inl ⟨by rfl,?_⟩) ?_ ?_;rotate_left
              ·intro w';go_simp
               with_reducible rfl
              rotate_left
              ·simp only [Act.put,sA,sZ,sS,i64_w,i32_w];rfl
              refine pure_ (i:=25) (N:=some 39) (v:=?_) (a':=?_) #[true,true,true,true,true,true,true,true,true,true,true,true,true,true,true,true,true,true,true,true,true,true,false,true,true,true,false,false,false,false,false] rfl rfl (any_of HT_.out (by kernel_rfl)) (fun _ _ _ h=>h) (Or.inl ⟨by rfl,?_⟩) ?_ ?_;rotate_left
              ·intro w';go_simp
               with_reducible rfl
              rotate_left
              ·simp only [Act.put,sA,sZ,sS,i64_w,i32_w];rfl
              refine pure_ (i:=26) (N:=some 40) (v:=?_) (a':=?_) #[true,true,true,true,true,true,true,true,true,true,true,true,true,true,true,true,true,true,true,true,true,true,false,true,true,true,true,false,false,false,false] rfl rfl (any_of HT_.out (by kernel_rfl)) (fun _ _ _ h=>h) (Or.inl ⟨by rfl,?_⟩) ?_ ?_;rotate_left
              ·intro w';go_simp
               with_reducible rfl
              rotate_left
              ·simp only [Act.put,sA,sZ,sS,i64_w,i32_w];rfl
              refine take_ (i:=22) (N:=some 36) (v:=?_) (a':=?_) #[true,true,true,true,true,true,true,true,true,true,true,true,true,true,true,true,true,true,true,true,true,true,true,true,true,true,true,false,false,false,false] rfl rfl (take_ofW HT_.out HW_.out (by kernel_rfl)) (fun _ _ _ h=>h) (Or.inl ⟨by rfl,?_⟩) hHeld ?_ ?_;rotate_left
              ·rintro w' ⟨s0,s1,s2,s3⟩
               go_simp
               with_reducible rfl
              rotate_left
              ·simp only [Act.put,sA,sZ,sS,i64_w,i32_w];rfl
              refine pure_ (i:=27) (N:=some 41) (v:=?_) (a':=?_) #[true,true,true,true,true,true,true,true,true,true,true,true,true,true,true,true,true,true,true,true,true,true,true,true,true,true,true,true,false,false,false] rfl rfl (any_of HT_.out (by kernel_rfl)) (fun _ _ _ h=>h) (Or.inl ⟨by rfl,?_⟩) ?_ ?_;rotate_left
              ·intro w';go_simp
               with_reducible rfl
              rotate_left
              ·simp only [Act.put,sA,sZ,sS,i64_w,i32_w];rfl
              refine take_ (i:=28) (N:=some 42) (v:=?_) (a':=?_) #[true,true,true,true,true,true,true,true,true,true,true,true,true,true,true,true,true,true,true,true,true,true,true,true,true,true,true,true,true,false,false] rfl rfl (take_ofW HT_.out HW_.out (by kernel_rfl)) (fun _ _ _ h=>h) (Or.inl ⟨by rfl,?_⟩) hHeld ?_ ?_;rotate_left
              ·rintro w' ⟨s0,s1,s2,s3⟩
               go_simp
               with_reducible rfl
              rotate_left
              ·simp only [Act.put,sA,sZ,sS,i64_w,i32_w];rfl
              refine pure_ (i:=29) (N:=some 43) (v:=?_) (a':=?_) #[true,true,true,true,true,true,true,true,true,true,true,true,true,true,true,true,true,true,true,true,true,true,true,true,true,true,true,true,true,true,false] rfl rfl (any_of HT_.out (by kernel_rfl)) (fun _ _ _ h=>h) (Or.inl ⟨by rfl,?_⟩) ?_ ?_;rotate_left
              ·intro w';go_simp
               with_reducible rfl
              rotate_left
              ·simp only [Act.put,sA,sZ,sS,i64_w,i32_w];rfl
              refine pure_ (i:=30) (N:=some 44) (v:=?_) (a':=?_) #[true,true,true,true,true,true,true,true,true,true,true,true,true,true,true,true,true,true,true,true,true,true,true,true,true,true,true,true,true,true,true] rfl rfl (any_of HT_.out (by kernel_rfl)) (fun _ _ _ h=>h) (Or.inl ⟨by rfl,?_⟩) ?_ ?_;rotate_left
              ·intro w';go_simp
               with_reducible rfl
              rotate_left
              ·simp only [Act.put,sA,sZ,sS,i64_w,i32_w];rfl
              refine done_ (done_of HT_.out (by kernel_rfl)) ?_
              try go_wp2
              go_roundg k1
              case measure=>have:=HK1.out;omega
              case rel=>exact ⟨(wrap64 (x11_1 + 1)),(by first|rfl|(simp;done)|(simp [*];done)),H',⟨by have:=HK1.out;omega⟩,⟨by (with_reducible repeat (first|refine blk_drewN ?_ _|refine blk_drew ?_|refine blk_alloc ?_ _));exact BK310.out⟩,⟨by repeat (first|(with_reducible first|exact HB.out|apply below_alloc|apply pw_below_drewN|apply below_drew1|refine below_set ?_ GE310.out)|exact HB.out)⟩⟩
             ·replace c24:=Bool.eq_false_iff.mpr c24;subst c24;have H1:(some false) = some r:=by rw [if_neg (show ¬ (false = true) by decide)] at H;exact H
              clear H;have H:=H1;clear H1;obtain rfl:=Option.some.inj H
              try go_wp2
              have n0_:=Aside0.mk (blk_drew BK310.out);have n1_:=Aside0.mk (below_drew1 HB.out);clear BK310;clear HB;have BK310:=n0_;have HB:=n1_;clear n0_ n1_;have p313:0 ≤ ((Go.bits .or .i64 x11_1 (ji14)):Int):=of_decide_eq_true ab;have q313:(Go.bits .or .i64 x11_1 (ji14)) < (l0_1.length:Int):=of_decide_eq_true ab;obtain ⟨ad313,e313,hx313_0⟩:=Kd.at_bool HR0_1.out (Go.bits .or .i64 x11_1 (ji14)) p313 q313;have hw313_0:=hx313_0;(try rw [← Nbq17.out] at hw313_0)
              (try rw [← Nbq23.out] at hw313_0)
              (try rw [← Nbq17.out] at hx313_0)
              (try rw [← Nbq23.out] at hx313_0)
              cases e313
              replace hx313_0:=(HB.out.cell (World.block_lt_of_cell? w _ hx313_0)).trans hx313_0;replace p313:=eq_true p313;replace q313:=eq_true q313;have p314:0 ≤ ((Go.bits .or .i64 x11_1 (ji20)):Int):=of_decide_eq_true ab;have q314:(Go.bits .or .i64 x11_1 (ji20)) < (l0_1.length:Int):=of_decide_eq_true ab;obtain ⟨ad314,e314,hx314_0⟩:=Kd.at_bool HR0_1.out (Go.bits .or .i64 x11_1 (ji20)) p314 q314;have hw314_0:=hx314_0;(try rw [← Nbq17.out] at hw314_0)
              (try rw [← Nbq23.out] at hw314_0)
              (try rw [← Nbq17.out] at hx314_0)
              (try rw [← Nbq23.out] at hx314_0)
              obtain rfl:ad313 = ad314:=(by injection e314);replace hx314_0:=(HB.out.cell (World.block_lt_of_cell? w _ hx314_0)).trans hx314_0;replace p314:=eq_true p314;replace q314:=eq_true q314;refine start_ (n:=31) (S:=fun w'=>w'.cell? ⟨gb310,0,none⟩ = some (.int .i64 a0_0) ∧ w'.cell? ⟨gb310,1,none⟩ = some (.slice (some ad313) l0_1.length c0_1) ∧ w'.cell? (ad313.add ((Go.bits .or .i64 x11_1 (ji14))).toNat) = some (.bool true) ∧ w'.cell? (ad313.add ((Go.bits .or .i64 x11_1 (ji20))).toNat) = some (.bool false)) (ds:=[]) #[false,false,false,false,false,false,false,false,false,false,false,false,false,false,false,false,false,false,false,false,false,false,false,false,false,false,false,false,false,false,false] (by kernel_rfl) rfl rfl ⟨(blk_cell BK310.out 0).trans rfl,(blk_cell BK310.out 1).trans rfl,((HB.out.cell (World.block_lt_of_cell? w _ hw313_0)).trans hw313_0),((HB.out.cell (World.block_lt_of_cell? w _ hw314_0)).trans hw314_0)⟩ (fun hHeld=>?_);refine with_tabW impl_votes_isWorth.tab4 impl_votes_isWorth.bits4 (fun HT_ HW_=>?_)
              generalize wr.drew = w26 at BK310 HB hx313_0 hx314_0 hHeld ⊢
              refine pure_ (i:=0) (N:=some 14) (v:=?_) (a':=?_) #[true,false,false,false,false,false,false,false,false,false,false,false,false,false,false,false,false,false,false,false,false,false,false,false,false,false,false,false,false,false,false] rfl rfl (any_of HT_.out (by kernel_rfl)) (fun _ _ _ h=>h) (Or.inl ⟨by rfl,?_⟩) ?_ ?_;rotate_left
              ·intro w';go_simp
               with_reducible rfl
              rotate_left
              ·simp only [Act.put,sA,sZ,sS,i64_w,i32_w];rfl
              refine pure_ (i:=1) (N:=some 15) (v:=?_) (a':=?_) #[true,true,false,false,false,false,false,false,false,false,false,false,false,false,false,false,false,false,false,false,false,false,false,false,false,false,false,false,false,false,false] rfl rfl (any_of HT_.out (by kernel_rfl)) (fun _ _ _ h=>h) (Or.inl ⟨by rfl,?_⟩) ?_ ?_;rotate_left
              ·intro w';go_simp
               with_reducible rfl
              rotate_left
              ·simp only [Act.put,sA,sZ,sS,i64_w,i32_w];rfl
              refine one_ (i:=2) (N:=some 16) #[true,true,true,false,false,false,false,false,false,false,false,false,false,false,false,false,false,false,false,false,false,false,false,false,false,false,false,false,false,false,false] rfl rfl (one_of HT_.out (by kernel_rfl)) (by decide) (fun K hK=>?_);refine goes_ Try.func134 (by kernel_rfl) rfl #[.int .i64 x11_1,.int .i64 a1] (by rfl) rfl rfl mq ?_
              with_reducible refine (impl_has.calls x11_1 a1 false _ A7.out).mono ?_
              rintro e w' ⟨rfl,⟨nd,rfl⟩⟩
              refine ⟨_,rfl,?_⟩;refine hK.out _ _ ⟨(blk_cell BK310.out 0).trans rfl,(blk_cell BK310.out 1).trans rfl,((HB.out.cell (World.block_lt_of_cell? w _ hw313_0)).trans hw313_0),((HB.out.cell (World.block_lt_of_cell? w _ hw314_0)).trans hw314_0)⟩ (fun hHeld=>?_);clear hK K;refine norm_ (a':=?_) ?_ ?_;rotate_left
              ·show Act.put _ (some 16) _ = _;simp only [Act.put,sA,sZ,sS,i64_w,i32_w];rfl
              refine pure_ (i:=3) (N:=some 17) (v:=?_) (a':=?_) #[true,true,true,true,false,false,false,false,false,false,false,false,false,false,false,false,false,false,false,false,false,false,false,false,false,false,false,false,false,false,false] rfl rfl (any_of HT_.out (by kernel_rfl)) (fun _ _ _ h=>h) (Or.inl ⟨by rfl,?_⟩) ?_ ?_;rotate_left
              ·intro w';go_simp
               with_reducible rfl
              rotate_left
              ·simp only [Act.put,sA,sZ,sS,i64_w,i32_w];rfl
              refine pure_ (i:=4) (N:=some 18) (v:=?_) (a':=?_) #[true,true,true,true,true,false,false,false,false,false,false,false,false,false,false,false,false,false,false,false,false,false,false,false,false,false,false,false,false,false,false] rfl rfl (any_of HT_.out (by kernel_rfl)) (fun _ _ _ h=>h) (Or.inl ⟨by rfl,?_⟩) ?_ ?_;rotate_left
              ·intro w';go_simp
               with_reducible rfl
              rotate_left
              ·simp only [Act.put,sA,sZ,sS,i64_w,i32_w];rfl
              refine pure_ (i:=5) (N:=some 19) (v:=?_) (a':=?_) #[true,true,true,true,true,true,false,false,false,false,false,false,false,false,false,false,false,false,false,false,false,false,false,false,false,false,false,false,false,false,false] rfl rfl (any_of HT_.out (by kernel_rfl)) (fun _ _ _ h=>h) (Or.inl ⟨by rfl,?_⟩) ?_ ?_;rotate_left
              ·intro w';go_simp
               with_reducible rfl
              rotate_left
              ·simp only [Act.put,sA,sZ,sS,i64_w,i32_w];rfl
              refine pure_ (i:=6) (N:=some 20) (v:=?_) (a':=?_) #[true,true,true,true,true,true,true,false,false,false,false,false,false,false,false,false,false,false,false,false,false,false,false,false,false,false,false,false,false,false,false] rfl rfl (any_of HT_.out (by kernel_rfl)) (fun _ _ _ h=>h) (Or.inl ⟨by rfl,?_⟩) ?_ ?_;rotate_left
              ·intro w';go_simp
               with_reducible rfl
              rotate_left
              ·simp only [Act.put,sA,sZ,sS,i64_w,i32_w];rfl
              refine one_ (i:=7) (N:=some 21) #[true,true,true,true,true,true,true,true,false,false,false,false,false,false,false,false,false,false,false,false,false,false,false,false,false,false,false,false,false,false,false] rfl rfl (one_of HT_.out (by kernel_rfl)) (by decide) (fun K hK=>?_);refine goes_ Try.func134 (by kernel_rfl) rfl #[.int .i64 x11_1,.int .i64 a2] (by rfl) rfl rfl mq ?_
              with_reducible refine (impl_has.calls x11_1 a2 false _ A10.out).mono ?_
              rintro e w' ⟨rfl,⟨nd,rfl⟩⟩
              refine ⟨_,rfl,?_⟩;refine hK.out _ _ ⟨(blk_cell BK310.out 0).trans rfl,(blk_cell BK310.out 1).trans rfl,((HB.out.cell (World.block_lt_of_cell? w _ hw313_0)).trans hw313_0),((HB.out.cell (World.block_lt_of_cell? w _ hw314_0)).trans hw314_0)⟩ (fun hHeld=>?_);clear hK K;refine norm_ (a':=?_) ?_ ?_;rotate_left
              ·show Act.put _ (some 21) _ = _;simp only [Act.put,sA,sZ,sS,i64_w,i32_w];rfl
              refine pure_ (i:=8) (N:=some 22) (v:=?_) (a':=?_) #[true,true,true,true,true,true,true,true,true,false,false,false,false,false,false,false,false,false,false,false,false,false,false,false,false,false,false,false,false,false,false] rfl rfl (any_of HT_.out (by kernel_rfl)) (fun _ _ _ h=>h) (Or.inl ⟨by rfl,?_⟩) ?_ ?_;rotate_left
              ·intro w';go_simp
               with_reducible rfl
              rotate_left
              ·simp only [Act.put,sA,sZ,sS,i64_w,i32_w];rfl
              refine pure_ (i:=9) (N:=some 23) (v:=?_) (a':=?_) #[true,true,true,true,true,true,true,true,true,true,false,false,false,false,false,false,false,false,false,false,false,false,false,false,false,false,false,false,false,false,false] rfl rfl (any_of HT_.out (by kernel_rfl)) (fun _ _ _ h=>h) (Or.inl ⟨by rfl,?_⟩) ?_ ?_;rotate_left
              ·intro w';go_simp
               with_reducible rfl
              rotate_left
              ·simp only [Act.put,sA,sZ,sS,i64_w,i32_w];rfl
              refine pure_ (i:=10) (N:=some 24) (v:=?_) (a':=?_) #[true,true,true,true,true,true,true,true,true,true,true,false,false,false,false,false,false,false,false,false,false,false,false,false,false,false,false,false,false,false,false] rfl rfl (any_of HT_.out (by kernel_rfl)) (fun _ _ _ h=>h) (Or.inl ⟨by rfl,?_⟩) ?_ ?_;rotate_left
              ·intro w';go_simp
               with_reducible rfl
              rotate_left
              ·simp only [Act.put,sA,sZ,sS,i64_w,i32_w];rfl
              refine pure_ (i:=11) (N:=some 25) (v:=?_) (a':=?_) #[true,true,true,true,true,true,true,true,true,true,true,true,false,false,false,false,false,false,false,false,false,false,false,false,false,false,false,false,false,false,false] rfl rfl (any_of HT_.out (by kernel_rfl)) (fun _ _ _ h=>h) (Or.inl ⟨by rfl,?_⟩) ?_ ?_;rotate_left
              ·intro w';go_simp
               with_reducible rfl
              rotate_left
              ·simp only [Act.put,sA,sZ,sS,i64_w,i32_w];rfl
              refine pure_ (i:=13) (N:=some 27) (v:=?_) (a':=?_) #[true,true,true,true,true,true,true,true,true,true,true,true,false,true,false,false,false,false,false,false,false,false,false,false,false,false,false,false,false,false,false] rfl rfl (any_of HT_.out (by kernel_rfl)) (fun _ _ _ h=>h) (Or.inl ⟨by rfl,?_⟩) ?_ ?_;rotate_left
              ·intro w';go_simp
               with_reducible rfl
              rotate_left
              ·simp only [Act.put,sA,sZ,sS,i64_w,i32_w];rfl
              refine pure_ (i:=14) (N:=some 28) (v:=?_) (a':=?_) #[true,true,true,true,true,true,true,true,true,true,true,true,false,true,true,false,false,false,false,false,false,false,false,false,false,false,false,false,false,false,false] rfl rfl (any_of HT_.out (by kernel_rfl)) (fun _ _ _ h=>h) (Or.inl ⟨by rfl,?_⟩) ?_ ?_;rotate_left
              ·intro w';go_simp
               with_reducible rfl
              rotate_left
              ·simp only [Act.put,sA,sZ,sS,i64_w,i32_w];rfl
              refine pure_ (i:=15) (N:=some 29) (v:=?_) (a':=?_) #[true,true,true,true,true,true,true,true,true,true,true,true,false,true,true,true,false,false,false,false,false,false,false,false,false,false,false,false,false,false,false] rfl rfl (any_of HT_.out (by kernel_rfl)) (fun _ _ _ h=>h) (Or.inl ⟨by rfl,?_⟩) ?_ ?_;rotate_left
              ·intro w';go_simp
               with_reducible rfl
              rotate_left
              ·simp only [Act.put,sA,sZ,sS,i64_w,i32_w];rfl
              refine pure_ (i:=16) (N:=some 30) (v:=?_) (a':=?_) #[true,true,true,true,true,true,true,true,true,true,true,true,false,true,true,true,true,false,false,false,false,false,false,false,false,false,false,false,false,false,false] rfl rfl (any_of HT_.out (by kernel_rfl)) (fun _ _ _ h=>h) (Or.inl ⟨by rfl,?_⟩) ?_ ?_;rotate_left
              ·intro w';go_simp
               with_reducible rfl
              rotate_left
              ·simp only [Act.put,sA,sZ,sS,i64_w,i32_w];rfl
              refine take_ (i:=12) (N:=some 26) (v:=?_) (a':=?_) #[true,true,true,true,true,true,true,true,true,true,true,true,true,true,true,true,true,false,false,false,false,false,false,false,false,false,false,false,false,false,false] rfl rfl (take_ofW HT_.out HW_.out (by kernel_rfl)) (fun _ _ _ h=>h) (Or.inl ⟨by rfl,?_⟩) hHeld ?_ ?_;rotate_left
              ·rintro w' ⟨s0,s1,s2,s3⟩
               go_simp
               with_reducible rfl
              rotate_left
              ·simp only [Act.put,sA,sZ,sS,i64_w,i32_w];rfl
              refine pure_ (i:=17) (N:=some 31) (v:=?_) (a':=?_) #[true,true,true,true,true,true,true,true,true,true,true,true,true,true,true,true,true,true,false,false,false,false,false,false,false,false,false,false,false,false,false] rfl rfl (any_of HT_.out (by kernel_rfl)) (fun _ _ _ h=>h) (Or.inl ⟨by rfl,?_⟩) ?_ ?_;rotate_left
              ·intro w';go_simp
               with_reducible rfl
              rotate_left
              ·simp only [Act.put,sA,sZ,sS,i64_w,i32_w];rfl
              refine take_ (i:=18) (N:=some 32) (v:=?_) (a':=?_) #[true,true,true,true,true,true,true,true,true,true,true,true,true,true,true,true,true,true,true,false,false,false,false,false,false,false,false,false,false,false,false] rfl rfl (take_ofW HT_.out HW_.out (by kernel_rfl)) (fun _ _ _ h=>h) (Or.inl ⟨by rfl,?_⟩) hHeld ?_ ?_;rotate_left
              ·rintro w' ⟨s0,s1,s2,s3⟩
               go_simp
               with_reducible rfl
              rotate_left
              ·simp only [Act.put,sA,sZ,sS,i64_w,i32_w];rfl
              refine pure_ (i:=19) (N:=some 33) (v:=?_) (a':=?_) #[true,true,true,true,true,true,true,true,true,true,true,true,true,true,true,true,true,true,true,true,false,false,false,false,false,false,false,false,false,false,false] rfl rfl (any_of HT_.out (by kernel_rfl)) (fun _ _ _ h=>h) (Or.inl ⟨by rfl,?_⟩) ?_ ?_;rotate_left
              ·intro w';go_simp
               with_reducible rfl
              rotate_left
              ·simp only [Act.put,sA,sZ,sS,i64_w,i32_w];rfl
              refine pure_ (i:=20) (N:=some 34) (v:=?_) (a':=?_) #[true,true,true,true,true,true,true,true,true,true,true,true,true,true,true,true,true,true,true,true,true,false,false,false,false,false,false,false,false,false,false] rfl rfl (any_of HT_.out (by kernel_rfl)) (fun _ _ _ h=>h) (Or.inl ⟨by rfl,?_⟩) ?_ ?_;rotate_left
              ·intro w';go_simp
               with_reducible rfl
              rotate_left
              ·simp only [Act.put,sA,sZ,sS,i64_w,i32_w];rfl
              refine pure_ (i:=21) (N:=some 35) (v:=?_) (a':=?_) #[true,true,true,true,true,true,true,true,true,true,true,true,true,true,true,true,true,true,true,true,true,true,false,false,false,false,false,false,false,false,false] rfl rfl (any_of HT_.out (by kernel_rfl)) (fun _ _ _ h=>h) (Or.inl ⟨by rfl,?_⟩) ?_ ?_;rotate_left
              ·intro w';go_simp
               with_reducible rfl
              rotate_left
              ·simp only [Act.put,sA,sZ,sS,i64_w,i32_w];rfl
              refine pure_ (i:=23) (N:=some 37) (v:=?_) (a':=?_) #[true,true,true,true,true,true,true,true,true,true,true,true,true,true,true,true,true,true,true,true,true,true,false,true,false,false,false,false,false,false,false] rfl rfl (any_of HT_.out (by kernel_rfl)) (fun _ _ _ h=>h) (Or.inl ⟨by rfl,?_⟩) ?_ ?_;rotate_left
              ·intro w';go_simp
               with_reducible rfl
              rotate_left
              ·simp only [Act.put,sA,sZ,sS,i64_w,i32_w];rfl
              refine pure_ (i:=24) (N:=some 38) (v:=?_) (a':=?_) #[true,true,true,true,true,true,true,true,true,true,true,true,true,true,true,true,true,true,true,true,true,true,false,true,true,false,false,false,false,false,false] rfl rfl (any_of HT_.out (by kernel_rfl)) (fun _ _ _ h=>h) (Or.inl ⟨by rfl,?_⟩) ?_ ?_;rotate_left
              ·intro w';go_simp
               with_reducible rfl
              rotate_left
              ·simp only [Act.put,sA,sZ,sS,i64_w,i32_w];rfl
              refine pure_ (i:=25) (N:=some 39) (v:=?_) (a':=?_) #[true,true,true,true,true,true,true,true,true,true,true,true,true,true,true,true,true,true,true,true,true,true,false,true,true,true,false,false,false,false,false] rfl rfl (any_of HT_.out (by kernel_rfl)) (fun _ _ _ h=>h) (Or.inl ⟨by rfl,?_⟩) ?_ ?_;rotate_left
              ·intro w';go_simp
               with_reducible rfl
              rotate_left
              ·simp only [Act.put,sA,sZ,sS,i64_w,i32_w];rfl
              refine pure_ (i:=26) (N:=some 40) (v:=?_) (a':=?_) #[true,true,true,true,true,true,true,true,true,true,true,true,true,true,true,true,true,true,true,true,true,true,false,true,true,true,true,false,false,false,false] rfl rfl (any_of HT_.out (by kernel_rfl)) (fun _ _ _ h=>h) (Or.inl ⟨by rfl,?_⟩) ?_ ?_;rotate_left
              ·intro w';go_simp
               with_reducible rfl
              rotate_left
              ·simp only [Act.put,sA,sZ,sS,i64_w,i32_w];rfl
              refine take_ (i:=22) (N:=some 36) (v:=?_) (a':=?_) #[true,true,true,true,true,true,true,true,true,true,true,true,true,true,true,true,true,true,true,true,true,true,true,true,true,true,true,false,false,false,false] rfl rfl (take_ofW HT_.out HW_.out (by kernel_rfl)) (fun _ _ _ h=>h) (Or.inl ⟨by rfl,?_⟩) hHeld ?_ ?_;rotate_left
              ·rintro w' ⟨s0,s1,s2,s3⟩
               go_simp
               with_reducible rfl
              rotate_left
              ·simp only [Act.put,sA,sZ,sS,i64_w,i32_w];rfl
              refine pure_ (i:=27) (N:=some 41) (v:=?_) (a':=?_) #[true,true,true,true,true,true,true,true,true,true,true,true,true,true,true,true,true,true,true,true,true,true,true,true,true,true,true,true,false,false,false] rfl rfl (any_of HT_.out (by kernel_rfl)) (fun _ _ _ h=>h) (Or.inl ⟨by rfl,?_⟩) ?_ ?_;rotate_left
              ·intro w';go_simp
               with_reducible rfl
              rotate_left
              ·simp only [Act.put,sA,sZ,sS,i64_w,i32_w];rfl
              refine take_ (i:=28) (N:=some 42) (v:=?_) (a':=?_) #[true,true,true,true,true,true,true,true,true,true,true,true,true,true,true,true,true,true,true,true,true,true,true,true,true,true,true,true,true,false,false] rfl rfl (take_ofW HT_.out HW_.out (by kernel_rfl)) (fun _ _ _ h=>h) (Or.inl ⟨by rfl,?_⟩) hHeld ?_ ?_;rotate_left
              ·rintro w' ⟨s0,s1,s2,s3⟩
               go_simp
               with_reducible rfl
              rotate_left
              ·simp only [Act.put,sA,sZ,sS,i64_w,i32_w];rfl
              refine pure_ (i:=29) (N:=some 43) (v:=?_) (a':=?_) #[true,true,true,true,true,true,true,true,true,true,true,true,true,true,true,true,true,true,true,true,true,true,true,true,true,true,true,true,true,true,false] rfl rfl (any_of HT_.out (by kernel_rfl)) (fun _ _ _ h=>h) (Or.inl ⟨by rfl,?_⟩) ?_ ?_;rotate_left
              ·intro w';go_simp
               with_reducible rfl
              rotate_left
              ·simp only [Act.put,sA,sZ,sS,i64_w,i32_w];rfl
              refine pure_ (i:=30) (N:=some 44) (v:=?_) (a':=?_) #[true,true,true,true,true,true,true,true,true,true,true,true,true,true,true,true,true,true,true,true,true,true,true,true,true,true,true,true,true,true,true] rfl rfl (any_of HT_.out (by kernel_rfl)) (fun _ _ _ h=>h) (Or.inl ⟨by rfl,?_⟩) ?_ ?_;rotate_left
              ·intro w';go_simp
               with_reducible rfl
              rotate_left
              ·simp only [Act.put,sA,sZ,sS,i64_w,i32_w];rfl
              refine done_ (done_of HT_.out (by kernel_rfl)) ?_
              try go_wp2
              go_ret
              exact ⟨by first|rfl|(simp [errW_none,errW_some] <;> rfl)|(simp only [← hji14,← hji20];first|rfl|(simp [errW_none,errW_some] <;> rfl))|(simp [*,errW_none,errW_some] <;> rfl),by repeat (first|(with_reducible first|exact HB.out|apply below_alloc|apply pw_below_drewN|apply below_drew1|refine below_set ?_ GE310.out)|exact HB.out)⟩
            ·rw [if_neg c22] at H;exact absurd H (by simp)
           ·rw [if_neg c21] at H;exact absurd H (by simp)
          ·rw [if_neg c19] at H;exact absurd H (by simp)
         ·replace c18:=Bool.eq_false_iff.mpr c18;subst c18;have H1:(impl_votes_isWorth.l0 k1 a1 a2 (l0_1.length:Int) (wrap64 (x11_1 + 1)) a0_0 l0_1) = some r:=by rw [if_neg (show ¬ (false = true) by decide)] at H;exact H
          clear H;have H:=H1;clear H1;have H':=Aside0.mk H;clear H
          try go_wp2
          have n0_:=Aside0.mk (blk_drew BK310.out);have n1_:=Aside0.mk (below_drew1 HB.out);clear BK310;clear HB;have BK310:=n0_;have HB:=n1_;clear n0_ n1_;have p313:0 ≤ ((Go.bits .or .i64 x11_1 (ji14)):Int):=of_decide_eq_true ab;have q313:(Go.bits .or .i64 x11_1 (ji14)) < (l0_1.length:Int):=of_decide_eq_true ab;obtain ⟨ad313,e313,hx313_0⟩:=Kd.at_bool HR0_1.out (Go.bits .or .i64 x11_1 (ji14)) p313 q313;have hw313_0:=hx313_0;(try rw [← Nbq17.out] at hw313_0)
          (try rw [← Nbq17.out] at hx313_0)
          cases e313
          replace hx313_0:=(HB.out.cell (World.block_lt_of_cell? w _ hx313_0)).trans hx313_0;replace p313:=eq_true p313;replace q313:=eq_true q313;refine start_ (n:=31) (S:=fun w'=>w'.cell? ⟨gb310,0,none⟩ = some (.int .i64 a0_0) ∧ w'.cell? ⟨gb310,1,none⟩ = some (.slice (some ad313) l0_1.length c0_1) ∧ w'.cell? (ad313.add ((Go.bits .or .i64 x11_1 (ji14))).toNat) = some (.bool false)) (ds:=[]) #[false,false,false,false,false,false,false,false,false,false,false,false,false,false,false,false,false,false,false,false,false,false,false,false,false,false,false,false,false,false,false] (by kernel_rfl) rfl rfl ⟨(blk_cell BK310.out 0).trans rfl,(blk_cell BK310.out 1).trans rfl,((HB.out.cell (World.block_lt_of_cell? w _ hw313_0)).trans hw313_0)⟩ (fun hHeld=>?_);refine with_tabW impl_votes_isWorth.tab4 impl_votes_isWorth.bits4 (fun HT_ HW_=>?_)
          generalize wr.drew = w27 at BK310 HB hx313_0 hHeld ⊢
          refine pure_ (i:=0) (N:=some 14) (v:=?_) (a':=?_) #[true,false,false,false,false,false,false,false,false,false,false,false,false,false,false,false,false,false,false,false,false,false,false,false,false,false,false,false,false,false,false] rfl rfl (any_of HT_.out (by kernel_rfl)) (fun _ _ _ h=>h) (Or.inl ⟨by rfl,?_⟩) ?_ ?_;rotate_left
          ·intro w';go_simp
           with_reducible rfl
          rotate_left
          ·simp only [Act.put,sA,sZ,sS,i64_w,i32_w];rfl
          refine pure_ (i:=1) (N:=some 15) (v:=?_) (a':=?_) #[true,true,false,false,false,false,false,false,false,false,false,false,false,false,false,false,false,false,false,false,false,false,false,false,false,false,false,false,false,false,false] rfl rfl (any_of HT_.out (by kernel_rfl)) (fun _ _ _ h=>h) (Or.inl ⟨by rfl,?_⟩) ?_ ?_;rotate_left
          ·intro w';go_simp
           with_reducible rfl
          rotate_left
          ·simp only [Act.put,sA,sZ,sS,i64_w,i32_w];rfl
          refine one_ (i:=2) (N:=some 16) #[true,true,true,false,false,false,false,false,false,false,false,false,false,false,false,false,false,false,false,false,false,false,false,false,false,false,false,false,false,false,false] rfl rfl (one_of HT_.out (by kernel_rfl)) (by decide) (fun K hK=>?_);refine goes_ Try.func134 (by kernel_rfl) rfl #[.int .i64 x11_1,.int .i64 a1] (by rfl) rfl rfl mq ?_
          with_reducible refine (impl_has.calls x11_1 a1 false _ A7.out).mono ?_
          rintro e w' ⟨rfl,⟨nd,rfl⟩⟩
          refine ⟨_,rfl,?_⟩;refine hK.out _ _ ⟨(blk_cell BK310.out 0).trans rfl,(blk_cell BK310.out 1).trans rfl,((HB.out.cell (World.block_lt_of_cell? w _ hw313_0)).trans hw313_0)⟩ (fun hHeld=>?_);clear hK K;refine norm_ (a':=?_) ?_ ?_;rotate_left
          ·show Act.put _ (some 16) _ = _;simp only [Act.put,sA,sZ,sS,i64_w,i32_w];rfl
          refine pure_ (i:=3) (N:=some 17) (v:=?_) (a':=?_) #[true,true,true,true,false,false,false,false,false,false,false,false,false,false,false,false,false,false,false,false,false,false,false,false,false,false,false,false,false,false,false] rfl rfl (any_of HT_.out (by kernel_rfl)) (fun _ _ _ h=>h) (Or.inl ⟨by rfl,?_⟩) ?_ ?_;rotate_left
          ·intro w';go_simp
           with_reducible rfl
          rotate_left
          ·simp only [Act.put,sA,sZ,sS,i64_w,i32_w];rfl
          refine pure_ (i:=4) (N:=some 18) (v:=?_) (a':=?_) #[true,true,true,true,true,false,false,false,false,false,false,false,false,false,false,false,false,false,false,false,false,false,false,false,false,false,false,false,false,false,false] rfl rfl (any_of HT_.out (by kernel_rfl)) (fun _ _ _ h=>h) (Or.inl ⟨by rfl,?_⟩) ?_ ?_;rotate_left
          ·intro w';go_simp
           with_reducible rfl
          rotate_left
          ·simp only [Act.put,sA,sZ,sS,i64_w,i32_w];rfl
          refine pure_ (i:=5) (N:=some 19) (v:=?_) (a':=?_) #[true,true,true,true,true,true,false,false,false,false,false,false,false,false,false,false,false,false,false,false,false,false,false,false,false,false,false,false,false,false,false] rfl rfl (any_of HT_.out (by kernel_rfl)) (fun _ _ _ h=>h) (Or.inl ⟨by rfl,?_⟩) ?_ ?_;rotate_left
          ·intro w';go_simp
           with_reducible rfl
          rotate_left
          ·simp only [Act.put,sA,sZ,sS,i64_w,i32_w];rfl
          refine pure_ (i:=6) (N:=some 20) (v:=?_) (a':=?_) #[true,true,true,true,true,true,true,false,false,false,false,false,false,false,false,false,false,false,false,false,false,false,false,false,false,false,false,false,false,false,false] rfl rfl (any_of HT_.out (by kernel_rfl)) (fun _ _ _ h=>h) (Or.inl ⟨by rfl,?_⟩) ?_ ?_;rotate_left
          ·intro w';go_simp
           with_reducible rfl
          rotate_left
          ·simp only [Act.put,sA,sZ,sS,i64_w,i32_w];rfl
          refine one_ (i:=7) (N:=some 21) #[true,true,true,true,true,true,true,true,false,false,false,false,false,false,false,false,false,false,false,false,false,false,false,false,false,false,false,false,false,false,false] rfl rfl (one_of HT_.out (by kernel_rfl)) (by decide) (fun K hK=>?_);refine goes_ Try.func134 (by kernel_rfl) rfl #[.int .i64 x11_1,.int .i64 a2] (by rfl) rfl rfl mq ?_
          with_reducible refine (impl_has.calls x11_1 a2 false _ A10.out).mono ?_
          rintro e w' ⟨rfl,⟨nd,rfl⟩⟩
          refine ⟨_,rfl,?_⟩;refine hK.out _ _ ⟨(blk_cell BK310.out 0).trans rfl,(blk_cell BK310.out 1).trans rfl,((HB.out.cell (World.block_lt_of_cell? w _ hw313_0)).trans hw313_0)⟩ (fun hHeld=>?_);clear hK K;refine norm_ (a':=?_) ?_ ?_;rotate_left
          ·show Act.put _ (some 21) _ = _;simp only [Act.put,sA,sZ,sS,i64_w,i32_w];rfl
          refine pure_ (i:=8) (N:=some 22) (v:=?_) (a':=?_) #[true,true,true,true,true,true,true,true,true,false,false,false,false,false,false,false,false,false,false,false,false,false,false,false,false,false,false,false,false,false,false] rfl rfl (any_of HT_.out (by kernel_rfl)) (fun _ _ _ h=>h) (Or.inl ⟨by rfl,?_⟩) ?_ ?_;rotate_left
          ·intro w';go_simp
           with_reducible rfl
          rotate_left
          ·simp only [Act.put,sA,sZ,sS,i64_w,i32_w];rfl
          refine pure_ (i:=9) (N:=some 23) (v:=?_) (a':=?_) #[true,true,true,true,true,true,true,true,true,true,false,false,false,false,false,false,false,false,false,false,false,false,false,false,false,false,false,false,false,false,false] rfl rfl (any_of HT_.out (by kernel_rfl)) (fun _ _ _ h=>h) (Or.inl ⟨by rfl,?_⟩) ?_ ?_;rotate_left
          ·intro w';go_simp
           with_reducible rfl
          rotate_left
          ·simp only [Act.put,sA,sZ,sS,i64_w,i32_w];rfl
          refine pure_ (i:=10) (N:=some 24) (v:=?_) (a':=?_) #[true,true,true,true,true,true,true,true,true,true,true,false,false,false,false,false,false,false,false,false,false,false,false,false,false,false,false,false,false,false,false] rfl rfl (any_of HT_.out (by kernel_rfl)) (fun _ _ _ h=>h) (Or.inl ⟨by rfl,?_⟩) ?_ ?_;rotate_left
          ·intro w';go_simp
           with_reducible rfl
          rotate_left
          ·simp only [Act.put,sA,sZ,sS,i64_w,i32_w];rfl
          refine pure_ (i:=11) (N:=some 25) (v:=?_) (a':=?_) #[true,true,true,true,true,true,true,true,true,true,true,true,false,false,false,false,false,false,false,false,false,false,false,false,false,false,false,false,false,false,false] rfl rfl (any_of HT_.out (by kernel_rfl)) (fun _ _ _ h=>h) (Or.inl ⟨by rfl,?_⟩) ?_ ?_;rotate_left
          ·intro w';go_simp
           with_reducible rfl
          rotate_left
          ·simp only [Act.put,sA,sZ,sS,i64_w,i32_w];rfl
          refine pure_ (i:=13) (N:=some 27) (v:=?_) (a':=?_) #[true,true,true,true,true,true,true,true,true,true,true,true,false,true,false,false,false,false,false,false,false,false,false,false,false,false,false,false,false,false,false] rfl rfl (any_of HT_.out (by kernel_rfl)) (fun _ _ _ h=>h) (Or.inl ⟨by rfl,?_⟩) ?_ ?_;rotate_left
          ·intro w';go_simp
           with_reducible rfl
          rotate_left
          ·simp only [Act.put,sA,sZ,sS,i64_w,i32_w];rfl
          refine pure_ (i:=14) (N:=some 28) (v:=?_) (a':=?_) #[true,true,true,true,true,true,true,true,true,true,true,true,false,true,true,false,false,false,false,false,false,false,false,false,false,false,false,false,false,false,false] rfl rfl (any_of HT_.out (by kernel_rfl)) (fun _ _ _ h=>h) (Or.inl ⟨by rfl,?_⟩) ?_ ?_;rotate_left
          ·intro w';go_simp
           with_reducible rfl
          rotate_left
          ·simp only [Act.put,sA,sZ,sS,i64_w,i32_w];rfl
          refine pure_ (i:=15) (N:=some 29) (v:=?_) (a':=?_) #[true,true,true,true,true,true,true,true,true,true,true,true,false,true,true,true,false,false,false,false,false,false,false,false,false,false,false,false,false,false,false] rfl rfl (any_of HT_.out (by kernel_rfl)) (fun _ _ _ h=>h) (Or.inl ⟨by rfl,?_⟩) ?_ ?_;rotate_left
          ·intro w';go_simp
           with_reducible rfl
          rotate_left
          ·simp only [Act.put,sA,sZ,sS,i64_w,i32_w];rfl
          refine pure_ (i:=16) (N:=some 30) (v:=?_) (a':=?_) #[true,true,true,true,true,true,true,true,true,true,true,true,false,true,true,true,true,false,false,false,false,false,false,false,false,false,false,false,false,false,false] rfl rfl (any_of HT_.out (by kernel_rfl)) (fun _ _ _ h=>h) (Or.inl ⟨by rfl,?_⟩) ?_ ?_;rotate_left
          ·intro w';go_simp
           with_reducible rfl
          rotate_left
          ·simp only [Act.put,sA,sZ,sS,i64_w,i32_w];rfl
          refine take_ (i:=12) (N:=some 26) (v:=?_) (a':=?_) #[true,true,true,true,true,true,true,true,true,true,true,true,true,true,true,true,true,false,false,false,false,false,false,false,false,false,false,false,false,false,false] rfl rfl (take_ofW HT_.out HW_.out (by kernel_rfl)) (fun _ _ _ h=>h) (Or.inl ⟨by rfl,?_⟩) hHeld ?_ ?_;rotate_left
          ·rintro w' ⟨s0,s1,s2⟩
           go_simp
           with_reducible rfl
          rotate_left
          ·simp only [Act.put,sA,sZ,sS,i64_w,i32_w];rfl
          refine pure_ (i:=17) (N:=some 31) (v:=?_) (a':=?_) #[true,true,true,true,true,true,true,true,true,true,true,true,true,true,true,true,true,true,false,false,false,false,false,false,false,false,false,false,false,false,false] rfl rfl (any_of HT_.out (by kernel_rfl)) (fun _ _ _ h=>h) (Or.inl ⟨by rfl,?_⟩) ?_ ?_;rotate_left
          ·intro w';go_simp
           with_reducible rfl
          rotate_left
          ·simp only [Act.put,sA,sZ,sS,i64_w,i32_w];rfl
          refine take_ (i:=18) (N:=some 32) (v:=?_) (a':=?_) #[true,true,true,true,true,true,true,true,true,true,true,true,true,true,true,true,true,true,true,false,false,false,false,false,false,false,false,false,false,false,false] rfl rfl (take_ofW HT_.out HW_.out (by kernel_rfl)) (fun _ _ _ h=>h) (Or.inl ⟨by rfl,?_⟩) hHeld ?_ ?_;rotate_left
          ·rintro w' ⟨s0,s1,s2⟩
           go_simp
           with_reducible rfl
          rotate_left
          ·simp only [Act.put,sA,sZ,sS,i64_w,i32_w];rfl
          refine pure_ (i:=19) (N:=some 33) (v:=?_) (a':=?_) #[true,true,true,true,true,true,true,true,true,true,true,true,true,true,true,true,true,true,true,true,false,false,false,false,false,false,false,false,false,false,false] rfl rfl (any_of HT_.out (by kernel_rfl)) (fun _ _ _ h=>h) (Or.inl ⟨by rfl,?_⟩) ?_ ?_;rotate_left
          ·intro w';go_simp
           with_reducible rfl
          rotate_left
          ·simp only [Act.put,sA,sZ,sS,i64_w,i32_w];rfl
          refine pure_ (i:=20) (N:=some 34) (v:=?_) (a':=?_) #[true,true,true,true,true,true,true,true,true,true,true,true,true,true,true,true,true,true,true,true,true,false,false,false,false,false,false,false,false,false,false] rfl rfl (any_of HT_.out (by kernel_rfl)) (fun _ _ _ h=>h) (Or.inl ⟨by rfl,?_⟩) ?_ ?_;rotate_left
          ·intro w';go_simp
           with_reducible rfl
          rotate_left
          ·simp only [Act.put,sA,sZ,sS,i64_w,i32_w];rfl
          refine pure_ (i:=21) (N:=some 35) (v:=undef) (a':=?_) #[true,true,true,true,true,true,true,true,true,true,true,true,true,true,true,true,true,true,true,true,true,true,false,false,false,false,false,false,false,false,false] rfl rfl (any_of HT_.out (by kernel_rfl)) (fun _ _ _ h=>h) (Or.inr ⟨by rfl,rfl⟩) ?_ ?_;rotate_left
          ·simp only [Act.put,sA,sZ,sS,i64_w,i32_w];rfl
          refine pure_ (i:=22) (N:=some 36) (v:=undef) (a':=?_) #[true,true,true,true,true,true,true,true,true,true,true,true,true,true,true,true,true,true,true,true,true,true,true,false,false,false,false,false,false,false,false] rfl rfl (any_of HT_.out (by kernel_rfl)) (fun _ _ _ h=>h) (Or.inr ⟨by rfl,rfl⟩) ?_ ?_;rotate_left
          ·simp only [Act.put,sA,sZ,sS,i64_w,i32_w];rfl
          refine pure_ (i:=23) (N:=some 37) (v:=undef) (a':=?_) #[true,true,true,true,true,true,true,true,true,true,true,true,true,true,true,true,true,true,true,true,true,true,true,true,false,false,false,false,false,false,false] rfl rfl (any_of HT_.out (by kernel_rfl)) (fun _ _ _ h=>h) (Or.inr ⟨by rfl,rfl⟩) ?_ ?_;rotate_left
          ·simp only [Act.put,sA,sZ,sS,i64_w,i32_w];rfl
          refine pure_ (i:=24) (N:=some 38) (v:=undef) (a':=?_) #[true,true,true,true,true,true,true,true,true,true,true,true,true,true,true,true,true,true,true,true,true,true,true,true,true,false,false,false,false,false,false] rfl rfl (any_of HT_.out (by kernel_rfl)) (fun _ _ _ h=>h) (Or.inr ⟨by rfl,rfl⟩) ?_ ?_;rotate_left
          ·simp only [Act.put,sA,sZ,sS,i64_w,i32_w];rfl
          refine pure_ (i:=25) (N:=some 39) (v:=undef) (a':=?_) #[true,true,true,true,true,true,true,true,true,true,true,true,true,true,true,true,true,true,true,true,true,true,true,true,true,true,false,false,false,false,false] rfl rfl (any_of HT_.out (by kernel_rfl)) (fun _ _ _ h=>h) (Or.inr ⟨by rfl,rfl⟩) ?_ ?_;rotate_left
          ·simp only [Act.put,sA,sZ,sS,i64_w,i32_w];rfl
          refine pure_ (i:=26) (N:=some 40) (v:=undef) (a':=?_) #[true,true,true,true,true,true,true,true,true,true,true,true,true,true,true,true,true,true,true,true,true,true,true,true,true,true,true,false,false,false,false] rfl rfl (any_of HT_.out (by kernel_rfl)) (fun _ _ _ h=>h) (Or.inr ⟨by rfl,rfl⟩) ?_ ?_;rotate_left
          ·simp only [Act.put,sA,sZ,sS,i64_w,i32_w];rfl
          refine pure_ (i:=27) (N:=some 41) (v:=undef) (a':=?_) #[true,true,true,true,true,true,true,true,true,true,true,true,true,true,true,true,true,true,true,true,true,true,true,true,true,true,true,true,false,false,false] rfl rfl (any_of HT_.out (by kernel_rfl)) (fun _ _ _ h=>h) (Or.inr ⟨by rfl,rfl⟩) ?_ ?_;rotate_left
          ·simp only [Act.put,sA,sZ,sS,i64_w,i32_w];rfl
          refine pure_ (i:=28) (N:=some 42) (v:=undef) (a':=?_) #[true,true,true,true,true,true,true,true,true,true,true,true,true,true,true,true,true,true,true,true,true,true,true,true,true,true,true,true,true,false,false] rfl rfl (any_of HT_.out (by kernel_rfl)) (fun _ _ _ h=>h) (Or.inr ⟨by rfl,rfl⟩) ?_ ?_;rotate_left
          ·simp only [Act.put,sA,sZ,sS,i64_w,i32_w];rfl
          refine pure_ (i:=29) (N:=some 43) (v:=undef) (a':=?_) #[true,true,true,true,true,true,true,true,true,true,true,true,true,true,true,true,true,true,true,true,true,true,true,true,true,true,true,true,true,true,false] rfl rfl (any_of HT_.out (by kernel_rfl)) (fun _ _ _ h=>h) (Or.inr ⟨by rfl,rfl⟩) ?_ ?_;rotate_left
          ·simp only [Act.put,sA,sZ,sS,i64_w,i32_w];rfl
          refine pure_ (i:=30) (N:=some 44) (v:=?_) (a':=?_) #[true,true,true,true,true,true,true,true,true,true,true,true,true,true,true,true,true,true,true,true,true,true,true,true,true,true,true,true,true,true,true] rfl rfl (any_of HT_.out (by kernel_rfl)) (fun _ _ _ h=>h) (Or.inl ⟨by rfl,?_⟩) ?_ ?_;rotate_left
          ·intro w';go_simp
           with_reducible rfl
          rotate_left
          ·simp only [Act.put,sA,sZ,sS,i64_w,i32_w];rfl
          refine done_ (done_of HT_.out (by kernel_rfl)) ?_
          try go_wp2
          go_roundg k1
          case measure=>have:=HK1.out;omega
          case rel=>exact ⟨(wrap64 (x11_1 + 1)),(by first|rfl|(simp;done)|(simp [*];done)),H',⟨by have:=HK1.out;omega⟩,⟨by (with_reducible repeat (first|refine blk_drewN ?_ _|refine blk_drew ?_|refine blk_alloc ?_ _));exact BK310.out⟩,⟨by repeat (first|(with_reducible first|exact HB.out|apply below_alloc|apply pw_below_drewN|apply below_drew1|refine below_set ?_ GE310.out)|exact HB.out)⟩⟩
        ·rw [if_neg c16] at H;exact absurd H (by simp)
       ·rw [if_neg c15] at H;exact absurd H (by simp)
      ·rw [if_neg c13] at H;exact absurd H (by simp)
   ·rw [if_neg c6] at H;have c6b0:decide (x11_1 < (l0_1.length:Int)) = false:=decide_eq_false c6;clear c6;obtain rfl:=Option.some.inj H;go_wp2
    go_ret
    exact ⟨by first|rfl|(simp [errW_none,errW_some] <;> rfl)|(simp [*,errW_none,errW_some] <;> rfl),by repeat (first|(with_reducible first|exact HB.out|apply below_alloc|apply pw_below_drewN|apply below_drew1|refine below_set ?_ GE310.out)|exact HB.out)⟩


/-! ### impl_votes_isGreater: function 50 -/
def impl_votes_isGreater.f (k:Nat) (a0_0:Int) (l0_1:List Bool) (a1:Int) (a2:Int):Option (Bool):=(impl_votes_isWorth.f k a0_0 l0_1 a1 a2).bind fun t345=>(if t345 = true then ((impl_votes_isWorth.f k a0_0 l0_1 a2 a1).bind fun t346=>(some (!t346))) else (some false))
theorem impl_votes_isGreater.mono:∀ a0 a1 a2 a3 k,LeO (impl_votes_isGreater.f k a0 a1 a2 a3) (impl_votes_isGreater.f (k + 1) a0 a1 a2 a3):=by
 intro a0 a1 a2 a3 k;unfold impl_votes_isGreater.f
 repeat' with_reducible first|exact impl_votes_isWorth.mono _ _ _ _ _|exact LeO.refl _|exact LeO.none _|refine LeO.ite ?_ ?_|refine LeO.bind ?_ (fun _=>?_)
set_option maxHeartbeats 8000000 in
set_option maxRecDepth 100000 in
theorem impl_votes_isGreater.calls (k:Nat) (a0_0:Int) (A0_1:Option Addr) (c0_1:Nat) (l0_1:List Bool) (a1:Int) (a2:Int) (r:Bool) (w:World) (hr0_1:Kd.C Kd.bool w A0_1 l0_1.length l0_1) (hc0_1:l0_1.length ≤ c0_1) (h:impl_votes_isGreater.f k a0_0 l0_1 a1 a2 = some r) :
  Calls Try.prog 50 #[.agg #[.int .i64 a0_0,.slice A0_1 l0_1.length c0_1],.int .i64 a1,.int .i64 a2] w fun e w'=>e = .returned (.bool r) ∧ Below w.heap.size w w':=by
 have hu68:=Try.underlying68;have HR0_1:=Aside0.mk hr0_1;have HC0_1:=Aside0.mk hc0_1;clear hr0_1 hc0_1;have HB:=Aside0.mk (Below.refl w.heap.size w);have H:((impl_votes_isWorth.f k a0_0 l0_1 a1 a2).bind fun t345=>(if t345 = true then ((impl_votes_isWorth.f k a0_0 l0_1 a2 a1).bind fun t346=>(some (!t346))) else (some false))) = some r:=h;clear h;replace H:=Option.bind_eq_some_iff.mp H;obtain ⟨t345,A40,H⟩:=H;replace H:(if t345 = true then ((impl_votes_isWorth.f k a0_0 l0_1 a2 a1).bind fun t346=>(some (!t346))) else (some false)) = some r:=H;have A4:=Aside0.mk A40;clear A40;by_cases c5:t345 = true
 ·subst c5;have H1:((impl_votes_isWorth.f k a0_0 l0_1 a2 a1).bind fun t346=>(some (!t346))) = some r:=by rw [if_pos rfl] at H;exact H
  clear H;have H:=H1;clear H1;replace H:=Option.bind_eq_some_iff.mp H;obtain ⟨t346,A60,H⟩:=H;replace H:(some (!t346)) = some r:=H;have A6:=Aside0.mk A60;clear A60;obtain rfl:=Option.some.inj H;go_enter Try.func50,Try.ntmps50;go_wp2_with (first|((with_reducible refine gate_dst (N:=3) rfl ?_);refine box_event ?hg (N:=3) ?hd (cs:=#[.int .i64 a0_0,.slice A0_1 l0_1.length c0_1]) (t:=68) ?hr ?_;(case hd=>rfl);(case hg=>rfl);(case hr=>first|(go_simp;done)|(go_simp;rfl));intro gb344 hg w7 hbox hb;have n0_:=Aside0.mk (below_step bw hb);have n1_:=Aside0.mk (hbox);have n2_:=Aside0.mk ((by rw [hg];exact (below_size bw):w.heap.size ≤ gb344));have n3_:=Aside0.mk ((by rw [hg];exact (below_size bw):w.heap.size ≤ gb344));clear HB;have HB:=n0_;have BK344:=n1_;have GW344:=n2_;have GE344:=n3_;clear n0_ n1_ n2_ n3_;clear hb hbox hg;have hcz8_0:w7.cell? ⟨gb344,0,none⟩ = some (.int .i64 a0_0):=(blk_cell BK344.out 0).trans rfl;have hcz8_1:w7.cell? ⟨gb344,1,none⟩ = some (.slice A0_1 l0_1.length c0_1):=(blk_cell BK344.out 1).trans rfl;have hfz8_0:=blk_frozen BK344.out 0;have hfz8_1:=blk_frozen BK344.out 1)|((with_reducible refine gate_callee (f:=98) rfl ?_);refine goesL_ (some 10) rfl rfl Try.func98 (by kernel_rfl) rfl #[.agg #[.int .i64 a0_0,.slice A0_1 l0_1.length c0_1],.int .i64 a1,.int .i64 a2] rfl mq ?_;(with_reducible refine (impl_votes_isWorth.calls k a0_0 _ _ l0_1 a1 a2 true _ ?side1 ?side2 A4.out).mono ?_);(case side1=>repeat (first|exact (Kd.C_below HR0_1.out HB.out)|(with_reducible refine Kd.C_alloc ?_ _)|(with_reducible refine Kd.C_drewN ?_ _)|(with_reducible refine Kd.C_drew ?_)));(case side2=>exact HC0_1.out);rintro e w9 ⟨rfl,hb⟩;refine ⟨_,rfl,?_⟩;have n0_:=Aside0.mk (blk_below (g:=gb344) (o:=.cells #[.int .i64 a0_0,.slice A0_1 l0_1.length c0_1] 68 (0,0)) bk hb);have n1_:=Aside0.mk (below_step bw hb);clear BK344;clear HB;have BK344:=n0_;have HB:=n1_;clear n0_ n1_;(try clear hb);(try clear hb2);(try clear hk);(try clear hi);have hcz10_0:w9.cell? ⟨gb344,0,none⟩ = some (.int .i64 a0_0):=(blk_cell BK344.out 0).trans rfl;have hcz10_1:w9.cell? ⟨gb344,1,none⟩ = some (.slice A0_1 l0_1.length c0_1):=(blk_cell BK344.out 1).trans rfl;have hfz10_0:=blk_frozen BK344.out 0;have hfz10_1:=blk_frozen BK344.out 1)|(go_at_call 98;(with_reducible refine (impl_votes_isWorth.calls k a0_0 _ _ l0_1 a2 a1 t346 _ ?side1 ?side2 A6.out).mono ?_);(case side1=>repeat (first|exact (Kd.C_below HR0_1.out HB.out)|(with_reducible refine Kd.C_alloc ?_ _)|(with_reducible refine Kd.C_drewN ?_ _)|(with_reducible refine Kd.C_drew ?_)));(case side2=>exact HC0_1.out);rintro e w11 ⟨rfl,hb⟩;have n0_:=Aside0.mk (blk_below (g:=gb344) (o:=.cells #[.int .i64 a0_0,.slice A0_1 l0_1.length c0_1] 68 (0,0)) bk hb);have n1_:=Aside0.mk (below_step bw hb);clear BK344;clear HB;have BK344:=n0_;have HB:=n1_;clear n0_ n1_;(try clear hb);(try clear hb2);(try clear hk);(try clear hi)))
  go_ret
  exact ⟨by first|rfl|(simp [errW_none,errW_some] <;> rfl)|(simp [*,errW_none,errW_some] <;> rfl),by repeat (first|(with_reducible first|exact HB.out|apply below_alloc|apply pw_below_drewN|apply below_drew1|refine below_set ?_ GE344.out)|exact HB.out)⟩
 ·replace c5:=Bool.eq_false_iff.mpr c5;subst c5;have H1:(some false) = some r:=by rw [if_neg (show ¬ (false = true) by decide)] at H;exact H
  clear H;have H:=H1;clear H1;obtain rfl:=Option.some.inj H;go_enter Try.func50,Try.ntmps50;go_wp2_with (first|((with_reducible refine gate_dst (N:=3) rfl ?_);refine box_event ?hg (N:=3) ?hd (cs:=#[.int .i64 a0_0,.slice A0_1 l0_1.length c0_1]) (t:=68) ?hr ?_;(case hd=>rfl);(case hg=>rfl);(case hr=>first|(go_simp;done)|(go_simp;rfl));intro gb344 hg w12 hbox hb;have n0_:=Aside0.mk (below_step bw hb);have n1_:=Aside0.mk (hbox);have n2_:=Aside0.mk ((by rw [hg];exact (below_size bw):w.heap.size ≤ gb344));have n3_:=Aside0.mk ((by rw [hg];exact (below_size bw):w.heap.size ≤ gb344));clear HB;have HB:=n0_;have BK344:=n1_;have GW344:=n2_;have GE344:=n3_;clear n0_ n1_ n2_ n3_;clear hb hbox hg;have hcz13_0:w12.cell? ⟨gb344,0,none⟩ = some (.int .i64 a0_0):=(blk_cell BK344.out 0).trans rfl;have hcz13_1:w12.cell? ⟨gb344,1,none⟩ = some (.slice A0_1 l0_1.length c0_1):=(blk_cell BK344.out 1).trans rfl;have hfz13_0:=blk_frozen BK344.out 0;have hfz13_1:=blk_frozen BK344.out 1)|((with_reducible refine gate_callee (f:=98) rfl ?_);refine goesL_ (some 10) rfl rfl Try.func98 (by kernel_rfl) rfl #[.agg #[.int .i64 a0_0,.slice A0_1 l0_1.length c0_1],.int .i64 a1,.int .i64 a2] rfl mq ?_;(with_reducible refine (impl_votes_isWorth.calls k a0_0 _ _ l0_1 a1 a2 false _ ?side1 ?side2 A4.out).mono ?_);(case side1=>repeat (first|exact (Kd.C_below HR0_1.out HB.out)|(with_reducible refine Kd.C_alloc ?_ _)|(with_reducible refine Kd.C_drewN ?_ _)|(with_reducible refine Kd.C_drew ?_)));(case side2=>exact HC0_1.out);rintro e w14 ⟨rfl,hb⟩;refine ⟨_,rfl,?_⟩;have n0_:=Aside0.mk (blk_below (g:=gb344) (o:=.cells #[.int .i64 a0_0,.slice A0_1 l0_1.length c0_1] 68 (0,0)) bk hb);have n1_:=Aside0.mk (below_step bw hb);clear BK344;clear HB;have BK344:=n0_;have HB:=n1_;clear n0_ n1_;(try clear hb);(try clear hb2);(try clear hk);(try clear hi)))
  go_ret
  exact ⟨by first|rfl|(simp [errW_none,errW_some] <;> rfl)|(simp [*,errW_none,errW_some] <;> rfl),by repeat (first|(with_reducible first|exact HB.out|apply below_alloc|apply pw_below_drewN|apply below_drew1|refine below_set ?_ GE344.out)|exact HB.out)⟩


/-! ### impl_within: function 69 -/
def impl_within.f (a0:Int) (a1:Int) (a2:Int):Option (Bool):=if a0 ≥ a1 then (some (decide (a0 ≤ a2))) else (some false)
set_option maxHeartbeats 8000000 in
set_option maxRecDepth 100000 in
theorem impl_within.calls (a0:Int) (a1:Int) (a2:Int) (r:Bool) (w:World) (h:impl_within.f a0 a1 a2 = some r) :
  Calls Try.prog 69 #[.int .i64 a0,.int .i64 a1,.int .i64 a2] w fun e w'=>e = .returned (.bool r) ∧ Drawn0 w w':=by
 have H:(if a0 ≥ a1 then (some (decide (a0 ≤ a2))) else (some false)) = some r:=h;clear h;by_cases c4:a0 ≥ a1
 ·rw [if_pos c4] at H;have c4b0:decide (a1 ≤ a0) = true:=decide_eq_true c4;clear c4;obtain rfl:=Option.some.inj H;go_enter Try.func69,Try.ntmps69;go_wp2
  go_ret
  exact ⟨by first|rfl|(simp;done)|(simp [*];done),by repeat (first|exact Drawn0.refl _|apply Drawn0.step)⟩
 ·rw [if_neg c4] at H;have c4b0:decide (a1 ≤ a0) = false:=decide_eq_false c4;clear c4;obtain rfl:=Option.some.inj H;go_enter Try.func69,Try.ntmps69;go_wp2
  go_ret
  exact ⟨by first|rfl|(simp;done)|(simp [*];done),by repeat (first|exact Drawn0.refl _|apply Drawn0.step)⟩


/-! ### slices_IndexFunc_LLint_int: function 167 -/
def slices_IndexFunc_LLint_int.l0:Nat → List (List Int) → (List Int → Option (Bool)) → Int → Int → Option (Int)
 | 0,_,_,_,_=>none
 | k + 1,x0,x1,x7,x8=>if x8 < x7 then (if 0 ≤ x8 then (if x8 < (x0.length:Int) then ((x1 (rd_LI x0 x8)).bind fun t282=>(if t282 = true then (some x8) else (slices_IndexFunc_LLint_int.l0 k x0 x1 x7 (wrap64 (x8 + 1))))) else (none)) else (none)) else (some (-1))
def slices_IndexFunc_LLint_int.f (k:Nat) (l0:List (List Int)) (a1:(List Int → Option (Bool))):Option (Int):=slices_IndexFunc_LLint_int.l0 k l0 a1 (l0.length:Int) 0
theorem slices_IndexFunc_LLint_int.mono_l:∀ k,(∀ y0 y1 y2 y3,LeO (slices_IndexFunc_LLint_int.l0 k y0 y1 y2 y3) (slices_IndexFunc_LLint_int.l0 (k + 1) y0 y1 y2 y3))
 | 0=>fun _ _ _ _ r h=>by simp [slices_IndexFunc_LLint_int.l0] at h
 | k + 1=>by
  have ih0:=slices_IndexFunc_LLint_int.mono_l k
  ·intro y0 y1 y2 y3;unfold slices_IndexFunc_LLint_int.l0
   repeat' with_reducible first|exact ih0 _ _ _ _|exact LeO.refl _|exact LeO.none _|refine LeO.ite ?_ ?_|refine LeO.bind ?_ (fun _=>?_)
theorem slices_IndexFunc_LLint_int.mono:∀ a0 a1 k,LeO (slices_IndexFunc_LLint_int.f k a0 a1) (slices_IndexFunc_LLint_int.f (k + 1) a0 a1):=by
 intro a0 a1 k;have ih0:=slices_IndexFunc_LLint_int.mono_l k;unfold slices_IndexFunc_LLint_int.f
 repeat' with_reducible first|exact ih0 _ _ _ _|exact LeO.refl _|exact LeO.none _|refine LeO.ite ?_ ?_|refine LeO.bind ?_ (fun _=>?_)
theorem slices_IndexFunc_LLint_int.monop_l {p_ q_:(List Int → Option (Bool))} (h_:∀ x0_,LeO (p_ x0_) (q_ x0_)):∀ k,(∀ y0 y2 y3,LeO (slices_IndexFunc_LLint_int.l0 k y0 p_ y2 y3) (slices_IndexFunc_LLint_int.l0 k y0 q_ y2 y3))
 | 0=>fun _ _ _ r hz=>by simp [slices_IndexFunc_LLint_int.l0] at hz
 | k + 1=>by
  have ih0:=slices_IndexFunc_LLint_int.monop_l h_ k
  ·intro y0 y1 y2;unfold slices_IndexFunc_LLint_int.l0
   repeat' with_reducible first|exact ih0 _ _ _|exact h_ _|exact LeO.refl _|refine LeO.ite ?_ ?_|refine LeO.bind ?_ (fun _=>?_)
theorem slices_IndexFunc_LLint_int.mono_p {p_ q_:(List Int → Option (Bool))} (h_:∀ x0_,LeO (p_ x0_) (q_ x0_)):∀ a0 k,LeO (slices_IndexFunc_LLint_int.f k a0 p_) (slices_IndexFunc_LLint_int.f k a0 q_):=by
 intro a0 k;have ih0:=slices_IndexFunc_LLint_int.monop_l h_ k;unfold slices_IndexFunc_LLint_int.f
 repeat' with_reducible first|exact ih0 _ _ _|exact h_ _|exact LeO.refl _|refine LeO.ite ?_ ?_|refine LeO.bind ?_ (fun _=>?_)
set_option maxHeartbeats 8000000 in
set_option maxRecDepth 100000 in
theorem slices_IndexFunc_LLint_int.calls (k:Nat) (A0:Option Addr) (c0:Nat) (l0:List (List Int)) (a1:(List Int → Option (Bool))) (g1_:Nat) (lb1_:Array Value) (eg1_:∀ (args:Array Value) (w:World),(callFunc g1_ args).run Try.prog w = .ok (.enter g1_ args) w) (r:Int) (w:World) (hr0:Kd.C (Kd.slice 3 (Kd.int .i64)) w A0 l0.length l0) (hc0:l0.length ≤ c0) (hp1:∀ (W:World) (A0_:Option Addr) (c0_:Nat) (l0_:List Int) (r0_:Bool),a1 l0_ = some r0_ → Below w.heap.size w W → Kd.C (Kd.int .i64) W A0_ l0_.length l0_ → l0_.length ≤ c0_ → Calls Try.prog g1_ (#[.slice A0_ l0_.length c0_] ++ lb1_) W fun e w'=>e = .returned (.bool r0_) ∧ Below W.heap.size W w') (h:slices_IndexFunc_LLint_int.f k l0 a1 = some r) :
  Calls Try.prog 167 #[.slice A0 l0.length c0,.func (.func g1_) #[] lb1_] w fun e w'=>e = .returned (.int .i64 r) ∧ Below w.heap.size w w':=by
 have HR0:=Aside0.mk hr0;have HC0:=Aside0.mk hc0;clear hr0 hc0;have HP1:=Aside0.mk hp1;clear hp1;have HB:=Aside0.mk (Below.refl w.heap.size w);have H:(slices_IndexFunc_LLint_int.l0 k l0 a1 (l0.length:Int) 0) = some r:=h;clear h;have H':=Aside0.mk H;clear H;go_enter Try.func167,Try.ntmps167;go_wp2
 go_loopg [8] k (fun kq v8 w'=>∃ (x8_1:Int),v8 = .int .i64 x8_1 ∧ Aside0 (slices_IndexFunc_LLint_int.l0 kq l0 a1 (l0.length:Int) x8_1 = some r) ∧ Aside0 (kq ≤ k) ∧ Aside0 (Below w.heap.size w w'))
 case atStart=>exact ⟨(0),(by first|rfl|(simp;done)|(simp [*];done)),H',⟨Nat.le_refl _⟩,⟨by repeat (first|(with_reducible first|exact HB.out|apply below_alloc|apply pw_below_drewN|apply below_drew1)|exact HB.out)⟩⟩
 case round =>
  clear H'
  try clear c1
  try clear p1
  try clear p2
  obtain ⟨x8_1,rfl,HA,HK1,HB⟩:=hrel
  cases gk with
  | zero=>exact absurd HA.out (by simp [slices_IndexFunc_LLint_int.l0])
  | succ k1 =>
   have H:=HA.out;clear HA;simp only [slices_IndexFunc_LLint_int.l0] at H;by_cases c3:x8_1 < (l0.length:Int)
   ·rw [if_pos c3] at H;have c3b0:decide (x8_1 < (l0.length:Int)) = true:=decide_eq_true c3;clear c3;by_cases c4:0 ≤ x8_1
    ·rw [if_pos c4] at H;have c4b0:decide (0 ≤ x8_1) = true:=decide_eq_true c4;clear c4;by_cases c5:x8_1 < (l0.length:Int)
     ·rw [if_pos c5] at H;have c5b0:decide (x8_1 < (l0.length:Int)) = true:=decide_eq_true c5;clear c5;replace H:=Option.bind_eq_some_iff.mp H;obtain ⟨t282,A60,H⟩:=H;replace H:(if t282 = true then (some x8_1) else (slices_IndexFunc_LLint_int.l0 k1 l0 a1 (l0.length:Int) (wrap64 (x8_1 + 1)))) = some r:=H;have A6:=Aside0.mk A60;clear A60;by_cases c7:t282 = true
      ·subst c7;have H1:(some x8_1) = some r:=by rw [if_pos rfl] at H;exact H
       clear H;have H:=H1;clear H1;obtain rfl:=Option.some.inj H;have p281:0 ≤ (x8_1:Int):=of_decide_eq_true ab;have q281:x8_1 < (l0.length:Int):=of_decide_eq_true ab;obtain ⟨ad281,A281_0,c281_0,e281,hx281_0,hl281_0,hi281_0⟩:=at_LI HR0.out x8_1 p281 q281;cases e281
       replace hx281_0:=(HB.out.cell (World.block_lt_of_cell? w _ hx281_0)).trans hx281_0;have HR281_0:=Aside0.mk hi281_0;have HC281_0:=Aside0.mk hl281_0;clear hi281_0 hl281_0;replace p281:=eq_true p281;replace q281:=eq_true q281;go_wp2_with (first|((with_reducible refine gate_fn (t:=11) rfl ?_);refine goesFL_ (some 16) rfl rfl eg1_ #[.slice A281_0 (rd_LI l0 x8_1).length c281_0] rfl rfl mq ?_;(with_reducible refine (HP1.out _ _ _ (rd_LI l0 x8_1) true A6.out ?side1 ?side2 ?side3).mono ?_);(case side1=>repeat (first|(with_reducible first|exact HB.out|apply below_alloc|apply pw_below_drewN|apply below_drew1)|exact HB.out));(case side2=>repeat (first|exact (Kd.C_below HR281_0.out HB.out)|(with_reducible refine Kd.C_alloc ?_ _)|(with_reducible refine Kd.C_drewN ?_ _)|(with_reducible refine Kd.C_drew ?_)));(case side3=>exact HC281_0.out);rintro e w8 ⟨rfl,hb⟩;refine ⟨_,rfl,?_⟩;have n0_:=Aside0.mk (below_step bw hb);clear HB;have HB:=n0_;clear n0_;(try clear hb);(try clear hb2);(try clear hk);(try clear hi)))
       go_ret
       exact ⟨by first|rfl|(simp [errW_none,errW_some] <;> rfl)|(simp [*,errW_none,errW_some] <;> rfl),by repeat (first|(with_reducible first|exact HB.out|apply below_alloc|apply pw_below_drewN|apply below_drew1)|exact HB.out)⟩
      ·replace c7:=Bool.eq_false_iff.mpr c7;subst c7;have H1:(slices_IndexFunc_LLint_int.l0 k1 l0 a1 (l0.length:Int) (wrap64 (x8_1 + 1))) = some r:=by rw [if_neg (show ¬ (false = true) by decide)] at H;exact H
       clear H;have H:=H1;clear H1;have H':=Aside0.mk H;clear H;have p281:0 ≤ (x8_1:Int):=of_decide_eq_true ab;have q281:x8_1 < (l0.length:Int):=of_decide_eq_true ab;obtain ⟨ad281,A281_0,c281_0,e281,hx281_0,hl281_0,hi281_0⟩:=at_LI HR0.out x8_1 p281 q281;cases e281
       replace hx281_0:=(HB.out.cell (World.block_lt_of_cell? w _ hx281_0)).trans hx281_0;have HR281_0:=Aside0.mk hi281_0;have HC281_0:=Aside0.mk hl281_0;clear hi281_0 hl281_0;replace p281:=eq_true p281;replace q281:=eq_true q281;go_wp2_with (first|((with_reducible refine gate_fn (t:=11) rfl ?_);refine goesFL_ (some 16) rfl rfl eg1_ #[.slice A281_0 (rd_LI l0 x8_1).length c281_0] rfl rfl mq ?_;(with_reducible refine (HP1.out _ _ _ (rd_LI l0 x8_1) false A6.out ?side1 ?side2 ?side3).mono ?_);(case side1=>repeat (first|(with_reducible first|exact HB.out|apply below_alloc|apply pw_below_drewN|apply below_drew1)|exact HB.out));(case side2=>repeat (first|exact (Kd.C_below HR281_0.out HB.out)|(with_reducible refine Kd.C_alloc ?_ _)|(with_reducible refine Kd.C_drewN ?_ _)|(with_reducible refine Kd.C_drew ?_)));(case side3=>exact HC281_0.out);rintro e w9 ⟨rfl,hb⟩;refine ⟨_,rfl,?_⟩;have n0_:=Aside0.mk (below_step bw hb);clear HB;have HB:=n0_;clear n0_;(try clear hb);(try clear hb2);(try clear hk);(try clear hi)))
       go_roundg k1
       case measure=>have:=HK1.out;omega
       case rel=>exact ⟨(wrap64 (x8_1 + 1)),(by first|rfl|(simp;done)|(simp [*];done)),H',⟨by have:=HK1.out;omega⟩,⟨by repeat (first|(with_reducible first|exact HB.out|apply below_alloc|apply pw_below_drewN|apply below_drew1)|exact HB.out)⟩⟩
     ·rw [if_neg c5] at H;exact absurd H (by simp)
    ·rw [if_neg c4] at H;exact absurd H (by simp)
   ·rw [if_neg c3] at H;have c3b0:decide (x8_1 < (l0.length:Int)) = false:=decide_eq_false c3;clear c3;obtain rfl:=Option.some.inj H;go_wp2
    go_ret
    exact ⟨by first|rfl|(simp [errW_none,errW_some] <;> rfl)|(simp [*,errW_none,errW_some] <;> rfl),by repeat (first|(with_reducible first|exact HB.out|apply below_alloc|apply pw_below_drewN|apply below_drew1)|exact HB.out)⟩


/-! ### slices_ContainsFunc_LLint_int: function 152 -/
def slices_ContainsFunc_LLint_int.f (k:Nat) (l0:List (List Int)) (a1:(List Int → Option (Bool))):Option (Bool):=(slices_IndexFunc_LLint_int.f k l0 a1).bind fun t283=>(some (decide (t283 ≥ 0)))
theorem slices_ContainsFunc_LLint_int.mono:∀ a0 a1 k,LeO (slices_ContainsFunc_LLint_int.f k a0 a1) (slices_ContainsFunc_LLint_int.f (k + 1) a0 a1):=by
 intro a0 a1 k;unfold slices_ContainsFunc_LLint_int.f
 repeat' with_reducible first|exact slices_IndexFunc_LLint_int.mono _ _ _|exact LeO.refl _|exact LeO.none _|refine LeO.trans (slices_IndexFunc_LLint_int.mono _ _ _) (slices_IndexFunc_LLint_int.mono_p (fun _=>?_) _ _)|refine LeO.ite ?_ ?_|refine LeO.bind ?_ (fun _=>?_)
theorem slices_ContainsFunc_LLint_int.mono_p {p_ q_:(List Int → Option (Bool))} (h_:∀ x0_,LeO (p_ x0_) (q_ x0_)):∀ a0 k,LeO (slices_ContainsFunc_LLint_int.f k a0 p_) (slices_ContainsFunc_LLint_int.f k a0 q_):=by
 intro a0 k;unfold slices_ContainsFunc_LLint_int.f
 repeat' with_reducible first|exact h_ _|refine slices_IndexFunc_LLint_int.mono_p (fun _=>?_) _ _|exact LeO.refl _|refine LeO.ite ?_ ?_|refine LeO.bind ?_ (fun _=>?_)
set_option maxHeartbeats 8000000 in
set_option maxRecDepth 100000 in
theorem slices_ContainsFunc_LLint_int.calls (k:Nat) (A0:Option Addr) (c0:Nat) (l0:List (List Int)) (a1:(List Int → Option (Bool))) (g1_:Nat) (lb1_:Array Value) (eg1_:∀ (args:Array Value) (w:World),(callFunc g1_ args).run Try.prog w = .ok (.enter g1_ args) w) (r:Bool) (w:World) (hr0:Kd.C (Kd.slice 3 (Kd.int .i64)) w A0 l0.length l0) (hc0:l0.length ≤ c0) (hp1:∀ (W:World) (A0_:Option Addr) (c0_:Nat) (l0_:List Int) (r0_:Bool),a1 l0_ = some r0_ → Below w.heap.size w W → Kd.C (Kd.int .i64) W A0_ l0_.length l0_ → l0_.length ≤ c0_ → Calls Try.prog g1_ (#[.slice A0_ l0_.length c0_] ++ lb1_) W fun e w'=>e = .returned (.bool r0_) ∧ Below W.heap.size W w') (h:slices_ContainsFunc_LLint_int.f k l0 a1 = some r) :
  Calls Try.prog 152 #[.slice A0 l0.length c0,.func (.func g1_) #[] lb1_] w fun e w'=>e = .returned (.bool r) ∧ Below w.heap.size w w':=by
 have HR0:=Aside0.mk hr0;have HC0:=Aside0.mk hc0;clear hr0 hc0;have HP1:=Aside0.mk hp1;clear hp1;have HB:=Aside0.mk (Below.refl w.heap.size w);have H:((slices_IndexFunc_LLint_int.f k l0 a1).bind fun t283=>(some (decide (t283 ≥ 0)))) = some r:=h;clear h;replace H:=Option.bind_eq_some_iff.mp H;obtain ⟨t283,A30,H⟩:=H;replace H:(some (decide (t283 ≥ 0))) = some r:=H;have A3:=Aside0.mk A30;clear A30;obtain rfl:=Option.some.inj H;go_enter Try.func152,Try.ntmps152;go_wp2_with (first|((with_reducible refine gate_callee (f:=167) rfl ?_);refine goesL_ (some 7) rfl rfl Try.func167 (by kernel_rfl) rfl #[.slice A0 l0.length c0,.func (.func g1_) #[] lb1_] rfl mq ?_;(with_reducible refine (slices_IndexFunc_LLint_int.calls k _ _ l0 a1 g1_ lb1_ eg1_ t283 _ ?side1 ?side2 ?side3 A3.out).mono ?_);(case side1=>repeat (first|exact HR0.out|(with_reducible refine Kd.C_alloc ?_ _)|(with_reducible refine Kd.C_drewN ?_ _)|(with_reducible refine Kd.C_drew ?_)));(case side2=>exact HC0.out);(case side3=>exact (fun W_ A0_ c0_ l0_ r0_ hx_ hb_ hr0_ hc0_=>HP1.out W_ A0_ c0_ l0_ r0_ hx_ (below_step bw hb_) hr0_ hc0_));rintro e w4 ⟨rfl,hb⟩;refine ⟨_,rfl,?_⟩;have n0_:=Aside0.mk (below_step bw hb);clear HB;have HB:=n0_;clear n0_;(try clear hb);(try clear hb2);(try clear hk);(try clear hi)))
 go_ret
 exact ⟨by first|rfl|(simp [errW_none,errW_some] <;> rfl)|(simp [*,errW_none,errW_some] <;> rfl),by repeat (first|(with_reducible first|exact HB.out|apply below_alloc|apply pw_below_drewN|apply below_drew1)|exact HB.out)⟩


/-! ### impl_areIn_1: function 144 -/
def impl_areIn_1.f (a0:Int) (a1:Int) (a2:Int):Option (Bool):=(impl_within.f a0 a1 a2).bind fun t284=>(some (!t284))
set_option maxHeartbeats 8000000 in
set_option maxRecDepth 100000 in
theorem impl_areIn_1.calls (a0:Int) (gc1:Nat) (a1:Int) (gc2:Nat) (a2:Int) (r:Bool) (w:World) (hb1:w.heap[gc1]? = some (.cells #[.int .i64 a1] 3 (0,0))) (hb2:w.heap[gc2]? = some (.cells #[.int .i64 a2] 3 (0,0))) (hn1_2:gc1 ≠ gc2) (h:impl_areIn_1.f a0 a1 a2 = some r) :
  Calls Try.prog 144 #[.int .i64 a0,.pointer (some ⟨gc1,0,none⟩),.pointer (some ⟨gc2,0,none⟩)] w fun e w'=>e = .returned (.bool r) ∧ Drawn0 w w':=by
 have BK1:=Aside0.mk hb1;clear hb1;have BK2:=Aside0.mk hb2;clear hb2;have NB1_2:=Aside0.mk hn1_2;have NB2_1:=Aside0.mk (Ne.symm hn1_2);clear hn1_2;have H:((impl_within.f a0 a1 a2).bind fun t284=>(some (!t284))) = some r:=h;clear h;replace H:=Option.bind_eq_some_iff.mp H;obtain ⟨t284,A40,H⟩:=H;replace H:(some (!t284)) = some r:=H;have A4:=Aside0.mk A40;clear A40;obtain rfl:=Option.some.inj H;have hnb5:=NB1_2.out;have hnc5:=NB2_1.out;have hcz6_0:w.cell? ⟨gc1,0,none⟩ = some (.int .i64 a1):=(blk_cell BK1.out 0).trans rfl;have hfz6_0:=blk_frozen BK1.out 0;have hcz7_0:w.cell? ⟨gc2,0,none⟩ = some (.int .i64 a2):=(blk_cell BK2.out 0).trans rfl;have hfz7_0:=blk_frozen BK2.out 0;go_enter Try.func144,Try.ntmps144;go_wp2_with (first|((with_reducible refine gate_callee (f:=69) rfl ?_);refine goesL_ (some 8) rfl rfl Try.func69 (by kernel_rfl) rfl #[.int .i64 a0,.int .i64 a1,.int .i64 a2] rfl mq ?_;(with_reducible refine (impl_within.calls a0 a1 a2 t284 _ A4.out).mono ?_);rintro e w' ⟨rfl,⟨nd,rfl⟩⟩;refine ⟨_,rfl,?_⟩))
 go_ret
 exact ⟨by first|rfl|(simp;done)|(simp [*];done),by repeat (first|exact Drawn0.refl _|apply Drawn0.step)⟩
theorem impl_areIn_1.enters:∀ (args:Array Value) (w:World),(callFunc 144 args).run Try.prog w = .ok (.enter 144 args) w:=enters_of Try.func144 (by kernel_rfl) rfl


/-! ### impl_areIn: function 108 -/
def impl_areIn.f (k:Nat) (l0:List Int) (a1:Int) (a2:Int):Option (Bool):=(slices_ContainsFunc_int_int.f k l0 (fun y0_=>impl_areIn_1.f y0_ a1 a2)).bind fun t287=>(some (!t287))
theorem impl_areIn.mono:∀ a0 a1 a2 k,LeO (impl_areIn.f k a0 a1 a2) (impl_areIn.f (k + 1) a0 a1 a2):=by
 intro a0 a1 a2 k;unfold impl_areIn.f
 repeat' with_reducible first|exact slices_ContainsFunc_int_int.mono _ _ _|exact LeO.refl _|exact LeO.none _|refine LeO.trans (slices_ContainsFunc_int_int.mono _ _ _) (slices_ContainsFunc_int_int.mono_p (fun _=>?_) _ _)|refine LeO.ite ?_ ?_|refine LeO.bind ?_ (fun _=>?_)
set_option maxHeartbeats 8000000 in
set_option maxRecDepth 100000 in
theorem impl_areIn.calls (k:Nat) (A0:Option Addr) (c0:Nat) (l0:List Int) (a1:Int) (a2:Int) (r:Bool) (w:World) (hr0:Kd.C (Kd.int .i64) w A0 l0.length l0) (hc0:l0.length ≤ c0) (h:impl_areIn.f k l0 a1 a2 = some r) :
  Calls Try.prog 108 #[.slice A0 l0.length c0,.int .i64 a1,.int .i64 a2] w fun e w'=>e = .returned (.bool r) ∧ Below w.heap.size w w':=by
 have hmf:∀ (fn:Fn) (first cap:Array Value) (w:World),(Instr.makeFunc fn first cap).run Try.prog w = .ok (.func fn first cap) w:=fun _ _ _ _=>rfl
 have HR0:=Aside0.mk hr0;have HC0:=Aside0.mk hc0;clear hr0 hc0;have HB:=Aside0.mk (Below.refl w.heap.size w);have H:((slices_ContainsFunc_int_int.f k l0 (fun y0_=>impl_areIn_1.f y0_ a1 a2)).bind fun t287=>(some (!t287))) = some r:=h;clear h;replace H:=Option.bind_eq_some_iff.mp H;obtain ⟨t287,A40,H⟩:=H;replace H:(some (!t287)) = some r:=H;have A4:=Aside0.mk A40;clear A40;obtain rfl:=Option.some.inj H;go_enter Try.func108,Try.ntmps108;go_wp2_with (first|((with_reducible refine gate_dst (N:=4) rfl ?_);refine box_event ?hg (N:=4) ?hd (cs:=#[.int .i64 a1]) (t:=3) ?hr ?_;(case hd=>rfl);(case hg=>rfl);(case hr=>first|(go_simp;done)|(go_simp;rfl));intro gb285 hg w5 hbox hb;have n0_:=Aside0.mk (below_step bw hb);have n1_:=Aside0.mk (hbox);have n2_:=Aside0.mk ((by rw [hg];exact (below_size bw):w.heap.size ≤ gb285));have n3_:=Aside0.mk ((by rw [hg];exact (below_size bw):w.heap.size ≤ gb285));clear HB;have HB:=n0_;have BK285:=n1_;have GW285:=n2_;have GE285:=n3_;clear n0_ n1_ n2_ n3_;clear hb hbox hg)|((with_reducible refine gate_dst (N:=5) rfl ?_);refine box_event ?hg (N:=5) ?hd (cs:=#[.int .i64 a2]) (t:=3) ?hr ?_;(case hd=>rfl);(case hg=>rfl);(case hr=>first|(go_simp;done)|(go_simp;rfl));intro gb286 hg w6 hbox hb;have n0_:=Aside0.mk (blk_below (g:=gb285) (o:=.cells #[.int .i64 a1] 3 (0,0)) bk hb);have n1_:=Aside0.mk (below_step bw hb);have n2_:=Aside0.mk (hbox);have n3_:=Aside0.mk ((by rw [hg];exact (below_size bw):w.heap.size ≤ gb286));have n4_:=Aside0.mk ((by rw [hg];exact (below_size bw):w.heap.size ≤ gb286));have n5_:=Aside0.mk ((by rw [hg];exact Nat.ne_of_lt (blk_lt (g:=gb285) (o:=.cells #[.int .i64 a1] 3 (0,0)) bk):gb285 ≠ gb286));have n6_:=Aside0.mk ((by rw [hg];exact Nat.ne_of_gt (blk_lt (g:=gb285) (o:=.cells #[.int .i64 a1] 3 (0,0)) bk):gb286 ≠ gb285));clear BK285;clear HB;have BK285:=n0_;have HB:=n1_;have BK286:=n2_;have GW286:=n3_;have GE286:=n4_;have NB285_286:=n5_;have NB286_285:=n6_;clear n0_ n1_ n2_ n3_ n4_ n5_ n6_;clear hb hbox hg)|((with_reducible refine gate_callee (f:=132) rfl ?_);refine goesL_ (some 9) rfl rfl Try.func132 (by kernel_rfl) rfl #[.slice A0 l0.length c0,.func (.func 144) #[] #[.pointer (some ⟨gb285,0,none⟩),.pointer (some ⟨gb286,0,none⟩)]] rfl mq ?_;(with_reducible refine (slices_ContainsFunc_int_int.calls k _ _ l0 (fun y0_=>impl_areIn_1.f y0_ a1 a2) 144 #[.pointer (some ⟨gb285,0,none⟩),.pointer (some ⟨gb286,0,none⟩)] impl_areIn_1.enters t287 _ ?side1 ?side2 ?side3 A4.out).mono ?_);(case side1=>repeat (first|exact (Kd.C_below HR0.out HB.out)|(with_reducible refine Kd.C_alloc ?_ _)|(with_reducible refine Kd.C_drewN ?_ _)|(with_reducible refine Kd.C_drew ?_)));(case side2=>exact HC0.out);(case side3=>exact (fun W_ a0_ r0_ hx_ hb_ =>(impl_areIn_1.calls a0_ gb285 a1 gb286 a2 r0_ W_  (box_later bk hb_) (box_later bk hb_) NB285_286.out hx_).mono (fun _ _ h_=>⟨h_.1,h_.2.below⟩)));rintro e w7 ⟨rfl,hb⟩;refine ⟨_,rfl,?_⟩;have n0_:=Aside0.mk (blk_below (g:=gb285) (o:=.cells #[.int .i64 a1] 3 (0,0)) bk hb);have n1_:=Aside0.mk (blk_below (g:=gb286) (o:=.cells #[.int .i64 a2] 3 (0,0)) bk hb);have n2_:=Aside0.mk (below_step bw hb);clear BK285;clear BK286;clear HB;have BK285:=n0_;have BK286:=n1_;have HB:=n2_;clear n0_ n1_ n2_;(try clear hb);(try clear hb2);(try clear hk);(try clear hi)))
 go_ret
 exact ⟨by first|rfl|(simp [errW_none,errW_some] <;> rfl)|(simp [*,errW_none,errW_some] <;> rfl),by repeat (first|(with_reducible first|exact HB.out|apply below_alloc|apply pw_below_drewN|apply below_drew1|refine below_set ?_ GE285.out|refine below_set ?_ GE286.out)|exact HB.out)⟩


/-! ### impl_isIncreasing: function 168 -/
def impl_isIncreasing.l0:Nat → List Int → Int → Int → Option (Bool)
 | 0,_,_,_=>none
 | k + 1,x0,x5,x6=>if x6 < x5 then (if x6 > 0 then (if 0 ≤ x6 then (if x6 < (x0.length:Int) then (if 0 ≤ (wrap64 (x6 - 1)) then (if (wrap64 (x6 - 1)) < (x0.length:Int) then (if (rd x0 x6) ≤ (rd x0 (wrap64 (x6 - 1))) then (some false) else (impl_isIncreasing.l0 k x0 x5 (wrap64 (x6 + 1)))) else (none)) else (none)) else (none)) else (none)) else (impl_isIncreasing.l0 k x0 x5 (wrap64 (x6 + 1)))) else (some true)
def impl_isIncreasing.f (k:Nat) (l0:List Int):Option (Bool):=impl_isIncreasing.l0 k l0 (l0.length:Int) 0
theorem impl_isIncreasing.mono_l:∀ k,(∀ y0 y1 y2,LeO (impl_isIncreasing.l0 k y0 y1 y2) (impl_isIncreasing.l0 (k + 1) y0 y1 y2))
 | 0=>fun _ _ _ r h=>by simp [impl_isIncreasing.l0] at h
 | k + 1=>by
  have ih0:=impl_isIncreasing.mono_l k
  ·intro y0 y1 y2;unfold impl_isIncreasing.l0
   repeat' with_reducible first|exact ih0 _ _ _|exact LeO.refl _|exact LeO.none _|refine LeO.ite ?_ ?_|refine LeO.bind ?_ (fun _=>?_)
theorem impl_isIncreasing.mono:∀ a0 k,LeO (impl_isIncreasing.f k a0) (impl_isIncreasing.f (k + 1) a0):=by
 intro a0 k;have ih0:=impl_isIncreasing.mono_l k;unfold impl_isIncreasing.f
 repeat' with_reducible first|exact ih0 _ _ _|exact LeO.refl _|exact LeO.none _|refine LeO.ite ?_ ?_|refine LeO.bind ?_ (fun _=>?_)
set_option maxHeartbeats 8000000 in
set_option maxRecDepth 100000 in
theorem impl_isIncreasing.calls (k:Nat) (A0:Option Addr) (c0:Nat) (l0:List Int) (r:Bool) (w:World) (hr0:Kd.C (Kd.int .i64) w A0 l0.length l0) (hc0:l0.length ≤ c0) (h:impl_isIncreasing.f k l0 = some r) :
  Calls Try.prog 168 #[.slice A0 l0.length c0] w fun e w'=>e = .returned (.bool r) ∧ Drawn0 w w':=by
 have HR0:=Aside0.mk hr0;have HC0:=Aside0.mk hc0;clear hr0 hc0;have H:(impl_isIncreasing.l0 k l0 (l0.length:Int) 0) = some r:=h;clear h;have H':=Aside0.mk H;clear H;go_enter Try.func168,Try.ntmps168;go_wp2
 repeat (go_quiet (fail);try go_wp2)
 go_loopg [6] k (fun kq v6 w'=>∃ (x6_1:Int),v6 = .int .i64 x6_1 ∧ Aside0 (impl_isIncreasing.l0 kq l0 (l0.length:Int) x6_1 = some r) ∧ Aside0 (kq ≤ k) ∧ Drawn0 w w')
 case atStart=>exact ⟨(0),(by first|rfl|(simp;done)|(simp [*];done)),H',⟨Nat.le_refl _⟩,by repeat (first|exact Drawn0.refl _|apply Drawn0.step)⟩
 case round =>
  clear H'
  try clear c1
  obtain ⟨x6_1,rfl,HA,HK1,⟨m1,rfl⟩⟩:=hrel
  cases gk with
  | zero=>exact absurd HA.out (by simp [impl_isIncreasing.l0])
  | succ k1 =>
   have H:=HA.out;clear HA;simp only [impl_isIncreasing.l0] at H;by_cases c2:x6_1 < (l0.length:Int)
   ·rw [if_pos c2] at H;have c2b0:decide (x6_1 < (l0.length:Int)) = true:=decide_eq_true c2;clear c2;by_cases c3:x6_1 > 0
    ·rw [if_pos c3] at H;have c3b0:decide (0 < x6_1) = true:=decide_eq_true c3;clear c3;by_cases c4:0 ≤ x6_1
     ·rw [if_pos c4] at H;have c4b0:decide (0 ≤ x6_1) = true:=decide_eq_true c4;clear c4;by_cases c5:x6_1 < (l0.length:Int)
      ·rw [if_pos c5] at H;have c5b0:decide (x6_1 < (l0.length:Int)) = true:=decide_eq_true c5;clear c5;obtain ⟨ji6,hji6⟩:∃ j_:Int,(wrap64 (x6_1 - 1)) = j_:=⟨_,rfl⟩;replace H:(if 0 ≤ (ji6) then (if (ji6) < (l0.length:Int) then (if (rd l0 x6_1) ≤ (rd l0 (ji6)) then (some false) else (impl_isIncreasing.l0 k1 l0 (l0.length:Int) (wrap64 (x6_1 + 1)))) else (none)) else (none)) = some r:=by first|(rw [hji6] at H;exact H)|(simp only [hji6] at H ⊢;exact H)
       have hji6w:(IntKind.i64.wrap (x6_1 - 1)) = ji6:=(i64_w _).trans hji6;by_cases c7:0 ≤ (ji6)
       ·rw [if_pos c7] at H;have c7b0:decide (0 ≤ (ji6)) = true:=decide_eq_true c7;clear c7;by_cases c8:(ji6) < (l0.length:Int)
        ·rw [if_pos c8] at H;have c8b0:decide ((ji6) < (l0.length:Int)) = true:=decide_eq_true c8;clear c8;by_cases c9:(rd l0 x6_1) ≤ (rd l0 (ji6))
         ·rw [if_pos c9] at H;have c9b0:decide ((rd l0 x6_1) ≤ (rd l0 (ji6))) = true:=decide_eq_true c9;clear c9;obtain rfl:=Option.some.inj H;have p288:0 ≤ (x6_1:Int):=of_decide_eq_true ab;have q288:x6_1 < (l0.length:Int):=of_decide_eq_true ab;obtain ⟨ad288,e288,hx288_0⟩:=Kd.at_int HR0.out x6_1 p288 q288;cases e288
          replace p288:=eq_true p288;replace q288:=eq_true q288;have p289:0 ≤ ((ji6):Int):=of_decide_eq_true ab;have q289:(ji6) < (l0.length:Int):=of_decide_eq_true ab;obtain ⟨ad289,e289,hx289_0⟩:=Kd.at_int HR0.out (ji6) p289 q289;obtain rfl:ad288 = ad289:=(by injection e289);replace p289:=eq_true p289;replace q289:=eq_true q289;go_wp2
          repeat (go_quiet (fail);try go_wp2)
          go_ret
          exact ⟨by first|rfl|(simp;done)|(simp only [← hji6] <;> (first|rfl|simp))|(simp [*];done),by repeat (first|exact Drawn0.refl _|apply Drawn0.step)⟩
         ·rw [if_neg c9] at H;have c9b0:decide ((rd l0 x6_1) ≤ (rd l0 (ji6))) = false:=decide_eq_false c9;clear c9;have H':=Aside0.mk H;clear H;have p288:0 ≤ (x6_1:Int):=of_decide_eq_true ab;have q288:x6_1 < (l0.length:Int):=of_decide_eq_true ab;obtain ⟨ad288,e288,hx288_0⟩:=Kd.at_int HR0.out x6_1 p288 q288;cases e288
          replace p288:=eq_true p288;replace q288:=eq_true q288;have p289:0 ≤ ((ji6):Int):=of_decide_eq_true ab;have q289:(ji6) < (l0.length:Int):=of_decide_eq_true ab;obtain ⟨ad289,e289,hx289_0⟩:=Kd.at_int HR0.out (ji6) p289 q289;obtain rfl:ad288 = ad289:=(by injection e289);replace p289:=eq_true p289;replace q289:=eq_true q289;go_wp2
          repeat (go_quiet (fail);try go_wp2)
          go_roundg k1
          case measure=>have:=HK1.out;omega
          case rel=>exact ⟨(wrap64 (x6_1 + 1)),(by first|rfl|(simp;done)|(simp [*];done)),H',⟨by have:=HK1.out;omega⟩,by repeat (first|exact Drawn0.refl _|apply Drawn0.step)⟩
        ·rw [if_neg c8] at H;exact absurd H (by simp)
       ·rw [if_neg c7] at H;exact absurd H (by simp)
      ·rw [if_neg c5] at H;exact absurd H (by simp)
     ·rw [if_neg c4] at H;exact absurd H (by simp)
    ·rw [if_neg c3] at H;have c3b0:decide (0 < x6_1) = false:=decide_eq_false c3;clear c3;have H':=Aside0.mk H;clear H;go_wp2
     repeat (go_quiet (fail);try go_wp2)
     go_roundg k1
     case measure=>have:=HK1.out;omega
     case rel=>exact ⟨(wrap64 (x6_1 + 1)),(by first|rfl|(simp;done)|(simp [*];done)),H',⟨by have:=HK1.out;omega⟩,by repeat (first|exact Drawn0.refl _|apply Drawn0.step)⟩
   ·rw [if_neg c2] at H;have c2b0:decide (x6_1 < (l0.length:Int)) = false:=decide_eq_false c2;clear c2;obtain rfl:=Option.some.inj H;go_wp2
    repeat (go_quiet (fail);try go_wp2)
    go_ret
    exact ⟨by first|rfl|(simp;done)|(simp [*];done),by repeat (first|exact Drawn0.refl _|apply Drawn0.step)⟩


/-! ### impl_isSet: function 154 -/
def impl_isSet.f (k:Nat) (l0:List Int) (a1:Int):Option (Bool):=(impl_areIn.f k l0 0 (wrap64 (a1 - 1))).bind fun t290=>(if t290 = true then ((impl_isIncreasing.f k l0).bind fun t291=>(some t291)) else (some false))
theorem impl_isSet.mono:∀ a0 a1 k,LeO (impl_isSet.f k a0 a1) (impl_isSet.f (k + 1) a0 a1):=by
 intro a0 a1 k;unfold impl_isSet.f
 repeat' with_reducible first|exact impl_areIn.mono _ _ _ _|exact impl_isIncreasing.mono _ _|exact LeO.refl _|exact LeO.none _|refine LeO.ite ?_ ?_|refine LeO.bind ?_ (fun _=>?_)
set_option maxHeartbeats 8000000 in
set_option maxRecDepth 100000 in
theorem impl_isSet.calls (k:Nat) (A0:Option Addr) (c0:Nat) (l0:List Int) (a1:Int) (r:Bool) (w:World) (hr0:Kd.C (Kd.int .i64) w A0 l0.length l0) (hc0:l0.length ≤ c0) (h:impl_isSet.f k l0 a1 = some r) :
  Calls Try.prog 154 #[.slice A0 l0.length c0,.int .i64 a1] w fun e w'=>e = .returned (.bool r) ∧ Below w.heap.size w w':=by
 have HR0:=Aside0.mk hr0;have HC0:=Aside0.mk hc0;clear hr0 hc0;have HB:=Aside0.mk (Below.refl w.heap.size w);have H:((impl_areIn.f k l0 0 (wrap64 (a1 - 1))).bind fun t290=>(if t290 = true then ((impl_isIncreasing.f k l0).bind fun t291=>(some t291)) else (some false))) = some r:=h;clear h;replace H:=Option.bind_eq_some_iff.mp H;obtain ⟨t290,A30,H⟩:=H;replace H:(if t290 = true then ((impl_isIncreasing.f k l0).bind fun t291=>(some t291)) else (some false)) = some r:=H;have A3:=Aside0.mk A30;clear A30;by_cases c4:t290 = true
 ·subst c4;have H1:((impl_isIncreasing.f k l0).bind fun t291=>(some t291)) = some r:=by rw [if_pos rfl] at H;exact H
  clear H;have H:=H1;clear H1;replace H:=Option.bind_eq_some_iff.mp H;obtain ⟨t291,A50,H⟩:=H;replace H:(some t291) = some r:=H;have A5:=Aside0.mk A50;clear A50;obtain rfl:=Option.some.inj H;go_enter Try.func154,Try.ntmps154;go_wp2_with (first|((with_reducible refine gate_callee (f:=108) rfl ?_);refine goesL_ (some 8) rfl rfl Try.func108 (by kernel_rfl) rfl #[.slice A0 l0.length c0,.int .i64 0,.int .i64 (wrap64 (a1 - 1))] rfl mq ?_;(with_reducible refine (impl_areIn.calls k _ _ l0 0 (wrap64 (a1 - 1)) true _ ?side1 ?side2 A3.out).mono ?_);(case side1=>repeat (first|exact HR0.out|(with_reducible refine Kd.C_alloc ?_ _)|(with_reducible refine Kd.C_drewN ?_ _)|(with_reducible refine Kd.C_drew ?_)));(case side2=>exact HC0.out);rintro e w6 ⟨rfl,hb⟩;refine ⟨_,rfl,?_⟩;have n0_:=Aside0.mk (below_step bw hb);clear HB;have HB:=n0_;clear n0_;(try clear hb);(try clear hb2);(try clear hk);(try clear hi))|(go_at_call 168;(with_reducible refine (impl_isIncreasing.calls k _ _ l0 t291 _ ?side1 ?side2 A5.out).mono ?_);(case side1=>repeat (first|exact (Kd.C_below HR0.out HB.out)|(with_reducible refine Kd.C_alloc ?_ _)|(with_reducible refine Kd.C_drewN ?_ _)|(with_reducible refine Kd.C_drew ?_)));(case side2=>exact HC0.out);rintro e w' ⟨rfl,⟨nd,rfl⟩⟩))
  go_ret
  exact ⟨by first|rfl|(simp [errW_none,errW_some] <;> rfl)|(simp [*,errW_none,errW_some] <;> rfl),by repeat (first|(with_reducible first|exact HB.out|apply below_alloc|apply pw_below_drewN|apply below_drew1)|exact HB.out)⟩
 ·replace c4:=Bool.eq_false_iff.mpr c4;subst c4;have H1:(some false) = some r:=by rw [if_neg (show ¬ (false = true) by decide)] at H;exact H
  clear H;have H:=H1;clear H1;obtain rfl:=Option.some.inj H;go_enter Try.func154,Try.ntmps154;go_wp2_with (first|((with_reducible refine gate_callee (f:=108) rfl ?_);refine goesL_ (some 8) rfl rfl Try.func108 (by kernel_rfl) rfl #[.slice A0 l0.length c0,.int .i64 0,.int .i64 (wrap64 (a1 - 1))] rfl mq ?_;(with_reducible refine (impl_areIn.calls k _ _ l0 0 (wrap64 (a1 - 1)) false _ ?side1 ?side2 A3.out).mono ?_);(case side1=>repeat (first|exact HR0.out|(with_reducible refine Kd.C_alloc ?_ _)|(with_reducible refine Kd.C_drewN ?_ _)|(with_reducible refine Kd.C_drew ?_)));(case side2=>exact HC0.out);rintro e w7 ⟨rfl,hb⟩;refine ⟨_,rfl,?_⟩;have n0_:=Aside0.mk (below_step bw hb);clear HB;have HB:=n0_;clear n0_;(try clear hb);(try clear hb2);(try clear hk);(try clear hi)))
  go_ret
  exact ⟨by first|rfl|(simp [errW_none,errW_some] <;> rfl)|(simp [*,errW_none,errW_some] <;> rfl),by repeat (first|(with_reducible first|exact HB.out|apply below_alloc|apply pw_below_drewN|apply below_drew1)|exact HB.out)⟩


/-! ### impl_areSets_1: function 153 -/
def impl_areSets_1.f (k:Nat) (l0:List Int) (a1:Int):Option (Bool):=if (l0.length:Int) = 0 then (some true) else ((impl_isSet.f k l0 a1).bind fun t292=>(some (!t292)))
theorem impl_areSets_1.mono:∀ a0 a1 k,LeO (impl_areSets_1.f k a0 a1) (impl_areSets_1.f (k + 1) a0 a1):=by
 intro a0 a1 k;unfold impl_areSets_1.f
 repeat' with_reducible first|exact impl_isSet.mono _ _ _|exact LeO.refl _|exact LeO.none _|refine LeO.ite ?_ ?_|refine LeO.bind ?_ (fun _=>?_)
set_option maxHeartbeats 8000000 in
set_option maxRecDepth 100000 in
theorem impl_areSets_1.calls (k:Nat) (A0:Option Addr) (c0:Nat) (l0:List Int) (gc1:Nat) (a1:Int) (r:Bool) (w:World) (hr0:Kd.C (Kd.int .i64) w A0 l0.length l0) (hc0:l0.length ≤ c0) (hb1:w.heap[gc1]? = some (.cells #[.int .i64 a1] 3 (0,0))) (h:impl_areSets_1.f k l0 a1 = some r) :
  Calls Try.prog 153 #[.slice A0 l0.length c0,.pointer (some ⟨gc1,0,none⟩)] w fun e w'=>e = .returned (.bool r) ∧ Below w.heap.size w w':=by
 have HR0:=Aside0.mk hr0;have HC0:=Aside0.mk hc0;clear hr0 hc0;have BK1:=Aside0.mk hb1;clear hb1;have HB:=Aside0.mk (Below.refl w.heap.size w);have H:(if (l0.length:Int) = 0 then (some true) else ((impl_isSet.f k l0 a1).bind fun t292=>(some (!t292)))) = some r:=h;clear h;by_cases c3:(l0.length:Int) = 0
 ·rw [if_pos c3] at H;have c3b0:((l0.length:Int) == 0) = true:=beq_iff_eq.mpr c3;have c3b1:((l0.length:Int) != 0) = false:=bne_eq_false_iff_eq.mpr c3;clear c3;obtain rfl:=Option.some.inj H;go_enter Try.func153,Try.ntmps153;go_wp2
  go_ret
  exact ⟨by first|rfl|(simp [errW_none,errW_some] <;> rfl)|(simp [*,errW_none,errW_some] <;> rfl),by repeat (first|(with_reducible first|exact HB.out|apply below_alloc|apply pw_below_drewN|apply below_drew1|refine below_set ?_ GE1.out)|exact HB.out)⟩
 ·rw [if_neg c3] at H;have c3b0:((l0.length:Int) == 0) = false:=beq_eq_false_iff_ne.mpr c3;have c3b1:((l0.length:Int) != 0) = true:=bne_iff_ne.mpr c3;have c3b2:¬ (l0 = []):=fun h_=>c3 (by rw [h_];rfl)
  replace H:=Option.bind_eq_some_iff.mp H;obtain ⟨t292,A40,H⟩:=H;replace H:(some (!t292)) = some r:=H;have A4:=Aside0.mk A40;clear A40;obtain rfl:=Option.some.inj H;have hcz5_0:w.cell? ⟨gc1,0,none⟩ = some (.int .i64 a1):=(blk_cell BK1.out 0).trans rfl;have hfz5_0:=blk_frozen BK1.out 0;go_enter Try.func153,Try.ntmps153;go_wp2_with (first|(go_at_call 154;(with_reducible refine (impl_isSet.calls k _ _ l0 a1 t292 _ ?side1 ?side2 A4.out).mono ?_);(case side1=>repeat (first|exact HR0.out|(with_reducible refine Kd.C_alloc ?_ _)|(with_reducible refine Kd.C_drewN ?_ _)|(with_reducible refine Kd.C_drew ?_)));(case side2=>exact HC0.out);rintro e w6 ⟨rfl,hb⟩;have n0_:=Aside0.mk (blk_below (g:=gc1) (o:=.cells #[.int .i64 a1] 3 (0,0)) bk hb);have n1_:=Aside0.mk (below_step bw hb);clear BK1;clear HB;have BK1:=n0_;have HB:=n1_;clear n0_ n1_;(try clear hb);(try clear hb2);(try clear hk);(try clear hi)))
  go_ret
  exact ⟨by first|rfl|(simp [errW_none,errW_some] <;> rfl)|(simp [*,errW_none,errW_some] <;> rfl),by repeat (first|(with_reducible first|exact HB.out|apply below_alloc|apply pw_below_drewN|apply below_drew1|refine below_set ?_ GE1.out)|exact HB.out)⟩
theorem impl_areSets_1.enters:∀ (args:Array Value) (w:World),(callFunc 153 args).run Try.prog w = .ok (.enter 153 args) w:=enters_of Try.func153 (by kernel_rfl) rfl


/-! ### impl_areSets: function 127 -/
def impl_areSets.f (k:Nat) (l0:List (List Int)) (a1:Int):Option (Bool):=(slices_ContainsFunc_LLint_int.f k l0 (fun y0_=>impl_areSets_1.f k y0_ a1)).bind fun t294=>(some (!t294))
theorem impl_areSets.mono:∀ a0 a1 k,LeO (impl_areSets.f k a0 a1) (impl_areSets.f (k + 1) a0 a1):=by
 intro a0 a1 k;unfold impl_areSets.f
 repeat' with_reducible first|exact impl_areSets_1.mono _ _ _|exact slices_ContainsFunc_LLint_int.mono _ _ _|exact LeO.refl _|exact LeO.none _|refine LeO.trans (slices_ContainsFunc_LLint_int.mono _ _ _) (slices_ContainsFunc_LLint_int.mono_p (fun _=>?_) _ _)|refine LeO.ite ?_ ?_|refine LeO.bind ?_ (fun _=>?_)
set_option maxHeartbeats 8000000 in
set_option maxRecDepth 100000 in
theorem impl_areSets.calls (k:Nat) (A0:Option Addr) (c0:Nat) (l0:List (List Int)) (a1:Int) (r:Bool) (w:World) (hr0:Kd.C (Kd.slice 3 (Kd.int .i64)) w A0 l0.length l0) (hc0:l0.length ≤ c0) (h:impl_areSets.f k l0 a1 = some r) :
  Calls Try.prog 127 #[.slice A0 l0.length c0,.int .i64 a1] w fun e w'=>e = .returned (.bool r) ∧ Below w.heap.size w w':=by
 have hmf:∀ (fn:Fn) (first cap:Array Value) (w:World),(Instr.makeFunc fn first cap).run Try.prog w = .ok (.func fn first cap) w:=fun _ _ _ _=>rfl
 have HR0:=Aside0.mk hr0;have HC0:=Aside0.mk hc0;clear hr0 hc0;have HB:=Aside0.mk (Below.refl w.heap.size w);have H:((slices_ContainsFunc_LLint_int.f k l0 (fun y0_=>impl_areSets_1.f k y0_ a1)).bind fun t294=>(some (!t294))) = some r:=h;clear h;replace H:=Option.bind_eq_some_iff.mp H;obtain ⟨t294,A30,H⟩:=H;replace H:(some (!t294)) = some r:=H;have A3:=Aside0.mk A30;clear A30;obtain rfl:=Option.some.inj H;go_enter Try.func127,Try.ntmps127;go_wp2_with (first|((with_reducible refine gate_dst (N:=3) rfl ?_);refine box_event ?hg (N:=3) ?hd (cs:=#[.int .i64 a1]) (t:=3) ?hr ?_;(case hd=>rfl);(case hg=>rfl);(case hr=>first|(go_simp;done)|(go_simp;rfl));intro gb293 hg w4 hbox hb;have n0_:=Aside0.mk (below_step bw hb);have n1_:=Aside0.mk (hbox);have n2_:=Aside0.mk ((by rw [hg];exact (below_size bw):w.heap.size ≤ gb293));have n3_:=Aside0.mk ((by rw [hg];exact (below_size bw):w.heap.size ≤ gb293));clear HB;have HB:=n0_;have BK293:=n1_;have GW293:=n2_;have GE293:=n3_;clear n0_ n1_ n2_ n3_;clear hb hbox hg)|((with_reducible refine gate_callee (f:=152) rfl ?_);refine goesL_ (some 7) rfl rfl Try.func152 (by kernel_rfl) rfl #[.slice A0 l0.length c0,.func (.func 153) #[] #[.pointer (some ⟨gb293,0,none⟩)]] rfl mq ?_;(with_reducible refine (slices_ContainsFunc_LLint_int.calls k _ _ l0 (fun y0_=>impl_areSets_1.f k y0_ a1) 153 #[.pointer (some ⟨gb293,0,none⟩)] impl_areSets_1.enters t294 _ ?side1 ?side2 ?side3 A3.out).mono ?_);(case side1=>repeat (first|exact (Kd.C_below HR0.out HB.out)|(with_reducible refine Kd.C_alloc ?_ _)|(with_reducible refine Kd.C_drewN ?_ _)|(with_reducible refine Kd.C_drew ?_)));(case side2=>exact HC0.out);(case side3=>exact (fun W_ A0_ c0_ l0_ r0_ hx_ hb_ hr0_ hc0_=>(impl_areSets_1.calls k A0_ c0_ l0_ gb293 a1 r0_ W_ hr0_ hc0_ (box_later bk hb_) hx_).mono (fun _ _ h_=>h_)));rintro e w5 ⟨rfl,hb⟩;refine ⟨_,rfl,?_⟩;have n0_:=Aside0.mk (blk_below (g:=gb293) (o:=.cells #[.int .i64 a1] 3 (0,0)) bk hb);have n1_:=Aside0.mk (below_step bw hb);clear BK293;clear HB;have BK293:=n0_;have HB:=n1_;clear n0_ n1_;(try clear hb);(try clear hb2);(try clear hk);(try clear hi)))
 go_ret
 exact ⟨by first|rfl|(simp [errW_none,errW_some] <;> rfl)|(simp [*,errW_none,errW_some] <;> rfl),by repeat (first|(with_reducible first|exact HB.out|apply below_alloc|apply pw_below_drewN|apply below_drew1|refine below_set ?_ GE293.out)|exact HB.out)⟩


/-! ### cmp_isNaN_int: function 169 -/
def cmp_isNaN_int.f (a0:Int):Option (Bool):=some (a0 != a0)
set_option maxHeartbeats 8000000 in
set_option maxRecDepth 100000 in
theorem cmp_isNaN_int.calls (a0:Int) (r:Bool) (w:World) (h:cmp_isNaN_int.f a0 = some r) :
  Calls Try.prog 169 #[.int .i64 a0] w fun e w'=>e = .returned (.bool r) ∧ Drawn0 w w':=by
 have H:(some (a0 != a0)) = some r:=h;clear h;obtain rfl:=Option.some.inj H;go_enter Try.func169,Try.ntmps169;go_wp2
 go_ret
 exact ⟨by first|rfl|(simp;done)|(simp [*];done),by repeat (first|exact Drawn0.refl _|apply Drawn0.step)⟩


/-! ### cmp_Compare_int: function 155 -/
def cmp_Compare_int.f (a0:Int) (a1:Int):Option (Int):=(cmp_isNaN_int.f a0).bind fun t295=>((cmp_isNaN_int.f a1).bind fun t296=>(if t295 = true then (if t296 = true then (some 0) else (some (-1))) else (if t296 = true then (some 1) else (if a0 < a1 then (some (-1)) else (if a0 > a1 then (some 1) else (some 0))))))
set_option maxHeartbeats 8000000 in
set_option maxRecDepth 100000 in
theorem cmp_Compare_int.calls (a0:Int) (a1:Int) (r:Int) (w:World) (h:cmp_Compare_int.f a0 a1 = some r) :
  Calls Try.prog 155 #[.int .i64 a0,.int .i64 a1] w fun e w'=>e = .returned (.int .i64 r) ∧ Drawn0 w w':=by
 have H:((cmp_isNaN_int.f a0).bind fun t295=>((cmp_isNaN_int.f a1).bind fun t296=>(if t295 = true then (if t296 = true then (some 0) else (some (-1))) else (if t296 = true then (some 1) else (if a0 < a1 then (some (-1)) else (if a0 > a1 then (some 1) else (some 0))))))) = some r:=h;clear h;replace H:=Option.bind_eq_some_iff.mp H;obtain ⟨t295,A30,H⟩:=H;replace H:((cmp_isNaN_int.f a1).bind fun t296=>(if t295 = true then (if t296 = true then (some 0) else (some (-1))) else (if t296 = true then (some 1) else (if a0 < a1 then (some (-1)) else (if a0 > a1 then (some 1) else (some 0)))))) = some r:=H;have A3:=Aside0.mk A30;clear A30;replace H:=Option.bind_eq_some_iff.mp H;obtain ⟨t296,A40,H⟩:=H;replace H:(if t295 = true then (if t296 = true then (some 0) else (some (-1))) else (if t296 = true then (some 1) else (if a0 < a1 then (some (-1)) else (if a0 > a1 then (some 1) else (some 0))))) = some r:=H;have A4:=Aside0.mk A40;clear A40;by_cases c5:t295 = true
 ·subst c5;have H1:(if t296 = true then (some 0) else (some (-1))) = some r:=by rw [if_pos rfl] at H;exact H
  clear H;have H:=H1;clear H1;by_cases c6:t296 = true
  ·subst c6;have H1:(some 0) = some r:=by rw [if_pos rfl] at H;exact H
   clear H;have H:=H1;clear H1;obtain rfl:=Option.some.inj H;go_enter Try.func155,Try.ntmps155;go_wp2_with (first|((with_reducible refine gate_callee (f:=169) rfl ?_);refine goesL_ (some 8) rfl rfl Try.func169 (by kernel_rfl) rfl #[.int .i64 a0] rfl mq ?_;(with_reducible refine (cmp_isNaN_int.calls a0 true _ A3.out).mono ?_);rintro e w' ⟨rfl,⟨nd,rfl⟩⟩;refine ⟨_,rfl,?_⟩)|((with_reducible refine gate_callee (f:=169) rfl ?_);refine goesL_ (some 10) rfl rfl Try.func169 (by kernel_rfl) rfl #[.int .i64 a1] rfl mq ?_;(with_reducible refine (cmp_isNaN_int.calls a1 true _ A4.out).mono ?_);rintro e w' ⟨rfl,⟨nd,rfl⟩⟩;refine ⟨_,rfl,?_⟩))
   go_ret
   exact ⟨by first|rfl|(simp;done)|(simp [*];done),by repeat (first|exact Drawn0.refl _|apply Drawn0.step)⟩
  ·replace c6:=Bool.eq_false_iff.mpr c6;subst c6;have H1:(some (-1)) = some r:=by rw [if_neg (show ¬ (false = true) by decide)] at H;exact H
   clear H;have H:=H1;clear H1;obtain rfl:=Option.some.inj H;go_enter Try.func155,Try.ntmps155;go_wp2_with (first|((with_reducible refine gate_callee (f:=169) rfl ?_);refine goesL_ (some 8) rfl rfl Try.func169 (by kernel_rfl) rfl #[.int .i64 a0] rfl mq ?_;(with_reducible refine (cmp_isNaN_int.calls a0 true _ A3.out).mono ?_);rintro e w' ⟨rfl,⟨nd,rfl⟩⟩;refine ⟨_,rfl,?_⟩)|((with_reducible refine gate_callee (f:=169) rfl ?_);refine goesL_ (some 10) rfl rfl Try.func169 (by kernel_rfl) rfl #[.int .i64 a1] rfl mq ?_;(with_reducible refine (cmp_isNaN_int.calls a1 false _ A4.out).mono ?_);rintro e w' ⟨rfl,⟨nd,rfl⟩⟩;refine ⟨_,rfl,?_⟩))
   go_ret
   exact ⟨by first|rfl|(simp;done)|(simp [*];done),by repeat (first|exact Drawn0.refl _|apply Drawn0.step)⟩
 ·replace c5:=Bool.eq_false_iff.mpr c5;subst c5;have H1:(if t296 = true then (some 1) else (if a0 < a1 then (some (-1)) else (if a0 > a1 then (some 1) else (some 0)))) = some r:=by rw [if_neg (show ¬ (false = true) by decide)] at H;exact H
  clear H;have H:=H1;clear H1;by_cases c7:t296 = true
  ·subst c7;have H1:(some 1) = some r:=by rw [if_pos rfl] at H;exact H
   clear H;have H:=H1;clear H1;obtain rfl:=Option.some.inj H;go_enter Try.func155,Try.ntmps155;go_wp2_with (first|((with_reducible refine gate_callee (f:=169) rfl ?_);refine goesL_ (some 8) rfl rfl Try.func169 (by kernel_rfl) rfl #[.int .i64 a0] rfl mq ?_;(with_reducible refine (cmp_isNaN_int.calls a0 false _ A3.out).mono ?_);rintro e w' ⟨rfl,⟨nd,rfl⟩⟩;refine ⟨_,rfl,?_⟩)|((with_reducible refine gate_callee (f:=169) rfl ?_);refine goesL_ (some 10) rfl rfl Try.func169 (by kernel_rfl) rfl #[.int .i64 a1] rfl mq ?_;(with_reducible refine (cmp_isNaN_int.calls a1 true _ A4.out).mono ?_);rintro e w' ⟨rfl,⟨nd,rfl⟩⟩;refine ⟨_,rfl,?_⟩))
   go_ret
   exact ⟨by first|rfl|(simp;done)|(simp [*];done),by repeat (first|exact Drawn0.refl _|apply Drawn0.step)⟩
  ·replace c7:=Bool.eq_false_iff.mpr c7;subst c7;have H1:(if a0 < a1 then (some (-1)) else (if a0 > a1 then (some 1) else (some 0))) = some r:=by rw [if_neg (show ¬ (false = true) by decide)] at H;exact H
   clear H;have H:=H1;clear H1;by_cases c8:a0 < a1
   ·rw [if_pos c8] at H;have c8b0:decide (a0 < a1) = true:=decide_eq_true c8;clear c8;obtain rfl:=Option.some.inj H;go_enter Try.func155,Try.ntmps155;go_wp2_with (first|((with_reducible refine gate_callee (f:=169) rfl ?_);refine goesL_ (some 8) rfl rfl Try.func169 (by kernel_rfl) rfl #[.int .i64 a0] rfl mq ?_;(with_reducible refine (cmp_isNaN_int.calls a0 false _ A3.out).mono ?_);rintro e w' ⟨rfl,⟨nd,rfl⟩⟩;refine ⟨_,rfl,?_⟩)|((with_reducible refine gate_callee (f:=169) rfl ?_);refine goesL_ (some 10) rfl rfl Try.func169 (by kernel_rfl) rfl #[.int .i64 a1] rfl mq ?_;(with_reducible refine (cmp_isNaN_int.calls a1 false _ A4.out).mono ?_);rintro e w' ⟨rfl,⟨nd,rfl⟩⟩;refine ⟨_,rfl,?_⟩))
    go_ret
    exact ⟨by first|rfl|(simp;done)|(simp [*];done),by repeat (first|exact Drawn0.refl _|apply Drawn0.step)⟩
   ·rw [if_neg c8] at H;have c8b0:decide (a0 < a1) = false:=decide_eq_false c8;clear c8;by_cases c9:a0 > a1
    ·rw [if_pos c9] at H;have c9b0:decide (a1 < a0) = true:=decide_eq_true c9;clear c9;obtain rfl:=Option.some.inj H;go_enter Try.func155,Try.ntmps155;go_wp2_with (first|((with_reducible refine gate_callee (f:=169) rfl ?_);refine goesL_ (some 8) rfl rfl Try.func169 (by kernel_rfl) rfl #[.int .i64 a0] rfl mq ?_;(with_reducible refine (cmp_isNaN_int.calls a0 false _ A3.out).mono ?_);rintro e w' ⟨rfl,⟨nd,rfl⟩⟩;refine ⟨_,rfl,?_⟩)|((with_reducible refine gate_callee (f:=169) rfl ?_);refine goesL_ (some 10) rfl rfl Try.func169 (by kernel_rfl) rfl #[.int .i64 a1] rfl mq ?_;(with_reducible refine (cmp_isNaN_int.calls a1 false _ A4.out).mono ?_);rintro e w' ⟨rfl,⟨nd,rfl⟩⟩;refine ⟨_,rfl,?_⟩))
     go_ret
     exact ⟨by first|rfl|(simp;done)|(simp [*];done),by repeat (first|exact Drawn0.refl _|apply Drawn0.step)⟩
    ·rw [if_neg c9] at H;have c9b0:decide (a1 < a0) = false:=decide_eq_false c9;clear c9;obtain rfl:=Option.some.inj H;go_enter Try.func155,Try.ntmps155;go_wp2_with (first|((with_reducible refine gate_callee (f:=169) rfl ?_);refine goesL_ (some 8) rfl rfl Try.func169 (by kernel_rfl) rfl #[.int .i64 a0] rfl mq ?_;(with_reducible refine (cmp_isNaN_int.calls a0 false _ A3.out).mono ?_);rintro e w' ⟨rfl,⟨nd,rfl⟩⟩;refine ⟨_,rfl,?_⟩)|((with_reducible refine gate_callee (f:=169) rfl ?_);refine goesL_ (some 10) rfl rfl Try.func169 (by kernel_rfl) rfl #[.int .i64 a1] rfl mq ?_;(with_reducible refine (cmp_isNaN_int.calls a1 false _ A4.out).mono ?_);rintro e w' ⟨rfl,⟨nd,rfl⟩⟩;refine ⟨_,rfl,?_⟩))
     go_ret
     exact ⟨by first|rfl|(simp;done)|(simp [*];done),by repeat (first|exact Drawn0.refl _|apply Drawn0.step)⟩


/-! ### slices_Compare_int_int: function 128 -/
def slices_Compare_int_int.l0:Nat → List Int → List Int → List Int → Int → Int → Option (Int)
 | 0,_,_,_,_,_=>none
 | k + 1,x0,x1,x9,x10,x11=>if x11 < x10 then (if 0 ≤ x11 then (if x11 < (x9.length:Int) then (if x11 ≥ (x1.length:Int) then (some 1) else (if x11 < (x1.length:Int) then ((cmp_Compare_int.f (rd x9 x11) (rd x1 x11)).bind fun t299=>(if t299 = 0 then (slices_Compare_int_int.l0 k x0 x1 x9 x10 (wrap64 (x11 + 1))) else (some t299))) else (none))) else (none)) else (none)) else (if (x0.length:Int) < (x1.length:Int) then (some (-1)) else (some 0))
def slices_Compare_int_int.f (k:Nat) (l0:List Int) (l1:List Int):Option (Int):=slices_Compare_int_int.l0 k l0 l1 l0 (l0.length:Int) 0
theorem slices_Compare_int_int.mono_l:∀ k,(∀ y0 y1 y2 y3 y4,LeO (slices_Compare_int_int.l0 k y0 y1 y2 y3 y4) (slices_Compare_int_int.l0 (k + 1) y0 y1 y2 y3 y4))
 | 0=>fun _ _ _ _ _ r h=>by simp [slices_Compare_int_int.l0] at h
 | k + 1=>by
  have ih0:=slices_Compare_int_int.mono_l k
  ·intro y0 y1 y2 y3 y4;unfold slices_Compare_int_int.l0
   repeat' with_reducible first|exact ih0 _ _ _ _ _|exact LeO.refl _|exact LeO.none _|refine LeO.ite ?_ ?_|refine LeO.bind ?_ (fun _=>?_)
theorem slices_Compare_int_int.mono:∀ a0 a1 k,LeO (slices_Compare_int_int.f k a0 a1) (slices_Compare_int_int.f (k + 1) a0 a1):=by
 intro a0 a1 k;have ih0:=slices_Compare_int_int.mono_l k;unfold slices_Compare_int_int.f
 repeat' with_reducible first|exact ih0 _ _ _ _ _|exact LeO.refl _|exact LeO.none _|refine LeO.ite ?_ ?_|refine LeO.bind ?_ (fun _=>?_)
set_option maxHeartbeats 8000000 in
set_option maxRecDepth 100000 in
theorem slices_Compare_int_int.calls (k:Nat) (A0:Option Addr) (c0:Nat) (l0:List Int) (A1:Option Addr) (c1:Nat) (l1:List Int) (r:Int) (w:World) (hr0:Kd.C (Kd.int .i64) w A0 l0.length l0) (hc0:l0.length ≤ c0) (hr1:Kd.C (Kd.int .i64) w A1 l1.length l1) (hc1:l1.length ≤ c1) (h:slices_Compare_int_int.f k l0 l1 = some r) :
  Calls Try.prog 128 #[.slice A0 l0.length c0,.slice A1 l1.length c1] w fun e w'=>e = .returned (.int .i64 r) ∧ Drawn0 w w':=by
 have HR0:=Aside0.mk hr0;have HC0:=Aside0.mk hc0;clear hr0 hc0;have HR1:=Aside0.mk hr1;have HC1:=Aside0.mk hc1;clear hr1 hc1;have H:(slices_Compare_int_int.l0 k l0 l1 l0 (l0.length:Int) 0) = some r:=h;clear h;have H':=Aside0.mk H;clear H;go_enter Try.func128,Try.ntmps128;go_wp2
 go_loopg [11] k (fun kq v11 w'=>∃ (x11_1:Int),v11 = .int .i64 x11_1 ∧ Aside0 (slices_Compare_int_int.l0 kq l0 l1 l0 (l0.length:Int) x11_1 = some r) ∧ Aside0 (kq ≤ k) ∧ Drawn0 w w')
 case atStart=>exact ⟨(0),(by first|rfl|(simp;done)|(simp [*];done)),H',⟨Nat.le_refl _⟩,by repeat (first|exact Drawn0.refl _|apply Drawn0.step)⟩
 case round =>
  clear H'
  try clear c1
  try clear p2
  obtain ⟨x11_1,rfl,HA,HK1,⟨m1,rfl⟩⟩:=hrel
  cases gk with
  | zero=>exact absurd HA.out (by simp [slices_Compare_int_int.l0])
  | succ k1 =>
   have H:=HA.out;clear HA;simp only [slices_Compare_int_int.l0] at H;by_cases c3:x11_1 < (l0.length:Int)
   ·rw [if_pos c3] at H;have c3b0:decide (x11_1 < (l0.length:Int)) = true:=decide_eq_true c3;clear c3;by_cases c4:0 ≤ x11_1
    ·rw [if_pos c4] at H;have c4b0:decide (0 ≤ x11_1) = true:=decide_eq_true c4;clear c4;by_cases c5:x11_1 < (l0.length:Int)
     ·rw [if_pos c5] at H;have c5b0:decide (x11_1 < (l0.length:Int)) = true:=decide_eq_true c5;clear c5;by_cases c6:x11_1 ≥ (l1.length:Int)
      ·rw [if_pos c6] at H;have c6b0:decide ((l1.length:Int) ≤ x11_1) = true:=decide_eq_true c6;clear c6;obtain rfl:=Option.some.inj H;have p297:0 ≤ (x11_1:Int):=of_decide_eq_true ab;have q297:x11_1 < (l0.length:Int):=of_decide_eq_true ab;obtain ⟨ad297,e297,hx297_0⟩:=Kd.at_int HR0.out x11_1 p297 q297;cases e297
       replace p297:=eq_true p297;replace q297:=eq_true q297;go_wp2
       go_ret
       exact ⟨by first|rfl|(simp;done)|(simp [*];done),by repeat (first|exact Drawn0.refl _|apply Drawn0.step)⟩
      ·rw [if_neg c6] at H;have c6b0:decide ((l1.length:Int) ≤ x11_1) = false:=decide_eq_false c6;clear c6;by_cases c7:x11_1 < (l1.length:Int)
       ·rw [if_pos c7] at H;have c7b0:decide (x11_1 < (l1.length:Int)) = true:=decide_eq_true c7;clear c7;replace H:=Option.bind_eq_some_iff.mp H;obtain ⟨t299,A80,H⟩:=H;replace H:(if t299 = 0 then (slices_Compare_int_int.l0 k1 l0 l1 l0 (l0.length:Int) (wrap64 (x11_1 + 1))) else (some t299)) = some r:=H;have A8:=Aside0.mk A80;clear A80;by_cases c9:t299 = 0
        ·rw [if_pos c9] at H;have c9b0:(t299 == 0) = true:=beq_iff_eq.mpr c9;have c9b1:(t299 != 0) = false:=bne_eq_false_iff_eq.mpr c9;clear c9;have H':=Aside0.mk H;clear H;have p297:0 ≤ (x11_1:Int):=of_decide_eq_true ab;have q297:x11_1 < (l0.length:Int):=of_decide_eq_true ab;obtain ⟨ad297,e297,hx297_0⟩:=Kd.at_int HR0.out x11_1 p297 q297;cases e297
         replace p297:=eq_true p297;replace q297:=eq_true q297;have p298:0 ≤ (x11_1:Int):=of_decide_eq_true ab;have q298:x11_1 < (l1.length:Int):=of_decide_eq_true ab;obtain ⟨ad298,e298,hx298_0⟩:=Kd.at_int HR1.out x11_1 p298 q298;cases e298
         replace p298:=eq_true p298;replace q298:=eq_true q298;go_wp2_with (first|((with_reducible refine gate_callee (f:=155) rfl ?_);refine goesL_ (some 26) rfl rfl Try.func155 (by kernel_rfl) rfl #[.int .i64 (rd l0 x11_1),.int .i64 (rd l1 x11_1)] rfl mq ?_;(with_reducible refine (cmp_Compare_int.calls (rd l0 x11_1) (rd l1 x11_1) t299 _ A8.out).mono ?_);rintro e w' ⟨rfl,⟨nd,rfl⟩⟩;refine ⟨_,rfl,?_⟩))
         go_roundg k1
         case measure=>have:=HK1.out;omega
         case rel=>exact ⟨(wrap64 (x11_1 + 1)),(by first|rfl|(simp;done)|(simp [*];done)),H',⟨by have:=HK1.out;omega⟩,by repeat (first|exact Drawn0.refl _|apply Drawn0.step)⟩
        ·rw [if_neg c9] at H;have c9b0:(t299 == 0) = false:=beq_eq_false_iff_ne.mpr c9;have c9b1:(t299 != 0) = true:=bne_iff_ne.mpr c9;obtain rfl:=Option.some.inj H;have p297:0 ≤ (x11_1:Int):=of_decide_eq_true ab;have q297:x11_1 < (l0.length:Int):=of_decide_eq_true ab;obtain ⟨ad297,e297,hx297_0⟩:=Kd.at_int HR0.out x11_1 p297 q297;cases e297
         replace p297:=eq_true p297;replace q297:=eq_true q297;have p298:0 ≤ (x11_1:Int):=of_decide_eq_true ab;have q298:x11_1 < (l1.length:Int):=of_decide_eq_true ab;obtain ⟨ad298,e298,hx298_0⟩:=Kd.at_int HR1.out x11_1 p298 q298;cases e298
         replace p298:=eq_true p298;replace q298:=eq_true q298;go_wp2_with (first|((with_reducible refine gate_callee (f:=155) rfl ?_);refine goesL_ (some 26) rfl rfl Try.func155 (by kernel_rfl) rfl #[.int .i64 (rd l0 x11_1),.int .i64 (rd l1 x11_1)] rfl mq ?_;(with_reducible refine (cmp_Compare_int.calls (rd l0 x11_1) (rd l1 x11_1) t299 _ A8.out).mono ?_);rintro e w' ⟨rfl,⟨nd,rfl⟩⟩;refine ⟨_,rfl,?_⟩))
         go_ret
         exact ⟨by first|rfl|(simp;done)|(simp [*];done),by repeat (first|exact Drawn0.refl _|apply Drawn0.step)⟩
       ·rw [if_neg c7] at H;exact absurd H (by simp)
     ·rw [if_neg c5] at H;exact absurd H (by simp)
    ·rw [if_neg c4] at H;exact absurd H (by simp)
   ·rw [if_neg c3] at H;have c3b0:decide (x11_1 < (l0.length:Int)) = false:=decide_eq_false c3;clear c3;by_cases c10:(l0.length:Int) < (l1.length:Int)
    ·rw [if_pos c10] at H;have c10b0:decide ((l0.length:Int) < (l1.length:Int)) = true:=decide_eq_true c10;have c10b1:decide (l0.length < l1.length) = true:=decide_eq_true (Int.ofNat_lt.mp c10);clear c10;obtain rfl:=Option.some.inj H;go_wp2
     go_ret
     exact ⟨by first|rfl|(simp;done)|(simp [*];done),by repeat (first|exact Drawn0.refl _|apply Drawn0.step)⟩
    ·rw [if_neg c10] at H;have c10b0:decide ((l0.length:Int) < (l1.length:Int)) = false:=decide_eq_false c10;have c10b1:decide (l0.length < l1.length) = false:=decide_eq_false (fun h=>c10 (Int.ofNat_lt.mpr h));clear c10;obtain rfl:=Option.some.inj H;go_wp2
     go_ret
     exact ⟨by first|rfl|(simp;done)|(simp [*];done),by repeat (first|exact Drawn0.refl _|apply Drawn0.step)⟩
theorem slices_Compare_int_int.enters:∀ (args:Array Value) (w:World),(callFunc 128 args).run Try.prog w = .ok (.enter 128 args) w:=enters_of Try.func128 (by kernel_rfl) rfl

end Go.Proofs.Ytokelcedamegbaa.P
