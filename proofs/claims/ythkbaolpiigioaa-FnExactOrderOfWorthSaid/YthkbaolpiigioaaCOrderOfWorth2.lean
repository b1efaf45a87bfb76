/- Part 2 of the texts below the law FnExactOrderOfWorth. Printed by this session's driver over the kit's printer, but for the hand contracts and the plain laws. -/
import Derived.Test.YthkbaolpiigioaaCOrderOfWorth1
set_option linter.unusedVariables false
set_option linter.unusedSimpArgs false
namespace Go.Proofs.Ythkbaolpiigioaa.P
open Go.RowKit Go.Proofs.YthkbaolpiigioaaW.PrintWords Go.Proofs.YthkbaolpiigioaaW.PrintLast Go.Proofs.YthkbaolpiigioaaW.PrintMore
attribute [local go_sem] max2_int min2_int max_two min_two max_three min_three max_four min_four   -- for this text's walks alone
set_option linter.unusedVariables false
set_option linter.unusedSimpArgs false

/-! ### spec_deComplete: function 134 -/
mutual
def spec_deComplete.l0:Nat → List Bool → Int → Int → Option (Bool)
 | 0,_,_,_=>none
 | k + 1,x0,x1,x5=>if x5 < x1 then (spec_deComplete.l1 k x0 x1 x5 0) else (some true)
def spec_deComplete.l1:Nat → List Bool → Int → Int → Int → Option (Bool)
 | 0,_,_,_,_=>none
 | k + 1,x0,x1,x5,x6=>if x6 < x5 then ((spec_deUnlike.f k x0 x5 x6).bind fun t1526=>(if t1526 = true then (some false) else (spec_deComplete.l1 k x0 x1 x5 (wrap64 (x6 + 1))))) else (spec_deComplete.l0 k x0 x1 (wrap64 (x5 + 1)))
end
def spec_deComplete.f (k:Nat) (l0:List Bool) (a1:Int):Option (Bool):=spec_deComplete.l0 k l0 a1 0
theorem spec_deComplete.mono_l:∀ k,(∀ y0 y1 y2,LeO (spec_deComplete.l0 k y0 y1 y2) (spec_deComplete.l0 (k + 1) y0 y1 y2)) ∧ (∀ y0 y1 y2 y3,LeO (spec_deComplete.l1 k y0 y1 y2 y3) (spec_deComplete.l1 (k + 1) y0 y1 y2 y3))
 | 0=>⟨fun _ _ _ r h=>by simp [spec_deComplete.l0] at h,fun _ _ _ _ r h=>by simp [spec_deComplete.l1] at h⟩
 | k + 1=>by
  obtain ⟨ih0,ih1⟩:=spec_deComplete.mono_l k
  refine ⟨?_,?_⟩
  ·intro y0 y1 y2
   unfold spec_deComplete.l0
   repeat' first
   | (with_reducible exact ih0 _ _ _)
   | (with_reducible exact ih1 _ _ _ _)
   | (with_reducible exact spec_deUnlike.mono _ _ _ _)
   | (with_reducible exact LeO.refl _)
   | (with_reducible exact LeO.none _)
   | (with_reducible refine LeO.ite ?_ ?_)
   | (with_reducible refine LeO.bind ?_ (fun _=>?_))
   | exact ih0 _ _ _
   | exact ih1 _ _ _ _
   | exact spec_deUnlike.mono _ _ _ _
   | exact LeO.none _
   | refine LeO.ite ?_ ?_
   | refine LeO.bind ?_ (fun _=>?_)
  ·intro y0 y1 y2 y3
   unfold spec_deComplete.l1
   repeat' first
   | (with_reducible exact ih0 _ _ _)
   | (with_reducible exact ih1 _ _ _ _)
   | (with_reducible exact spec_deUnlike.mono _ _ _ _)
   | (with_reducible exact LeO.refl _)
   | (with_reducible exact LeO.none _)
   | (with_reducible refine LeO.ite ?_ ?_)
   | (with_reducible refine LeO.bind ?_ (fun _=>?_))
   | exact ih0 _ _ _
   | exact ih1 _ _ _ _
   | exact spec_deUnlike.mono _ _ _ _
   | exact LeO.none _
   | refine LeO.ite ?_ ?_
   | refine LeO.bind ?_ (fun _=>?_)
theorem spec_deComplete.mono:∀ a0 a1 k,LeO (spec_deComplete.f k a0 a1) (spec_deComplete.f (k + 1) a0 a1):=by
 intro a0 a1 k
 obtain ⟨ih0,ih1⟩:=spec_deComplete.mono_l k
 unfold spec_deComplete.f
 repeat' first
   | (with_reducible exact ih0 _ _ _)
   | (with_reducible exact ih1 _ _ _ _)
   | (with_reducible exact spec_deUnlike.mono _ _ _ _)
   | (with_reducible exact LeO.refl _)
   | (with_reducible exact LeO.none _)
   | (with_reducible refine LeO.ite ?_ ?_)
   | (with_reducible refine LeO.bind ?_ (fun _=>?_))
   | exact ih0 _ _ _
   | exact ih1 _ _ _ _
   | exact spec_deUnlike.mono _ _ _ _
   | exact LeO.none _
   | refine LeO.ite ?_ ?_
   | refine LeO.bind ?_ (fun _=>?_)
set_option maxHeartbeats 8000000 in
set_option maxRecDepth 100000 in
theorem spec_deComplete.calls (k:Nat) (A0:Option Addr) (c0:Nat) (l0:List Bool) (a1:Int) (r:Bool) (w:World) (hr0:Kd.C Kd.bool w A0 l0.length l0) (hc0:l0.length ≤ c0) (h:spec_deComplete.f k l0 a1 = some r) :
  Calls Try.prog 134 #[.slice A0 l0.length c0,.int .i64 a1] w fun e w'=>e = .returned (.bool r) ∧ Drawn0 w w':=by
 have HR0:=Aside0.mk hr0
 have HC0:=Aside0.mk hc0
 clear hr0 hc0
 have H:(spec_deComplete.l0 k l0 a1 0) = some r:=h
 clear h
 have H':=Aside0.mk H
 clear H
 go_enter Try.func134,Try.ntmps134
 go_wp2
 go_loopg [5] k (fun kq v5 w'=>∃ (x5_1:Int),v5 = .int .i64 x5_1 ∧ Aside0 (spec_deComplete.l0 kq l0 a1 x5_1 = some r) ∧ Aside0 (kq ≤ k) ∧ Drawn0 w w')
 case atStart=>exact ⟨(0),(by first|rfl|(simp;done)|(simp [*];done)),H',⟨Nat.le_refl _⟩,by repeat (first|exact Drawn0.refl _|apply Drawn0.step)⟩
 case round =>
  clear H'
  try clear c1
  try clear p2
  obtain ⟨x5_1,rfl,HA,HK1,⟨m1,rfl⟩⟩:=hrel
  cases gk with
  | zero=>exact absurd HA.out (by simp [spec_deComplete.l0])
  | succ k1 =>
   have H:=HA.out
   clear HA
   simp only [spec_deComplete.l0] at H
   by_cases c3:x5_1 < a1
   ·rw [if_pos c3] at H
    have c3b0:decide (x5_1 < a1) = true:=decide_eq_true c3
    clear c3
    have H':=Aside0.mk H
    clear H
    go_wp2
    go_loopg [6] k1 (fun kq v6 w'=>∃ (x6_2:Int),v6 = .int .i64 x6_2 ∧ Aside0 (spec_deComplete.l1 kq l0 a1 x5_1 x6_2 = some r) ∧ Aside0 (kq ≤ k1) ∧ Drawn0 w w')
    case atStart=>exact ⟨(0),(by first|rfl|(simp;done)|(simp [*];done)),H',⟨Nat.le_refl _⟩,by repeat (first|exact Drawn0.refl _|apply Drawn0.step)⟩
    case round =>
     clear H'
     try clear c1
     try clear p2
     try clear c3
     try clear c3b0
     try clear p2
     obtain ⟨x6_2,rfl,HA,HK2,⟨m2,rfl⟩⟩:=hrel
     cases gk with
     | zero=>exact absurd HA.out (by simp [spec_deComplete.l1])
     | succ k2 =>
      have H:=HA.out
      clear HA
      simp only [spec_deComplete.l1] at H
      by_cases c4:x6_2 < x5_1
      ·rw [if_pos c4] at H
       have c4b0:decide (x6_2 < x5_1) = true:=decide_eq_true c4
       clear c4
       replace H:=Option.bind_eq_some_iff.mp H
       obtain ⟨t1526,A50,H⟩:=H
       replace H:(if t1526 = true then (some false) else (spec_deComplete.l1 k2 l0 a1 x5_1 (wrap64 (x6_2 + 1)))) = some r:=H
       have A5:=Aside0.mk A50
       clear A50
       by_cases c6:t1526 = true
       ·subst c6
        have H1:(some false) = some r:=by rw [if_pos rfl] at H;exact H
        clear H
        have H:=H1
        clear H1
        obtain rfl:=Option.some.inj H
        go_wp2_with (first|((with_reducible refine gate_callee (f:=184) rfl ?_);refine goesL_ (some 20) rfl rfl Try.func184 (by kernel_rfl) rfl #[.slice A0 l0.length c0,.int .i64 x5_1,.int .i64 x6_2] rfl (by (try simp only [List.map_toArray,List.map_cons,List.map_nil]);first|done|rfl|(simp only [List.length_drop,List.length_take];rfl)) ?_;(with_reducible refine (spec_deUnlike.calls k2 _ _ l0 x5_1 x6_2 true _ ?side1 ?side2 A5.out).mono ?_);(case side1=>repeat (first|exact HR0.out|(with_reducible refine Kd.C_alloc ?_ _)|(with_reducible refine Kd.C_drewN ?_ _)|(with_reducible refine Kd.C_drew ?_)));(case side2=>exact HC0.out);rintro e w' ⟨rfl,⟨nd,rfl⟩⟩;refine ⟨_,rfl,?_⟩))
        go_ret
        exact ⟨by first|rfl|(simp;done)|(simp [*];done),by repeat (first|exact Drawn0.refl _|apply Drawn0.step)⟩
       ·replace c6:=Bool.eq_false_iff.mpr c6
        subst c6
        have H1:(spec_deComplete.l1 k2 l0 a1 x5_1 (wrap64 (x6_2 + 1))) = some r:=by rw [if_neg (show ¬ (false = true) by decide)] at H;exact H
        clear H
        have H:=H1
        clear H1
        have H':=Aside0.mk H
        clear H
        go_wp2_with (first|((with_reducible refine gate_callee (f:=184) rfl ?_);refine goesL_ (some 20) rfl rfl Try.func184 (by kernel_rfl) rfl #[.slice A0 l0.length c0,.int .i64 x5_1,.int .i64 x6_2] rfl (by (try simp only [List.map_toArray,List.map_cons,List.map_nil]);first|done|rfl|(simp only [List.length_drop,List.length_take];rfl)) ?_;(with_reducible refine (spec_deUnlike.calls k2 _ _ l0 x5_1 x6_2 false _ ?side1 ?side2 A5.out).mono ?_);(case side1=>repeat (first|exact HR0.out|(with_reducible refine Kd.C_alloc ?_ _)|(with_reducible refine Kd.C_drewN ?_ _)|(with_reducible refine Kd.C_drew ?_)));(case side2=>exact HC0.out);rintro e w' ⟨rfl,⟨nd,rfl⟩⟩;refine ⟨_,rfl,?_⟩))
        go_roundg k2
        case measure=>have:=HK1.out;have:=HK2.out;omega
        case rel=>exact ⟨(wrap64 (x6_2 + 1)),(by first|rfl|(simp;done)|(simp [*];done)),H',⟨by have:=HK1.out;have:=HK2.out;omega⟩,by repeat (first|exact Drawn0.refl _|apply Drawn0.step)⟩
      ·rw [if_neg c4] at H
       have c4b0:decide (x6_2 < x5_1) = false:=decide_eq_false c4
       clear c4
       have H':=Aside0.mk H
       clear H
       go_wp2
       go_roundg k2
       case measure=>have:=HK1.out;have:=HK2.out;omega
       case rel=>exact ⟨(wrap64 (x5_1 + 1)),(by first|rfl|(simp;done)|(simp [*];done)),H',⟨by have:=HK1.out;have:=HK2.out;omega⟩,by repeat (first|exact Drawn0.refl _|apply Drawn0.step)⟩
   ·rw [if_neg c3] at H
    have c3b0:decide (x5_1 < a1) = false:=decide_eq_false c3
    clear c3
    obtain rfl:=Option.some.inj H
    go_wp2
    go_ret
    exact ⟨by first|rfl|(simp;done)|(simp [*];done),by repeat (first|exact Drawn0.refl _|apply Drawn0.step)⟩


/-! ### spec_l1Own: function 141 -/
def spec_l1Own.f (l0:List Int):Option (List Int):=(some (([]:List Int):List Int)).bind fun y118=>(if y118.length + l0.length < 17592186044416 then (some (y118 ++ l0)) else (none))
set_option maxHeartbeats 8000000 in
set_option maxRecDepth 100000 in
theorem spec_l1Own.calls (A0:Option Addr) (c0:Nat) (l0:List Int) (r:List Int) (w:World) (hr0:Kd.C (Kd.int .i64) w A0 l0.length l0) (hc0:l0.length ≤ c0) (h:spec_l1Own.f l0 = some r) :
  Calls Try.prog 141 #[.slice A0 l0.length c0] w fun e w'=>∃ v0_:Value,e = .returned (v0_) ∧ Kd.R (Kd.int .i64) 3 w' w.heap.size (fun _=>True) v0_ r ∧ Below w.heap.size w w':=by
 have HR0:=Aside0.mk hr0
 have HC0:=Aside0.mk hc0
 clear hr0 hc0
 have HB:=Aside0.mk (Below.refl w.heap.size w)
 have H:((some (([]:List Int):List Int)).bind fun y118=>(if y118.length + l0.length < 17592186044416 then (some (y118 ++ l0)) else (none))) = some r:=h
 clear h
 obtain ⟨y118,hy118⟩:∃ y_:List Int,y_ = (([]:List Int)):=⟨_,rfl⟩
 replace H:(if y118.length + l0.length < 17592186044416 then (some (y118 ++ l0)) else (none)) = some r:=by first|(rw [hy118];with_reducible exact H)|(have H2_:=(Option.bind_some _ _).symm.trans H;rw [hy118];with_reducible exact H2_)|(have H2_:=(Option.bind_some _ _).symm.trans H;with_reducible exact H2_)|with_reducible exact H|(rw [hy118];exact H)|exact H
 have Ny118:=Aside0.mk hy118
 clear hy118
 by_cases c2:y118.length + l0.length < 17592186044416
 ·rw [if_pos c2] at H
  have LMc2:=Aside0.mk c2
  clear c2
  obtain ⟨y121,hy121⟩:∃ y_:List Int,y_ = (y118 ++ l0):=⟨_,rfl⟩
  replace H:(some y121) = some r:=by first|(rw [hy121];with_reducible exact H)|(have H2_:=(Option.bind_some _ _).symm.trans H;rw [hy121];with_reducible exact H2_)|(have H2_:=(Option.bind_some _ _).symm.trans H;with_reducible exact H2_)|with_reducible exact H|(rw [hy121];exact H)|exact H
  have Ny121:=Aside0.mk hy121
  clear hy121
  obtain rfl:=Option.some.inj H
  go_enter Try.func141,Try.ntmps141
  go_wp2_with (first|((with_reducible refine gate_dst (N:=3) rfl ?_);refine Kd.R_lit (Kd.int .i64) _ 3 ?hg (N:=3) ?hd (xs:=([]:List Int)) (inner:=[]) (ok:=fun _=>True) (okp:=fun _=>True) ?hr ?hp (fun _ hk=>hk) trivial (Below.refl _ _) (Nat.le_refl _) (by simp) ?_;(case hd=>rfl);(case hg=>rfl);(case hr=>first|(go_simp;done)|(go_simp;rfl));(case hp=>exact (Reps.none _ _));intro v119 w3 ho4 hb hg_ hnew_;clear hg_ hnew_;(first|rw [← Ny118.out] at ho4|(simp only [Int.reduceToNat] at ho4;rw [← Ny118.out] at ho4));have n0_:=Aside0.mk (Kd.R_lower ho4 (below_size (by repeat (first|(with_reducible first|exact HB.out|apply below_alloc|apply pw_below_drewN|apply below_drew1)|exact HB.out))));have n1_:=Aside0.mk (below_step (by repeat (first|(with_reducible first|exact HB.out|apply below_alloc|apply pw_below_drewN|apply below_drew1)|exact HB.out)) hb);clear HB;have HO120:=n0_;have HB:=n1_;clear n0_ n1_;clear hb ho4)|((with_reducible refine gate_builtin (b:=.append) (xs:=#[.tmp 3,.tmp 4]) rfl ?_);at_builtin;refine Kd.R_append_rows (Kd.int .i64) (w0:=w) w.heap.size rfl (.tmp 3) (.tmp 4) 22 3 (.int .i64 0) 8 rfl Try.underlying22 info3 rfl (by decide) (by omega) v119 y118 l0 _ _ _ (fun _=>True) (fun _=>False) rfl rfl ?aO ?aR (fun _ _ h=>h) (fun _ h=>h.elim) ?aF ?aB ?aS ?aL ?_;(case aR=>repeat (first|exact (Kd.C_below HR0.out HB.out)|(with_reducible refine Kd.C_alloc ?_ _)|(with_reducible refine Kd.C_drewN ?_ _)|(with_reducible refine Kd.C_drew ?_)));(case aB=>exact (by repeat (first|(with_reducible first|exact HB.out|apply below_alloc|apply pw_below_drewN|apply below_drew1)|exact HB.out)));(case aF=>exact (fun _ _=>trivial));(case aO=>exact (by (with_reducible repeat (first|apply Kd.R_alloc|apply Kd.R_drewN|apply Kd.R_drew));exact HO120.out));(case aS=>exact (below_size (by repeat (first|(with_reducible first|exact HB.out|apply below_alloc|apply pw_below_drewN|apply below_drew1)|exact HB.out))));(case aL=>have:=LMc2.out;omega);intro v122 w5 ho hb hg hat;rw [← Ny121.out] at ho;have n0_:=Aside0.mk (hb);have n1_:=Aside0.mk (ho);clear HB;clear HO120;have HB:=n0_;have HO123:=n1_;clear n0_ n1_;clear ho hb hg hat))
  go_ret
  exact ⟨_,by first|rfl|(simp [errW_none,errW_some] <;> rfl)|(simp [*,errW_none,errW_some] <;> rfl),by (with_reducible repeat (first|apply Kd.R_alloc|apply Kd.R_drewN|apply Kd.R_drew));exact HO123.out,by repeat (first|(with_reducible first|exact HB.out|apply below_alloc|apply pw_below_drewN|apply below_drew1)|exact HB.out)⟩
 ·rw [if_neg c2] at H
  exact absurd H (by simp)


/-! ### spec_deGreater: function 185 -/
def spec_deGreater.f (k:Nat) (l0:List Bool) (a1:Int) (a2:Int):Option (Bool):=(spec_deWorth.f k l0 a1 a2).bind fun t1527=>(if t1527 = true then ((spec_deWorth.f k l0 a2 a1).bind fun t1528=>(some (!t1528))) else (some false))
theorem spec_deGreater.mono:∀ a0 a1 a2 k,LeO (spec_deGreater.f k a0 a1 a2) (spec_deGreater.f (k + 1) a0 a1 a2):=by
 intro a0 a1 a2 k
 unfold spec_deGreater.f
 repeat' first
   | (with_reducible exact spec_deWorth.mono _ _ _ _)
   | (with_reducible exact LeO.refl _)
   | (with_reducible exact LeO.none _)
   | (with_reducible refine LeO.ite ?_ ?_)
   | (with_reducible refine LeO.bind ?_ (fun _=>?_))
   | exact spec_deWorth.mono _ _ _ _
   | exact LeO.none _
   | refine LeO.ite ?_ ?_
   | refine LeO.bind ?_ (fun _=>?_)
set_option maxHeartbeats 8000000 in
set_option maxRecDepth 100000 in
theorem spec_deGreater.calls (k:Nat) (A0:Option Addr) (c0:Nat) (l0:List Bool) (a1:Int) (a2:Int) (r:Bool) (w:World) (hr0:Kd.C Kd.bool w A0 l0.length l0) (hc0:l0.length ≤ c0) (h:spec_deGreater.f k l0 a1 a2 = some r) :
  Calls Try.prog 185 #[.slice A0 l0.length c0,.int .i64 a1,.int .i64 a2] w fun e w'=>e = .returned (.bool r) ∧ Drawn0 w w':=by
 have HR0:=Aside0.mk hr0
 have HC0:=Aside0.mk hc0
 clear hr0 hc0
 have H:((spec_deWorth.f k l0 a1 a2).bind fun t1527=>(if t1527 = true then ((spec_deWorth.f k l0 a2 a1).bind fun t1528=>(some (!t1528))) else (some false))) = some r:=h
 clear h
 replace H:=Option.bind_eq_some_iff.mp H
 obtain ⟨t1527,A40,H⟩:=H
 replace H:(if t1527 = true then ((spec_deWorth.f k l0 a2 a1).bind fun t1528=>(some (!t1528))) else (some false)) = some r:=H
 have A4:=Aside0.mk A40
 clear A40
 by_cases c5:t1527 = true
 ·subst c5
  have H1:((spec_deWorth.f k l0 a2 a1).bind fun t1528=>(some (!t1528))) = some r:=by rw [if_pos rfl] at H;exact H
  clear H
  have H:=H1
  clear H1
  replace H:=Option.bind_eq_some_iff.mp H
  obtain ⟨t1528,A60,H⟩:=H
  replace H:(some (!t1528)) = some r:=H
  have A6:=Aside0.mk A60
  clear A60
  obtain rfl:=Option.some.inj H
  go_enter Try.func185,Try.ntmps185
  go_wp2_with (first|((with_reducible refine gate_callee (f:=102) rfl ?_);refine goesL_ (some 10) rfl rfl Try.func102 (by kernel_rfl) rfl #[.slice A0 l0.length c0,.int .i64 a1,.int .i64 a2] rfl (by (try simp only [List.map_toArray,List.map_cons,List.map_nil]);first|done|rfl|(simp only [List.length_drop,List.length_take];rfl)) ?_;(with_reducible refine (spec_deWorth.calls k _ _ l0 a1 a2 true _ ?side1 ?side2 A4.out).mono ?_);(case side1=>repeat (first|exact HR0.out|(with_reducible refine Kd.C_alloc ?_ _)|(with_reducible refine Kd.C_drewN ?_ _)|(with_reducible refine Kd.C_drew ?_)));(case side2=>exact HC0.out);rintro e w' ⟨rfl,⟨nd,rfl⟩⟩;refine ⟨_,rfl,?_⟩)|(go_at_call 102;(with_reducible refine (spec_deWorth.calls k _ _ l0 a2 a1 t1528 _ ?side1 ?side2 A6.out).mono ?_);(case side1=>repeat (first|exact HR0.out|(with_reducible refine Kd.C_alloc ?_ _)|(with_reducible refine Kd.C_drewN ?_ _)|(with_reducible refine Kd.C_drew ?_)));(case side2=>exact HC0.out);rintro e w' ⟨rfl,⟨nd,rfl⟩⟩))
  go_ret
  exact ⟨by first|rfl|(simp;done)|(simp [*];done),by repeat (first|exact Drawn0.refl _|apply Drawn0.step)⟩
 ·replace c5:=Bool.eq_false_iff.mpr c5
  subst c5
  have H1:(some false) = some r:=by rw [if_neg (show ¬ (false = true) by decide)] at H;exact H
  clear H
  have H:=H1
  clear H1
  obtain rfl:=Option.some.inj H
  go_enter Try.func185,Try.ntmps185
  go_wp2_with (first|((with_reducible refine gate_callee (f:=102) rfl ?_);refine goesL_ (some 10) rfl rfl Try.func102 (by kernel_rfl) rfl #[.slice A0 l0.length c0,.int .i64 a1,.int .i64 a2] rfl (by (try simp only [List.map_toArray,List.map_cons,List.map_nil]);first|done|rfl|(simp only [List.length_drop,List.length_take];rfl)) ?_;(with_reducible refine (spec_deWorth.calls k _ _ l0 a1 a2 false _ ?side1 ?side2 A4.out).mono ?_);(case side1=>repeat (first|exact HR0.out|(with_reducible refine Kd.C_alloc ?_ _)|(with_reducible refine Kd.C_drewN ?_ _)|(with_reducible refine Kd.C_drew ?_)));(case side2=>exact HC0.out);rintro e w' ⟨rfl,⟨nd,rfl⟩⟩;refine ⟨_,rfl,?_⟩))
  go_ret
  exact ⟨by first|rfl|(simp;done)|(simp [*];done),by repeat (first|exact Drawn0.refl _|apply Drawn0.step)⟩


/-! ### spec_deOrder: function 135 -/
mutual
def spec_deOrder.l0:Nat → List Bool → Int → List Int → Int → Option (List Int)
 | 0,_,_,_,_=>none
 | k + 1,x0,x1,x5,x6=>if x6 < x1 then (spec_deOrder.l1 k x0 x1 x5 x6 (x5.length:Int)) else (some x5)
def spec_deOrder.l1:Nat → List Bool → Int → List Int → Int → Int → Option (List Int)
 | 0,_,_,_,_,_=>none
 | k + 1,x0,x1,x5,x6,x7=>if x7 > 0 then (if 0 ≤ (wrap64 (x7 - 1)) then (if (wrap64 (x7 - 1)) < (x5.length:Int) then ((spec_deGreater.f k x0 x6 (rd x5 (wrap64 (x7 - 1)))).bind fun t1530=>(if t1530 = true then (spec_deOrder.l1 k x0 x1 x5 x6 (wrap64 (x7 - 1))) else (if 0 ≤ x7 then (if x7 ≤ (x5.length:Int) then ((spec_l1Own.f (x5.take (x7:Int).toNat)).bind fun t1535=>(if t1535.length < 17592186044416 then ((some (t1535 ++ [x6]:List Int)).bind fun y1538=>((some (x5.drop (x7:Int).toNat:List Int)).bind fun y1541=>(if y1538.length + y1541.length < 17592186044416 then (spec_deOrder.l0 k x0 x1 (y1538 ++ y1541) (wrap64 (x6 + 1))) else (none)))) else (none))) else (none)) else (none)))) else (none)) else (none)) else (if 0 ≤ x7 then (if x7 ≤ (x5.length:Int) then ((spec_l1Own.f (x5.take (x7:Int).toNat)).bind fun t1552=>(if t1552.length < 17592186044416 then ((some (t1552 ++ [x6]:List Int)).bind fun y1555=>((some (x5.drop (x7:Int).toNat:List Int)).bind fun y1558=>(if y1555.length + y1558.length < 17592186044416 then (spec_deOrder.l0 k x0 x1 (y1555 ++ y1558) (wrap64 (x6 + 1))) else (none)))) else (none))) else (none)) else (none))
end
def spec_deOrder.f (k:Nat) (l0:List Bool) (a1:Int):Option (List Int):=spec_deOrder.l0 k l0 a1 ([]:List Int) 0
theorem spec_deOrder.mono_l:∀ k,(∀ y0 y1 y2 y3,LeO (spec_deOrder.l0 k y0 y1 y2 y3) (spec_deOrder.l0 (k + 1) y0 y1 y2 y3)) ∧ (∀ y0 y1 y2 y3 y4,LeO (spec_deOrder.l1 k y0 y1 y2 y3 y4) (spec_deOrder.l1 (k + 1) y0 y1 y2 y3 y4))
 | 0=>⟨fun _ _ _ _ r h=>by simp [spec_deOrder.l0] at h,fun _ _ _ _ _ r h=>by simp [spec_deOrder.l1] at h⟩
 | k + 1=>by
  obtain ⟨ih0,ih1⟩:=spec_deOrder.mono_l k
  refine ⟨?_,?_⟩
  ·intro y0 y1 y2 y3
   unfold spec_deOrder.l0
   repeat' first
   | (with_reducible exact ih0 _ _ _ _)
   | (with_reducible exact ih1 _ _ _ _ _)
   | (with_reducible exact spec_deGreater.mono _ _ _ _)
   | (with_reducible exact LeO.refl _)
   | (with_reducible exact LeO.none _)
   | (with_reducible refine LeO.ite ?_ ?_)
   | (with_reducible refine LeO.bind ?_ (fun _=>?_))
   | exact ih0 _ _ _ _
   | exact ih1 _ _ _ _ _
   | exact spec_deGreater.mono _ _ _ _
   | exact LeO.none _
   | refine LeO.ite ?_ ?_
   | refine LeO.bind ?_ (fun _=>?_)
  ·intro y0 y1 y2 y3 y4
   unfold spec_deOrder.l1
   repeat' first
   | (with_reducible exact ih0 _ _ _ _)
   | (with_reducible exact ih1 _ _ _ _ _)
   | (with_reducible exact spec_deGreater.mono _ _ _ _)
   | (with_reducible exact LeO.refl _)
   | (with_reducible exact LeO.none _)
   | (with_reducible refine LeO.ite ?_ ?_)
   | (with_reducible refine LeO.bind ?_ (fun _=>?_))
   | exact ih0 _ _ _ _
   | exact ih1 _ _ _ _ _
   | exact spec_deGreater.mono _ _ _ _
   | exact LeO.none _
   | refine LeO.ite ?_ ?_
   | refine LeO.bind ?_ (fun _=>?_)
theorem spec_deOrder.mono:∀ a0 a1 k,LeO (spec_deOrder.f k a0 a1) (spec_deOrder.f (k + 1) a0 a1):=by
 intro a0 a1 k
 obtain ⟨ih0,ih1⟩:=spec_deOrder.mono_l k
 unfold spec_deOrder.f
 repeat' first
   | (with_reducible exact ih0 _ _ _ _)
   | (with_reducible exact ih1 _ _ _ _ _)
   | (with_reducible exact spec_deGreater.mono _ _ _ _)
   | (with_reducible exact LeO.refl _)
   | (with_reducible exact LeO.none _)
   | (with_reducible refine LeO.ite ?_ ?_)
   | (with_reducible refine LeO.bind ?_ (fun _=>?_))
   | exact ih0 _ _ _ _
   | exact ih1 _ _ _ _ _
   | exact spec_deGreater.mono _ _ _ _
   | exact LeO.none _
   | refine LeO.ite ?_ ?_
   | refine LeO.bind ?_ (fun _=>?_)
set_option maxHeartbeats 8000000 in
set_option maxRecDepth 100000 in
theorem spec_deOrder.calls (k:Nat) (A0:Option Addr) (c0:Nat) (l0:List Bool) (a1:Int) (r:List Int) (w:World) (hr0:Kd.C Kd.bool w A0 l0.length l0) (hc0:l0.length ≤ c0) (h:spec_deOrder.f k l0 a1 = some r) :
  Calls Try.prog 135 #[.slice A0 l0.length c0,.int .i64 a1] w fun e w'=>∃ v0_:Value,e = .returned (v0_) ∧ Kd.R (Kd.int .i64) 3 w' w.heap.size (fun _=>True) v0_ r ∧ Below w.heap.size w w':=by
 have HR0:=Aside0.mk hr0
 have HC0:=Aside0.mk hc0
 clear hr0 hc0
 have HB:=Aside0.mk (Below.refl w.heap.size w)
 have H:(spec_deOrder.l0 k l0 a1 ([]:List Int) 0) = some r:=h
 clear h
 have H':=Aside0.mk H
 clear H
 go_enter Try.func135,Try.ntmps135
 go_wp2
 go_loopg [5,6] k (fun kq v5 v6 w'=>∃ (x5_1:List Int) (x6_1:Int),v6 = .int .i64 x6_1 ∧ Aside0 (spec_deOrder.l0 kq l0 a1 x5_1 x6_1 = some r) ∧ Aside0 (kq ≤ k) ∧ Aside0 (Kd.R (Kd.int .i64) 3 w' w.heap.size (fun _=>True) v5 x5_1) ∧ Aside0 (Below w.heap.size w w'))
 case atStart=>exact ⟨(([]:List Int)),(0),(by first|rfl|(simp;done)|(simp [*];done)),H',⟨Nat.le_refl _⟩,⟨by first|exact Kd.R_nil _ _ _ _ _|exact Kd.N_nil _ _ _ _ _|exact Kd.V_nil _ _ _ _ _|exact Kd.Q_nil _ _ _ _ _|exact Kd.S_nil _ _ _ _ _⟩,⟨by repeat (first|(with_reducible first|exact HB.out|apply below_alloc|apply pw_below_drewN|apply below_drew1)|exact HB.out)⟩⟩
 case round =>
  clear H'
  try clear c1
  try clear p2
  obtain ⟨x5_1,x6_1,rfl,HA,HK1,HO_5,HB⟩:=hrel
  cases gk with
  | zero=>exact absurd HA.out (by simp [spec_deOrder.l0])
  | succ k1 =>
   have H:=HA.out
   clear HA
   simp only [spec_deOrder.l0] at H
   by_cases c3:x6_1 < a1
   ·rw [if_pos c3] at H
    have c3b0:decide (x6_1 < a1) = true:=decide_eq_true c3
    clear c3
    have H':=Aside0.mk H
    clear H
    obtain ⟨Ao4,co4,eo4⟩:=Kd.R_slice HO_5.out
    subst eo4
    go_wp2
    go_loopg [7] k1 (fun kq v7 w'=>∃ (x7_2:Int),v7 = .int .i64 x7_2 ∧ Aside0 (spec_deOrder.l1 kq l0 a1 x5_1 x6_1 x7_2 = some r) ∧ Aside0 (kq ≤ k1) ∧ Aside0 (Kd.R (Kd.int .i64) 3 w' w.heap.size (fun _=>True) (.slice Ao4 x5_1.length co4) x5_1) ∧ Aside0 (Below w.heap.size w w'))
    case atStart=>exact ⟨((x5_1.length:Int)),(by first|rfl|(simp;done)|(simp [*];done)),H',⟨Nat.le_refl _⟩,⟨by (with_reducible repeat (first|apply Kd.R_alloc|apply Kd.R_drewN|apply Kd.R_drew));exact HO_5.out⟩,⟨by repeat (first|(with_reducible first|exact HB.out|apply below_alloc|apply pw_below_drewN|apply below_drew1)|exact HB.out)⟩⟩
    case round =>
     clear H'
     try clear c1
     try clear p2
     try clear c3
     try clear c3b0
     try clear p2
     obtain ⟨x7_2,rfl,HA,HK2,HO_5,HB⟩:=hrel
     cases gk with
     | zero=>exact absurd HA.out (by simp [spec_deOrder.l1])
     | succ k2 =>
      have H:=HA.out
      clear HA
      simp only [spec_deOrder.l1] at H
      by_cases c5:x7_2 > 0
      ·rw [if_pos c5] at H
       have c5b0:decide (0 < x7_2) = true:=decide_eq_true c5
       clear c5
       obtain ⟨ji6,hji6⟩:∃ j_:Int,(wrap64 (x7_2 - 1)) = j_:=⟨_,rfl⟩
       replace H:(if 0 ≤ (ji6) then (if (ji6) < (x5_1.length:Int) then ((spec_deGreater.f k2 l0 x6_1 (rd x5_1 (ji6))).bind fun t1530=>(if t1530 = true then (spec_deOrder.l1 k2 l0 a1 x5_1 x6_1 ji6) else (if 0 ≤ x7_2 then (if x7_2 ≤ (x5_1.length:Int) then ((spec_l1Own.f (x5_1.take (x7_2:Int).toNat)).bind fun t1535=>(if t1535.length < 17592186044416 then ((some (t1535 ++ [x6_1]:List Int)).bind fun y1538=>((some (x5_1.drop (x7_2:Int).toNat:List Int)).bind fun y1541=>(if y1538.length + y1541.length < 17592186044416 then (spec_deOrder.l0 k2 l0 a1 (y1538 ++ y1541) (wrap64 (x6_1 + 1))) else (none)))) else (none))) else (none)) else (none)))) else (none)) else (none)) = some r:=by first|(rw [hji6] at H;exact H)|(simp only [hji6] at H ⊢;exact H)
       have hji6w:(IntKind.i64.wrap (x7_2 - 1)) = ji6:=(i64_w _).trans hji6
       by_cases c7:0 ≤ (ji6)
       ·rw [if_pos c7] at H
        have c7b0:decide (0 ≤ (ji6)) = true:=decide_eq_true c7
        clear c7
        by_cases c8:(ji6) < (x5_1.length:Int)
        ·rw [if_pos c8] at H
         have c8b0:decide ((ji6) < (x5_1.length:Int)) = true:=decide_eq_true c8
         clear c8
         replace H:=Option.bind_eq_some_iff.mp H
         obtain ⟨t1530,A90,H⟩:=H
         replace H:(if t1530 = true then (spec_deOrder.l1 k2 l0 a1 x5_1 x6_1 ji6) else (if 0 ≤ x7_2 then (if x7_2 ≤ (x5_1.length:Int) then ((spec_l1Own.f (x5_1.take (x7_2:Int).toNat)).bind fun t1535=>(if t1535.length < 17592186044416 then ((some (t1535 ++ [x6_1]:List Int)).bind fun y1538=>((some (x5_1.drop (x7_2:Int).toNat:List Int)).bind fun y1541=>(if y1538.length + y1541.length < 17592186044416 then (spec_deOrder.l0 k2 l0 a1 (y1538 ++ y1541) (wrap64 (x6_1 + 1))) else (none)))) else (none))) else (none)) else (none))) = some r:=H
         have A9:=Aside0.mk A90
         clear A90
         by_cases c10:t1530 = true
         ·subst c10
          have H1:(spec_deOrder.l1 k2 l0 a1 x5_1 x6_1 ji6) = some r:=by rw [if_pos rfl] at H;exact H
          clear H
          have H:=H1
          clear H1
          have H':=Aside0.mk H
          clear H
          have p1529:0 ≤ ((ji6):Int):=of_decide_eq_true (by first|(with_reducible assumption)|assumption)
          have q1529:(ji6) < (x5_1.length:Int):=of_decide_eq_true (by first|(with_reducible assumption)|assumption)
          obtain ⟨ad1529,e1529,hx1529_0⟩:=Kd.at_int (Kd.R_reads' HO_5.out).2.2 (ji6) p1529 q1529
          cases e1529
          replace p1529:=eq_true p1529
          replace q1529:=eq_true q1529
          go_wp2_with (first|(go_at_call 185;(with_reducible refine (spec_deGreater.calls k2 _ _ l0 x6_1 (rd x5_1 (ji6)) true _ ?side1 ?side2 A9.out).mono ?_);(case side1=>repeat (first|exact (Kd.C_below HR0.out HB.out)|(with_reducible refine Kd.C_alloc ?_ _)|(with_reducible refine Kd.C_drewN ?_ _)|(with_reducible refine Kd.C_drew ?_)));(case side2=>exact HC0.out);rintro e w' ⟨rfl,⟨nd,rfl⟩⟩))
          go_roundg k2
          case measure=>have:=HK1.out;have:=HK2.out;omega
          case rel=>exact ⟨(ji6),(by first|rfl|(simp;done)|(simp only [← hji6] <;> (first|rfl|simp))|(simp [*];done)),H',⟨by have:=HK1.out;have:=HK2.out;omega⟩,⟨by (with_reducible repeat (first|apply Kd.R_alloc|apply Kd.R_drewN|apply Kd.R_drew));exact HO_5.out⟩,⟨by repeat (first|(with_reducible first|exact HB.out|apply below_alloc|apply pw_below_drewN|apply below_drew1)|exact HB.out)⟩⟩
         ·replace c10:=Bool.eq_false_iff.mpr c10
          subst c10
          have H1:(if 0 ≤ x7_2 then (if x7_2 ≤ (x5_1.length:Int) then ((spec_l1Own.f (x5_1.take (x7_2:Int).toNat)).bind fun t1535=>(if t1535.length < 17592186044416 then ((some (t1535 ++ [x6_1]:List Int)).bind fun y1538=>((some (x5_1.drop (x7_2:Int).toNat:List Int)).bind fun y1541=>(if y1538.length + y1541.length < 17592186044416 then (spec_deOrder.l0 k2 l0 a1 (y1538 ++ y1541) (wrap64 (x6_1 + 1))) else (none)))) else (none))) else (none)) else (none)) = some r:=by rw [if_neg (show ¬ (false = true) by decide)] at H;exact H
          clear H
          have H:=H1
          clear H1
          by_cases c11:0 ≤ x7_2
          ·rw [if_pos c11] at H
           have c11b0:=eq_true c11
           have c11b1:decide (0 ≤ x7_2) = true:=decide_eq_true c11
           clear c11
           by_cases c12:x7_2 ≤ (x5_1.length:Int)
           ·rw [if_pos c12] at H
            have c12b0:=eq_true c12
            have c12b1:decide (x7_2 ≤ (x5_1.length:Int)) = true:=decide_eq_true c12
            clear c12
            obtain ⟨y1531,hy1531⟩:∃ y_:List Int,y_ = (x5_1.take (x7_2:Int).toNat):=⟨_,rfl⟩
            replace H:((spec_l1Own.f y1531).bind fun t1535=>(if t1535.length < 17592186044416 then ((some (t1535 ++ [x6_1]:List Int)).bind fun y1538=>((some (x5_1.drop (x7_2:Int).toNat:List Int)).bind fun y1541=>(if y1538.length + y1541.length < 17592186044416 then (spec_deOrder.l0 k2 l0 a1 (y1538 ++ y1541) (wrap64 (x6_1 + 1))) else (none)))) else (none))) = some r:=by first|(rw [hy1531];with_reducible exact H)|(have H2_:=(Option.bind_some _ _).symm.trans H;rw [hy1531];with_reducible exact H2_)|(have H2_:=(Option.bind_some _ _).symm.trans H;with_reducible exact H2_)|with_reducible exact H|(rw [hy1531];exact H)|exact H
            have Ny1531:=Aside0.mk hy1531
            clear hy1531
            replace H:=Option.bind_eq_some_iff.mp H
            obtain ⟨t1535,A130,H⟩:=H
            replace H:(if t1535.length < 17592186044416 then ((some (t1535 ++ [x6_1]:List Int)).bind fun y1538=>((some (x5_1.drop (x7_2:Int).toNat:List Int)).bind fun y1541=>(if y1538.length + y1541.length < 17592186044416 then (spec_deOrder.l0 k2 l0 a1 (y1538 ++ y1541) (wrap64 (x6_1 + 1))) else (none)))) else (none)) = some r:=H
            have A13:=Aside0.mk A130
            clear A130
            by_cases c14:t1535.length < 17592186044416
            ·rw [if_pos c14] at H
             have LMc14:=Aside0.mk c14
             clear c14
             obtain ⟨y1538,hy1538⟩:∃ y_:List Int,y_ = (t1535 ++ [x6_1]):=⟨_,rfl⟩
             replace H:((some (x5_1.drop (x7_2:Int).toNat:List Int)).bind fun y1541=>(if y1538.length + y1541.length < 17592186044416 then (spec_deOrder.l0 k2 l0 a1 (y1538 ++ y1541) (wrap64 (x6_1 + 1))) else (none))) = some r:=by first|(rw [hy1538];with_reducible exact H)|(have H2_:=(Option.bind_some _ _).symm.trans H;rw [hy1538];with_reducible exact H2_)|(have H2_:=(Option.bind_some _ _).symm.trans H;with_reducible exact H2_)|with_reducible exact H|(rw [hy1538];exact H)|exact H
             have Ny1538:=Aside0.mk hy1538
             clear hy1538
             have c15b0:=eq_true (of_decide_eq_true (by first|(with_reducible assumption)|assumption):0 ≤ x7_2)
             have c16b0:=eq_true (of_decide_eq_true (by first|(with_reducible assumption)|assumption):x7_2 ≤ (x5_1.length:Int))
             obtain ⟨y1541,hy1541⟩:∃ y_:List Int,y_ = (x5_1.drop (x7_2:Int).toNat):=⟨_,rfl⟩
             replace H:(if y1538.length + y1541.length < 17592186044416 then (spec_deOrder.l0 k2 l0 a1 (y1538 ++ y1541) (wrap64 (x6_1 + 1))) else (none)) = some r:=by first|(rw [hy1541];with_reducible exact H)|(have H2_:=(Option.bind_some _ _).symm.trans H;rw [hy1541];with_reducible exact H2_)|(have H2_:=(Option.bind_some _ _).symm.trans H;with_reducible exact H2_)|with_reducible exact H|(rw [hy1541];exact H)|exact H
             have Ny1541:=Aside0.mk hy1541
             clear hy1541
             by_cases c17:y1538.length + y1541.length < 17592186044416
             ·rw [if_pos c17] at H
              have LMc17:=Aside0.mk c17
              clear c17
              obtain ⟨y1545,hy1545⟩:∃ y_:List Int,y_ = (y1538 ++ y1541):=⟨_,rfl⟩
              replace H:(spec_deOrder.l0 k2 l0 a1 y1545 (wrap64 (x6_1 + 1))) = some r:=by first|(rw [hy1545];with_reducible exact H)|(have H2_:=(Option.bind_some _ _).symm.trans H;rw [hy1545];with_reducible exact H2_)|(have H2_:=(Option.bind_some _ _).symm.trans H;with_reducible exact H2_)|with_reducible exact H|(rw [hy1545];exact H)|exact H
              have Ny1545:=Aside0.mk hy1545
              clear hy1545
              have H':=Aside0.mk H
              clear H
              have p1529:0 ≤ ((ji6):Int):=of_decide_eq_true (by first|(with_reducible assumption)|assumption)
              have q1529:(ji6) < (x5_1.length:Int):=of_decide_eq_true (by first|(with_reducible assumption)|assumption)
              obtain ⟨ad1529,e1529,hx1529_0⟩:=Kd.at_int (Kd.R_reads' HO_5.out).2.2 (ji6) p1529 q1529
              cases e1529
              replace p1529:=eq_true p1529
              replace q1529:=eq_true q1529
              go_wp2_with (first|(go_at_call 185;(with_reducible refine (spec_deGreater.calls k2 _ _ l0 x6_1 (rd x5_1 (ji6)) false _ ?side1 ?side2 A9.out).mono ?_);(case side1=>repeat (first|exact (Kd.C_below HR0.out HB.out)|(with_reducible refine Kd.C_alloc ?_ _)|(with_reducible refine Kd.C_drewN ?_ _)|(with_reducible refine Kd.C_drew ?_)));(case side2=>exact HC0.out);rintro e w' ⟨rfl,⟨nd,rfl⟩⟩;have q18:(x7_2:Int) ≤ ((x5_1.length:Int):Int):=of_decide_eq_true (by first|(with_reducible assumption)|assumption);obtain ⟨i018,hi018,_,hsz18,_⟩:=info_parts info3;have hroom18:x5_1.length ≤ co4:=(Kd.R_reads' HO_5.out).2.1;have hC18:Kd.C (Kd.int .i64) _ (some ad1529) x5_1.length x5_1:=(Kd.R_reads' HO_5.out).2.2;have hcut18:=cut_to (P:=Try.prog) 22 3 .i64 Try.underlying22 hi018 (some ad1529) x5_1.length co4 x7_2 (of_decide_eq_true (by first|(with_reducible assumption)|assumption)) q18 hroom18;have hr18:=Kd.C_take (m:=(x7_2:Int).toNat) hC18 (by omega);have hy18:y1531.length = (x7_2:Int).toNat:=(by rw [Ny1531.out,List.length_take];omega);rw [← Ny1531.out] at hr18;rw [← hy18] at hcut18;have HR1534:=Aside0.mk hr18;have HC1534:=Aside0.mk (show y1531.length ≤ co4 from by omega);clear hr18 hC18 hroom18 hi018 hsz18;have KY18:=Aside0.mk hy18;clear hy18;have KL18:=Aside0.mk (show (x7_2:Int).toNat ≤ x5_1.length from by omega);replace q18:=eq_true q18)|((with_reducible refine gate_callee (f:=141) rfl ?_);refine goesL_ (some 33) rfl rfl Try.func141 (by kernel_rfl) rfl #[.slice (some ad1529) y1531.length co4] rfl (by (try simp only [List.map_toArray,List.map_cons,List.map_nil]);first|done|rfl|(simp only [List.length_drop,List.length_take];rfl)) ?_;(with_reducible refine (spec_l1Own.calls _ _ y1531 t1535 _ ?side1 ?side2 A13.out).mono ?_);(case side1=>repeat (first|exact (by repeat (first|(with_reducible exact HR1534.out)|(with_reducible refine Kd.C_alloc ?_ _)|(with_reducible refine Kd.C_drewN ?_ _)|(with_reducible refine Kd.C_drew ?_)|exact HR1534.out))|(with_reducible refine Kd.C_alloc ?_ _)|(with_reducible refine Kd.C_drewN ?_ _)|(with_reducible refine Kd.C_drew ?_)));(case side2=>exact HC1534.out);rintro e w19 ⟨v1536,rfl,ho0,hb⟩;refine ⟨_,rfl,?_⟩;have n0_:=Aside0.mk (Kd.R_elder' (by (with_reducible repeat (first|apply Kd.R_alloc|apply Kd.R_drewN|apply Kd.R_drew));exact HO_5.out) (Kd.R_base ho0) hb);have n1_:=Aside0.mk (Kd.R_lower (Kd.R_new' ho0 (Kd.R_lt (by (with_reducible repeat (first|apply Kd.R_alloc|apply Kd.R_drewN|apply Kd.R_drew));exact HO_5.out))) (below_size (by repeat (first|(with_reducible first|exact HB.out|apply below_alloc|apply pw_below_drewN|apply below_drew1)|exact HB.out))));have n2_:=Aside0.mk (Kd.C_below (by repeat (first|(with_reducible exact HR1534.out)|(with_reducible refine Kd.C_alloc ?_ _)|(with_reducible refine Kd.C_drewN ?_ _)|(with_reducible refine Kd.C_drew ?_)|exact HR1534.out)) hb);have n3_:=Aside0.mk (below_step (by repeat (first|(with_reducible first|exact HB.out|apply below_alloc|apply pw_below_drewN|apply below_drew1)|exact HB.out)) hb);clear HO_5;clear HR1534;clear HB;have HO_5:=n0_;have HO1537:=n1_;have HR1534:=n2_;have HB:=n3_;clear n0_ n1_ n2_ n3_;(try clear hb);(try clear hb2);(try clear hk);(try clear hi);(try clear ho0))|((with_reducible refine gate_builtin (b:=.append) (xs:=#[.tmp 33,.tmp 35]) rfl ?_);at_builtin;refine Kd.R_append (Kd.int .i64) (w0:=w) w.heap.size rfl (.tmp 33) (.tmp 35) 22 3 (.int .i64 0) 8 rfl Try.underlying22 info3 rfl (by decide) (by omega) v1536 t1535 x6_1 [.int .i64 x6_1] (fun k_=>some k_ ≠ (.slice (some ad1529) x5_1.length co4:Value).ownBlock) (fun _=>False) rfl rfl ?aP (fun _ hk=>hk.elim) ?aF ?aO ?aB ?aS ?aL ?_;(case aP=>exact rfl);(case aB=>exact (by repeat (first|(with_reducible first|exact HB.out|apply below_alloc|apply pw_below_drewN|apply below_drew1)|exact HB.out)));(case aF=>exact (fun k_ hk=>Kd.fresh' (Kd.R_lt (by (with_reducible repeat (first|apply Kd.R_alloc|apply Kd.R_drewN|apply Kd.R_drew));exact HO_5.out)) k_ hk));(case aO=>exact (by (with_reducible repeat (first|apply Kd.R_alloc|apply Kd.R_drewN|apply Kd.R_drew));exact Kd.R_mono HO1537.out (fun _ hk=>hk.2)));(case aS=>exact (below_size (by repeat (first|(with_reducible first|exact HB.out|apply below_alloc|apply pw_below_drewN|apply below_drew1)|exact HB.out))));(case aL=>have:=LMc14.out;omega);intro v1539 w20 ho hb hg hat;rw [← Ny1538.out] at ho;have n0_:=Aside0.mk (Kd.R_after (ok:=(fun _=>True)) (by (with_reducible repeat (first|apply Kd.R_alloc|apply Kd.R_drewN|apply Kd.R_drew));exact HO_5.out) hg hat);have n1_:=Aside0.mk (hb);have n2_:=Aside0.mk ((show Kd.C (Kd.int .i64) w20 (some ad1529) y1531.length y1531 from by rw [Ny1531.out];exact Kd.C_take (m:=(x7_2:Int).toNat) ((Kd.R_reads' (Kd.R_after (ok:=(fun _=>True)) (by (with_reducible repeat (first|apply Kd.R_alloc|apply Kd.R_drewN|apply Kd.R_drew));exact HO_5.out) hg hat)).2.2) KL18.out));have n3_:=Aside0.mk (ho);clear HO_5;clear HB;clear HR1534;clear HO1537;have HO_5:=n0_;have HB:=n1_;have HR1534:=n2_;have HO1540:=n3_;clear n0_ n1_ n2_ n3_;clear ho hb hg hat;have q21:(x7_2:Int) ≤ ((x5_1.length:Int):Int):=of_decide_eq_true (by first|(with_reducible assumption)|assumption);obtain ⟨i021,hi021,_,hsz21,_⟩:=info_parts info3;have hroom21:x5_1.length ≤ co4:=(Kd.R_reads' HO_5.out).2.1;have hC21:Kd.C (Kd.int .i64) _ (some ad1529) x5_1.length x5_1:=(Kd.R_reads' HO_5.out).2.2;have q021:(0:Int) ≤ (x7_2:Int):=of_decide_eq_true (by first|(with_reducible assumption)|assumption);have hcut21:=cut_from (P:=Try.prog) 22 3 .i64 Try.underlying22 hi021 1 hsz21 (some ad1529) x5_1.length co4 x7_2 q021 q21;have hr21:=Kd.C_drop (m:=(x7_2:Int).toNat) (c:=co4) hC21 (by omega) hroom21;obtain ⟨A21,hA21⟩:∃ A1,A1 = (if co4 = (x7_2:Int).toNat then (some ad1529) else ((some ad1529):Option Addr).map (·.add ((x7_2:Int).toNat * 1))):=⟨_,rfl⟩;obtain ⟨c21,hc21⟩:∃ c1,c1 = co4 - (x7_2:Int).toNat:=⟨_,rfl⟩;have hy21:y1541.length = x5_1.length - (x7_2:Int).toNat:=(by rw [Ny1541.out,List.length_drop] <;> omega);rw [show (x5_1).drop (x7_2:Int).toNat = y1541 from Ny1541.out.symm] at hr21;replace hr21:Kd.C (Kd.int .i64) _ A21 y1541.length y1541:=(by rw [hA21];exact hr21);rw [← hy21,← hA21,← hc21] at hcut21;have HR1544:=Aside0.mk hr21;have HC1544:=Aside0.mk (show y1541.length ≤ c21 from by rw [hy21,hc21];exact Nat.sub_le_sub_right hroom21 _);clear hr21 hC21 hroom21 hi021 hsz21 hc21;have KY21:=Aside0.mk hy21;have KA21:=Aside0.mk hA21;clear hy21 hA21;have KL21:=Aside0.mk (show (x7_2:Int).toNat ≤ x5_1.length from by omega);replace q21:=eq_true q21)|((with_reducible refine gate_builtin (b:=.append) (xs:=#[.tmp 37,.tmp 40]) rfl ?_);at_builtin;refine Kd.R_append_rows (Kd.int .i64) (w0:=w) w.heap.size rfl (.tmp 37) (.tmp 40) 22 3 (.int .i64 0) 8 rfl Try.underlying22 info3 rfl (by decide) (by omega) v1539 y1538 y1541 _ _ _ (fun k_=>some k_ ≠ (.slice (some ad1529) x5_1.length co4:Value).ownBlock) (fun _=>False) rfl rfl ?aO ?aR (fun _ _ h=>h) (fun _ h=>h.elim) ?aF ?aB ?aS ?aL ?_;(case aR=>repeat (first|exact (by repeat (first|(with_reducible exact HR1544.out)|(with_reducible refine Kd.C_alloc ?_ _)|(with_reducible refine Kd.C_drewN ?_ _)|(with_reducible refine Kd.C_drew ?_)|exact HR1544.out))|(with_reducible refine Kd.C_alloc ?_ _)|(with_reducible refine Kd.C_drewN ?_ _)|(with_reducible refine Kd.C_drew ?_)));(case aB=>exact (by repeat (first|(with_reducible first|exact HB.out|apply below_alloc|apply pw_below_drewN|apply below_drew1)|exact HB.out)));(case aF=>exact (fun k_ hk=>Kd.fresh' (Kd.R_lt (by (with_reducible repeat (first|apply Kd.R_alloc|apply Kd.R_drewN|apply Kd.R_drew));exact HO_5.out)) k_ hk));(case aO=>exact (by (with_reducible repeat (first|apply Kd.R_alloc|apply Kd.R_drewN|apply Kd.R_drew));exact HO1540.out));(case aS=>exact (below_size (by repeat (first|(with_reducible first|exact HB.out|apply below_alloc|apply pw_below_drewN|apply below_drew1)|exact HB.out))));(case aL=>have:=LMc17.out;omega);intro v1546 w22 ho hb hg hat;rw [← Ny1545.out] at ho;have n0_:=Aside0.mk (Kd.R_after (ok:=(fun _=>True)) (by (with_reducible repeat (first|apply Kd.R_alloc|apply Kd.R_drewN|apply Kd.R_drew));exact HO_5.out) hg hat);have n1_:=Aside0.mk (hb);have n2_:=Aside0.mk ((show Kd.C (Kd.int .i64) w22 (some ad1529) y1531.length y1531 from by rw [Ny1531.out];exact Kd.C_take (m:=(x7_2:Int).toNat) ((Kd.R_reads' (Kd.R_after (ok:=(fun _=>True)) (by (with_reducible repeat (first|apply Kd.R_alloc|apply Kd.R_drewN|apply Kd.R_drew));exact HO_5.out) hg hat)).2.2) KL18.out));have n3_:=Aside0.mk ((show Kd.C (Kd.int .i64) w22 A21 y1541.length y1541 from by rw [Ny1541.out,KA21.out];exact Kd.C_drop (m:=(x7_2:Int).toNat) (c:=co4) ((Kd.R_reads' (Kd.R_after (ok:=(fun _=>True)) (by (with_reducible repeat (first|apply Kd.R_alloc|apply Kd.R_drewN|apply Kd.R_drew));exact HO_5.out) hg hat)).2.2) KL21.out ((Kd.R_reads' (Kd.R_after (ok:=(fun _=>True)) (by (with_reducible repeat (first|apply Kd.R_alloc|apply Kd.R_drewN|apply Kd.R_drew));exact HO_5.out) hg hat)).2.1)));have n4_:=Aside0.mk (ho);clear HO_5;clear HB;clear HR1534;clear HR1544;clear HO1540;have HO_5:=n0_;have HB:=n1_;have HR1534:=n2_;have HR1544:=n3_;have HO1547:=n4_;clear n0_ n1_ n2_ n3_ n4_;clear ho hb hg hat))
              go_roundg k2
              case measure=>have:=HK1.out;have:=HK2.out;omega
              case rel=>exact ⟨(y1545),(wrap64 (x6_1 + 1)),(by first|rfl|(simp;done)|(simp [*];done)),H',⟨by have:=HK1.out;have:=HK2.out;omega⟩,⟨by (with_reducible repeat (first|apply Kd.R_alloc|apply Kd.R_drewN|apply Kd.R_drew));exact Kd.R_mono HO1547.out (fun _ hk=>trivial)⟩,⟨by repeat (first|(with_reducible first|exact HB.out|apply below_alloc|apply pw_below_drewN|apply below_drew1)|exact HB.out)⟩⟩
             ·rw [if_neg c17] at H
              exact absurd H (by simp)
            ·rw [if_neg c14] at H
             exact absurd H (by simp)
           ·rw [if_neg c12] at H
            exact absurd H (by simp)
          ·rw [if_neg c11] at H
           exact absurd H (by simp)
        ·rw [if_neg c8] at H
         exact absurd H (by simp)
       ·rw [if_neg c7] at H
        exact absurd H (by simp)
      ·rw [if_neg c5] at H
       have c5b0:decide (0 < x7_2) = false:=decide_eq_false c5
       clear c5
       by_cases c23:0 ≤ x7_2
       ·rw [if_pos c23] at H
        have c23b0:=eq_true c23
        have c23b1:decide (0 ≤ x7_2) = true:=decide_eq_true c23
        clear c23
        by_cases c24:x7_2 ≤ (x5_1.length:Int)
        ·rw [if_pos c24] at H
         have c24b0:=eq_true c24
         have c24b1:decide (x7_2 ≤ (x5_1.length:Int)) = true:=decide_eq_true c24
         clear c24
         obtain ⟨y1548,hy1548⟩:∃ y_:List Int,y_ = (x5_1.take (x7_2:Int).toNat):=⟨_,rfl⟩
         replace H:((spec_l1Own.f y1548).bind fun t1552=>(if t1552.length < 17592186044416 then ((some (t1552 ++ [x6_1]:List Int)).bind fun y1555=>((some (x5_1.drop (x7_2:Int).toNat:List Int)).bind fun y1558=>(if y1555.length + y1558.length < 17592186044416 then (spec_deOrder.l0 k2 l0 a1 (y1555 ++ y1558) (wrap64 (x6_1 + 1))) else (none)))) else (none))) = some r:=by first|(rw [hy1548];with_reducible exact H)|(have H2_:=(Option.bind_some _ _).symm.trans H;rw [hy1548];with_reducible exact H2_)|(have H2_:=(Option.bind_some _ _).symm.trans H;with_reducible exact H2_)|with_reducible exact H|(rw [hy1548];exact H)|exact H
         have Ny1548:=Aside0.mk hy1548
         clear hy1548
         replace H:=Option.bind_eq_some_iff.mp H
         obtain ⟨t1552,A250,H⟩:=H
         replace H:(if t1552.length < 17592186044416 then ((some (t1552 ++ [x6_1]:List Int)).bind fun y1555=>((some (x5_1.drop (x7_2:Int).toNat:List Int)).bind fun y1558=>(if y1555.length + y1558.length < 17592186044416 then (spec_deOrder.l0 k2 l0 a1 (y1555 ++ y1558) (wrap64 (x6_1 + 1))) else (none)))) else (none)) = some r:=H
         have A25:=Aside0.mk A250
         clear A250
         by_cases c26:t1552.length < 17592186044416
         ·rw [if_pos c26] at H
          have LMc26:=Aside0.mk c26
          clear c26
          obtain ⟨y1555,hy1555⟩:∃ y_:List Int,y_ = (t1552 ++ [x6_1]):=⟨_,rfl⟩
          replace H:((some (x5_1.drop (x7_2:Int).toNat:List Int)).bind fun y1558=>(if y1555.length + y1558.length < 17592186044416 then (spec_deOrder.l0 k2 l0 a1 (y1555 ++ y1558) (wrap64 (x6_1 + 1))) else (none))) = some r:=by first|(rw [hy1555];with_reducible exact H)|(have H2_:=(Option.bind_some _ _).symm.trans H;rw [hy1555];with_reducible exact H2_)|(have H2_:=(Option.bind_some _ _).symm.trans H;with_reducible exact H2_)|with_reducible exact H|(rw [hy1555];exact H)|exact H
          have Ny1555:=Aside0.mk hy1555
          clear hy1555
          have c27b0:=eq_true (of_decide_eq_true (by first|(with_reducible assumption)|assumption):0 ≤ x7_2)
          have c28b0:=eq_true (of_decide_eq_true (by first|(with_reducible assumption)|assumption):x7_2 ≤ (x5_1.length:Int))
          obtain ⟨y1558,hy1558⟩:∃ y_:List Int,y_ = (x5_1.drop (x7_2:Int).toNat):=⟨_,rfl⟩
          replace H:(if y1555.length + y1558.length < 17592186044416 then (spec_deOrder.l0 k2 l0 a1 (y1555 ++ y1558) (wrap64 (x6_1 + 1))) else (none)) = some r:=by first|(rw [hy1558];with_reducible exact H)|(have H2_:=(Option.bind_some _ _).symm.trans H;rw [hy1558];with_reducible exact H2_)|(have H2_:=(Option.bind_some _ _).symm.trans H;with_reducible exact H2_)|with_reducible exact H|(rw [hy1558];exact H)|exact H
          have Ny1558:=Aside0.mk hy1558
          clear hy1558
          by_cases c29:y1555.length + y1558.length < 17592186044416
          ·rw [if_pos c29] at H
           have LMc29:=Aside0.mk c29
           clear c29
           obtain ⟨y1562,hy1562⟩:∃ y_:List Int,y_ = (y1555 ++ y1558):=⟨_,rfl⟩
           replace H:(spec_deOrder.l0 k2 l0 a1 y1562 (wrap64 (x6_1 + 1))) = some r:=by first|(rw [hy1562];with_reducible exact H)|(have H2_:=(Option.bind_some _ _).symm.trans H;rw [hy1562];with_reducible exact H2_)|(have H2_:=(Option.bind_some _ _).symm.trans H;with_reducible exact H2_)|with_reducible exact H|(rw [hy1562];exact H)|exact H
           have Ny1562:=Aside0.mk hy1562
           clear hy1562
           have H':=Aside0.mk H
           clear H
           have q30:(x7_2:Int) ≤ ((x5_1.length:Int):Int):=of_decide_eq_true (by first|(with_reducible assumption)|assumption)
           obtain ⟨i030,hi030,_,hsz30,_⟩:=info_parts info3
           have hroom30:x5_1.length ≤ co4:=(Kd.R_reads' HO_5.out).2.1
           have hC30:Kd.C (Kd.int .i64) _ Ao4 x5_1.length x5_1:=(Kd.R_reads' HO_5.out).2.2
           have hcut30:=cut_to (P:=Try.prog) 22 3 .i64 Try.underlying22 hi030 Ao4 x5_1.length co4 x7_2 (of_decide_eq_true (by first|(with_reducible assumption)|assumption)) q30 hroom30
           have hr30:=Kd.C_take (m:=(x7_2:Int).toNat) hC30 (by omega)
           have hy30:y1548.length = (x7_2:Int).toNat:=(by rw [Ny1548.out,List.length_take];omega)
           rw [← Ny1548.out] at hr30
           rw [← hy30] at hcut30
           have HR1551:=Aside0.mk hr30
           have HC1551:=Aside0.mk (show y1548.length ≤ co4 from by omega)
           clear hr30 hC30 hroom30 hi030 hsz30
           have KY30:=Aside0.mk hy30
           clear hy30
           have KL30:=Aside0.mk (show (x7_2:Int).toNat ≤ x5_1.length from by omega)
           replace q30:=eq_true q30
           go_wp2_with (first|((with_reducible refine gate_callee (f:=141) rfl ?_);refine goesL_ (some 33) rfl rfl Try.func141 (by kernel_rfl) rfl #[.slice Ao4 y1548.length co4] rfl (by (try simp only [List.map_toArray,List.map_cons,List.map_nil]);first|done|rfl|(simp only [List.length_drop,List.length_take];rfl)) ?_;(with_reducible refine (spec_l1Own.calls _ _ y1548 t1552 _ ?side1 ?side2 A25.out).mono ?_);(case side1=>repeat (first|exact (by repeat (first|(with_reducible exact HR1551.out)|(with_reducible refine Kd.C_alloc ?_ _)|(with_reducible refine Kd.C_drewN ?_ _)|(with_reducible refine Kd.C_drew ?_)|exact HR1551.out))|(with_reducible refine Kd.C_alloc ?_ _)|(with_reducible refine Kd.C_drewN ?_ _)|(with_reducible refine Kd.C_drew ?_)));(case side2=>exact HC1551.out);rintro e w31 ⟨v1553,rfl,ho0,hb⟩;refine ⟨_,rfl,?_⟩;have n0_:=Aside0.mk (Kd.R_elder' (by (with_reducible repeat (first|apply Kd.R_alloc|apply Kd.R_drewN|apply Kd.R_drew));exact HO_5.out) (Kd.R_base ho0) hb);have n1_:=Aside0.mk (Kd.R_lower (Kd.R_new' ho0 (Kd.R_lt (by (with_reducible repeat (first|apply Kd.R_alloc|apply Kd.R_drewN|apply Kd.R_drew));exact HO_5.out))) (below_size (by repeat (first|(with_reducible first|exact HB.out|apply below_alloc|apply pw_below_drewN|apply below_drew1)|exact HB.out))));have n2_:=Aside0.mk (Kd.C_below (by repeat (first|(with_reducible exact HR1551.out)|(with_reducible refine Kd.C_alloc ?_ _)|(with_reducible refine Kd.C_drewN ?_ _)|(with_reducible refine Kd.C_drew ?_)|exact HR1551.out)) hb);have n3_:=Aside0.mk (below_step (by repeat (first|(with_reducible first|exact HB.out|apply below_alloc|apply pw_below_drewN|apply below_drew1)|exact HB.out)) hb);clear HO_5;clear HR1551;clear HB;have HO_5:=n0_;have HO1554:=n1_;have HR1551:=n2_;have HB:=n3_;clear n0_ n1_ n2_ n3_;(try clear hb);(try clear hb2);(try clear hk);(try clear hi);(try clear ho0))|((with_reducible refine gate_builtin (b:=.append) (xs:=#[.tmp 33,.tmp 35]) rfl ?_);at_builtin;refine Kd.R_append (Kd.int .i64) (w0:=w) w.heap.size rfl (.tmp 33) (.tmp 35) 22 3 (.int .i64 0) 8 rfl Try.underlying22 info3 rfl (by decide) (by omega) v1553 t1552 x6_1 [.int .i64 x6_1] (fun k_=>some k_ ≠ (.slice Ao4 x5_1.length co4:Value).ownBlock) (fun _=>False) rfl rfl ?aP (fun _ hk=>hk.elim) ?aF ?aO ?aB ?aS ?aL ?_;(case aP=>exact rfl);(case aB=>exact (by repeat (first|(with_reducible first|exact HB.out|apply below_alloc|apply pw_below_drewN|apply below_drew1)|exact HB.out)));(case aF=>exact (fun k_ hk=>Kd.fresh' (Kd.R_lt (by (with_reducible repeat (first|apply Kd.R_alloc|apply Kd.R_drewN|apply Kd.R_drew));exact HO_5.out)) k_ hk));(case aO=>exact (by (with_reducible repeat (first|apply Kd.R_alloc|apply Kd.R_drewN|apply Kd.R_drew));exact Kd.R_mono HO1554.out (fun _ hk=>hk.2)));(case aS=>exact (below_size (by repeat (first|(with_reducible first|exact HB.out|apply below_alloc|apply pw_below_drewN|apply below_drew1)|exact HB.out))));(case aL=>have:=LMc26.out;omega);intro v1556 w32 ho hb hg hat;rw [← Ny1555.out] at ho;have n0_:=Aside0.mk (Kd.R_after (ok:=(fun _=>True)) (by (with_reducible repeat (first|apply Kd.R_alloc|apply Kd.R_drewN|apply Kd.R_drew));exact HO_5.out) hg hat);have n1_:=Aside0.mk (hb);have n2_:=Aside0.mk ((show Kd.C (Kd.int .i64) w32 Ao4 y1548.length y1548 from by rw [Ny1548.out];exact Kd.C_take (m:=(x7_2:Int).toNat) ((Kd.R_reads' (Kd.R_after (ok:=(fun _=>True)) (by (with_reducible repeat (first|apply Kd.R_alloc|apply Kd.R_drewN|apply Kd.R_drew));exact HO_5.out) hg hat)).2.2) KL30.out));have n3_:=Aside0.mk (ho);clear HO_5;clear HB;clear HR1551;clear HO1554;have HO_5:=n0_;have HB:=n1_;have HR1551:=n2_;have HO1557:=n3_;clear n0_ n1_ n2_ n3_;clear ho hb hg hat;have q33:(x7_2:Int) ≤ ((x5_1.length:Int):Int):=of_decide_eq_true (by first|(with_reducible assumption)|assumption);obtain ⟨i033,hi033,_,hsz33,_⟩:=info_parts info3;have hroom33:x5_1.length ≤ co4:=(Kd.R_reads' HO_5.out).2.1;have hC33:Kd.C (Kd.int .i64) _ Ao4 x5_1.length x5_1:=(Kd.R_reads' HO_5.out).2.2;have q033:(0:Int) ≤ (x7_2:Int):=of_decide_eq_true (by first|(with_reducible assumption)|assumption);have hcut33:=cut_from (P:=Try.prog) 22 3 .i64 Try.underlying22 hi033 1 hsz33 Ao4 x5_1.length co4 x7_2 q033 q33;have hr33:=Kd.C_drop (m:=(x7_2:Int).toNat) (c:=co4) hC33 (by omega) hroom33;obtain ⟨A33,hA33⟩:∃ A1,A1 = (if co4 = (x7_2:Int).toNat then Ao4 else (Ao4:Option Addr).map (·.add ((x7_2:Int).toNat * 1))):=⟨_,rfl⟩;obtain ⟨c33,hc33⟩:∃ c1,c1 = co4 - (x7_2:Int).toNat:=⟨_,rfl⟩;have hy33:y1558.length = x5_1.length - (x7_2:Int).toNat:=(by rw [Ny1558.out,List.length_drop] <;> omega);rw [show (x5_1).drop (x7_2:Int).toNat = y1558 from Ny1558.out.symm] at hr33;replace hr33:Kd.C (Kd.int .i64) _ A33 y1558.length y1558:=(by rw [hA33];exact hr33);rw [← hy33,← hA33,← hc33] at hcut33;have HR1561:=Aside0.mk hr33;have HC1561:=Aside0.mk (show y1558.length ≤ c33 from by rw [hy33,hc33];exact Nat.sub_le_sub_right hroom33 _);clear hr33 hC33 hroom33 hi033 hsz33 hc33;have KY33:=Aside0.mk hy33;have KA33:=Aside0.mk hA33;clear hy33 hA33;have KL33:=Aside0.mk (show (x7_2:Int).toNat ≤ x5_1.length from by omega);replace q33:=eq_true q33)|((with_reducible refine gate_builtin (b:=.append) (xs:=#[.tmp 37,.tmp 40]) rfl ?_);at_builtin;refine Kd.R_append_rows (Kd.int .i64) (w0:=w) w.heap.size rfl (.tmp 37) (.tmp 40) 22 3 (.int .i64 0) 8 rfl Try.underlying22 info3 rfl (by decide) (by omega) v1556 y1555 y1558 _ _ _ (fun k_=>some k_ ≠ (.slice Ao4 x5_1.length co4:Value).ownBlock) (fun _=>False) rfl rfl ?aO ?aR (fun _ _ h=>h) (fun _ h=>h.elim) ?aF ?aB ?aS ?aL ?_;(case aR=>repeat (first|exact (by repeat (first|(with_reducible exact HR1561.out)|(with_reducible refine Kd.C_alloc ?_ _)|(with_reducible refine Kd.C_drewN ?_ _)|(with_reducible refine Kd.C_drew ?_)|exact HR1561.out))|(with_reducible refine Kd.C_alloc ?_ _)|(with_reducible refine Kd.C_drewN ?_ _)|(with_reducible refine Kd.C_drew ?_)));(case aB=>exact (by repeat (first|(with_reducible first|exact HB.out|apply below_alloc|apply pw_below_drewN|apply below_drew1)|exact HB.out)));(case aF=>exact (fun k_ hk=>Kd.fresh' (Kd.R_lt (by (with_reducible repeat (first|apply Kd.R_alloc|apply Kd.R_drewN|apply Kd.R_drew));exact HO_5.out)) k_ hk));(case aO=>exact (by (with_reducible repeat (first|apply Kd.R_alloc|apply Kd.R_drewN|apply Kd.R_drew));exact HO1557.out));(case aS=>exact (below_size (by repeat (first|(with_reducible first|exact HB.out|apply below_alloc|apply pw_below_drewN|apply below_drew1)|exact HB.out))));(case aL=>have:=LMc29.out;omega);intro v1563 w34 ho hb hg hat;rw [← Ny1562.out] at ho;have n0_:=Aside0.mk (Kd.R_after (ok:=(fun _=>True)) (by (with_reducible repeat (first|apply Kd.R_alloc|apply Kd.R_drewN|apply Kd.R_drew));exact HO_5.out) hg hat);have n1_:=Aside0.mk (hb);have n2_:=Aside0.mk ((show Kd.C (Kd.int .i64) w34 Ao4 y1548.length y1548 from by rw [Ny1548.out];exact Kd.C_take (m:=(x7_2:Int).toNat) ((Kd.R_reads' (Kd.R_after (ok:=(fun _=>True)) (by (with_reducible repeat (first|apply Kd.R_alloc|apply Kd.R_drewN|apply Kd.R_drew));exact HO_5.out) hg hat)).2.2) KL30.out));have n3_:=Aside0.mk ((show Kd.C (Kd.int .i64) w34 A33 y1558.length y1558 from by rw [Ny1558.out,KA33.out];exact Kd.C_drop (m:=(x7_2:Int).toNat) (c:=co4) ((Kd.R_reads' (Kd.R_after (ok:=(fun _=>True)) (by (with_reducible repeat (first|apply Kd.R_alloc|apply Kd.R_drewN|apply Kd.R_drew));exact HO_5.out) hg hat)).2.2) KL33.out ((Kd.R_reads' (Kd.R_after (ok:=(fun _=>True)) (by (with_reducible repeat (first|apply Kd.R_alloc|apply Kd.R_drewN|apply Kd.R_drew));exact HO_5.out) hg hat)).2.1)));have n4_:=Aside0.mk (ho);clear HO_5;clear HB;clear HR1551;clear HR1561;clear HO1557;have HO_5:=n0_;have HB:=n1_;have HR1551:=n2_;have HR1561:=n3_;have HO1564:=n4_;clear n0_ n1_ n2_ n3_ n4_;clear ho hb hg hat))
           go_roundg k2
           case measure=>have:=HK1.out;have:=HK2.out;omega
           case rel=>exact ⟨(y1562),(wrap64 (x6_1 + 1)),(by first|rfl|(simp;done)|(simp [*];done)),H',⟨by have:=HK1.out;have:=HK2.out;omega⟩,⟨by (with_reducible repeat (first|apply Kd.R_alloc|apply Kd.R_drewN|apply Kd.R_drew));exact Kd.R_mono HO1564.out (fun _ hk=>trivial)⟩,⟨by repeat (first|(with_reducible first|exact HB.out|apply below_alloc|apply pw_below_drewN|apply below_drew1)|exact HB.out)⟩⟩
          ·rw [if_neg c29] at H
           exact absurd H (by simp)
         ·rw [if_neg c26] at H
          exact absurd H (by simp)
        ·rw [if_neg c24] at H
         exact absurd H (by simp)
       ·rw [if_neg c23] at H
        exact absurd H (by simp)
   ·rw [if_neg c3] at H
    have c3b0:decide (x6_1 < a1) = false:=decide_eq_false c3
    clear c3
    obtain rfl:=Option.some.inj H
    go_wp2
    go_ret
    exact ⟨_,by first|rfl|(simp [errW_none,errW_some] <;> rfl)|(simp [*,errW_none,errW_some] <;> rfl),by (with_reducible repeat (first|apply Kd.R_alloc|apply Kd.R_drewN|apply Kd.R_drew));exact HO_5.out,by repeat (first|(with_reducible first|exact HB.out|apply below_alloc|apply pw_below_drewN|apply below_drew1)|exact HB.out)⟩


/-! ### spec_OrderOfWorth: function 63 -/
def spec_OrderOfWorth.f (k:Nat) (a0_0:Int) (l0_1:List (List Int)):Option (List Int × Bool):=(spec_gmGood.f k a0_0 l0_1).bind fun t1566=>(if t1566 = true then ((spec_gmAll.f k a0_0 l0_1).bind fun t1567=>((spec_deComplete.f k t1567 a0_0).bind fun t1570=>(if t1570 = true then ((spec_deOrder.f k t1567 a0_0).bind fun t1571=>(some (t1571,true))) else (some (([]:List Int),false))))) else (some (([]:List Int),false)))
theorem spec_OrderOfWorth.mono:∀ a0 a1 k,LeO (spec_OrderOfWorth.f k a0 a1) (spec_OrderOfWorth.f (k + 1) a0 a1):=by
 intro a0 a1 k
 unfold spec_OrderOfWorth.f
 repeat' first
   | (with_reducible exact spec_deComplete.mono _ _ _)
   | (with_reducible exact spec_deOrder.mono _ _ _)
   | (with_reducible exact spec_gmAll.mono _ _ _)
   | (with_reducible exact spec_gmGood.mono _ _ _)
   | (with_reducible exact LeO.refl _)
   | (with_reducible exact LeO.none _)
   | (with_reducible refine LeO.ite ?_ ?_)
   | (with_reducible refine LeO.bind ?_ (fun _=>?_))
   | exact spec_deComplete.mono _ _ _
   | exact spec_deOrder.mono _ _ _
   | exact spec_gmAll.mono _ _ _
   | exact spec_gmGood.mono _ _ _
   | exact LeO.none _
   | refine LeO.ite ?_ ?_
   | refine LeO.bind ?_ (fun _=>?_)
set_option maxHeartbeats 8000000 in
set_option maxRecDepth 100000 in
theorem spec_OrderOfWorth.calls (k:Nat) (a0_0:Int) (A0_1:Option Addr) (c0_1:Nat) (l0_1:List (List Int)) (r1:List Int) (r2:Bool) (w:World) (hr0_1:Kd.C (Kd.slice 3 (Kd.int .i64)) w A0_1 l0_1.length l0_1) (hc0_1:l0_1.length ≤ c0_1) (h:spec_OrderOfWorth.f k a0_0 l0_1 = some (r1,r2)) :
  Calls Try.prog 63 #[.agg #[.int .i64 a0_0,.slice A0_1 l0_1.length c0_1]] w fun e w'=>∃ v0_:Value,e = .returned (.tuple #[v0_,.bool r2]) ∧ Kd.R (Kd.int .i64) 3 w' w.heap.size (fun _=>True) v0_ r1 ∧ Below w.heap.size w w':=by
 have hu57:=Try.underlying57
 have HR0_1:=Aside0.mk hr0_1
 have HC0_1:=Aside0.mk hc0_1
 clear hr0_1 hc0_1
 have HB:=Aside0.mk (Below.refl w.heap.size w)
 have H:((spec_gmGood.f k a0_0 l0_1).bind fun t1566=>(if t1566 = true then ((spec_gmAll.f k a0_0 l0_1).bind fun t1567=>((spec_deComplete.f k t1567 a0_0).bind fun t1570=>(if t1570 = true then ((spec_deOrder.f k t1567 a0_0).bind fun t1571=>(some (t1571,true))) else (some (([]:List Int),false))))) else (some (([]:List Int),false)))) = some (r1,r2):=h
 clear h
 replace H:=Option.bind_eq_some_iff.mp H
 obtain ⟨t1566,A20,H⟩:=H
 replace H:(if t1566 = true then ((spec_gmAll.f k a0_0 l0_1).bind fun t1567=>((spec_deComplete.f k t1567 a0_0).bind fun t1570=>(if t1570 = true then ((spec_deOrder.f k t1567 a0_0).bind fun t1571=>(some (t1571,true))) else (some (([]:List Int),false))))) else (some (([]:List Int),false))) = some (r1,r2):=H
 have A2:=Aside0.mk A20
 clear A20
 by_cases c3:t1566 = true
 ·subst c3
  have H1:((spec_gmAll.f k a0_0 l0_1).bind fun t1567=>((spec_deComplete.f k t1567 a0_0).bind fun t1570=>(if t1570 = true then ((spec_deOrder.f k t1567 a0_0).bind fun t1571=>(some (t1571,true))) else (some (([]:List Int),false))))) = some (r1,r2):=by rw [if_pos rfl] at H;exact H
  clear H
  have H:=H1
  clear H1
  replace H:=Option.bind_eq_some_iff.mp H
  obtain ⟨t1567,A40,H⟩:=H
  replace H:((spec_deComplete.f k t1567 a0_0).bind fun t1570=>(if t1570 = true then ((spec_deOrder.f k t1567 a0_0).bind fun t1571=>(some (t1571,true))) else (some (([]:List Int),false)))) = some (r1,r2):=H
  have A4:=Aside0.mk A40
  clear A40
  replace H:=Option.bind_eq_some_iff.mp H
  obtain ⟨t1570,A50,H⟩:=H
  replace H:(if t1570 = true then ((spec_deOrder.f k t1567 a0_0).bind fun t1571=>(some (t1571,true))) else (some (([]:List Int),false))) = some (r1,r2):=H
  have A5:=Aside0.mk A50
  clear A50
  by_cases c6:t1570 = true
  ·subst c6
   have H1:((spec_deOrder.f k t1567 a0_0).bind fun t1571=>(some (t1571,true))) = some (r1,r2):=by rw [if_pos rfl] at H;exact H
   clear H
   have H:=H1
   clear H1
   replace H:=Option.bind_eq_some_iff.mp H
   obtain ⟨t1571,A70,H⟩:=H
   replace H:(some (t1571,true)) = some (r1,r2):=H
   have A7:=Aside0.mk A70
   clear A70
   simp only [Option.some.injEq,Prod.mk.injEq] at H
   obtain ⟨rfl,rfl⟩:=H
   go_enter Try.func63,Try.ntmps63
   go_wp2_with (first|((with_reducible refine gate_dst (N:=1) rfl ?_);refine box_event ?hg (N:=1) ?hd (cs:=#[.int .i64 a0_0,.slice A0_1 l0_1.length c0_1]) (t:=57) ?hr ?_;(case hd=>rfl);(case hg=>rfl);(case hr=>first|(go_simp;done)|(go_simp;rfl));intro gb1565 hg w8 hbox hb;have n0_:=Aside0.mk (below_step (by repeat (first|(with_reducible first|exact HB.out|apply below_alloc|apply pw_below_drewN|apply below_drew1)|exact HB.out)) hb);have n1_:=Aside0.mk (hbox);have n2_:=Aside0.mk ((by rw [hg];exact (below_size (by repeat (first|(with_reducible first|exact HB.out|apply below_alloc|apply pw_below_drewN|apply below_drew1)|exact HB.out))):w.heap.size ≤ gb1565));have n3_:=Aside0.mk ((by rw [hg];exact (below_size (by repeat (first|(with_reducible first|exact HB.out|apply below_alloc|apply pw_below_drewN|apply below_drew1)|exact HB.out))):w.heap.size ≤ gb1565));clear HB;have HB:=n0_;have BK1565:=n1_;have GW1565:=n2_;have GE1565:=n3_;clear n0_ n1_ n2_ n3_;clear hb hbox hg;have hcz9_0:w8.cell? ⟨gb1565,0,none⟩ = some (.int .i64 a0_0):=(blk_cell BK1565.out 0).trans rfl;have hcz9_1:w8.cell? ⟨gb1565,1,none⟩ = some (.slice A0_1 l0_1.length c0_1):=(blk_cell BK1565.out 1).trans rfl;have hfz9_0:=blk_frozen BK1565.out 0;have hfz9_1:=blk_frozen BK1565.out 1)|((with_reducible refine gate_callee (f:=100) rfl ?_);refine goesL_ (some 6) rfl rfl Try.func100 (by kernel_rfl) rfl #[.agg #[.int .i64 a0_0,.slice A0_1 l0_1.length c0_1]] rfl (by (try simp only [List.map_toArray,List.map_cons,List.map_nil]);first|done|rfl|(simp only [List.length_drop,List.length_take];rfl)) ?_;(with_reducible refine (spec_gmGood.calls k a0_0 _ _ l0_1 true _ ?side1 ?side2 A2.out).mono ?_);(case side1=>repeat (first|exact (Kd.C_below HR0_1.out HB.out)|(with_reducible refine Kd.C_alloc ?_ _)|(with_reducible refine Kd.C_drewN ?_ _)|(with_reducible refine Kd.C_drew ?_)));(case side2=>exact HC0_1.out);rintro e w10 ⟨rfl,hb⟩;refine ⟨_,rfl,?_⟩;have n0_:=Aside0.mk (blk_below (g:=gb1565) (o:=.cells #[.int .i64 a0_0,.slice A0_1 l0_1.length c0_1] 57 (0,0)) (by (with_reducible repeat (first|refine blk_drewN ?_ _|refine blk_drew ?_|refine blk_alloc ?_ _));exact BK1565.out) hb);have n1_:=Aside0.mk (below_step (by repeat (first|(with_reducible first|exact HB.out|apply below_alloc|apply pw_below_drewN|apply below_drew1|refine below_set ?_ GE1565.out)|exact HB.out)) hb);clear BK1565;clear HB;have BK1565:=n0_;have HB:=n1_;clear n0_ n1_;(try clear hb);(try clear hb2);(try clear hk);(try clear hi);have hcz11_0:w10.cell? ⟨gb1565,0,none⟩ = some (.int .i64 a0_0):=(blk_cell BK1565.out 0).trans rfl;have hcz11_1:w10.cell? ⟨gb1565,1,none⟩ = some (.slice A0_1 l0_1.length c0_1):=(blk_cell BK1565.out 1).trans rfl;have hfz11_0:=blk_frozen BK1565.out 0;have hfz11_1:=blk_frozen BK1565.out 1)|((with_reducible refine gate_callee (f:=101) rfl ?_);refine goesL_ (some 9) rfl rfl Try.func101 (by kernel_rfl) rfl #[.agg #[.int .i64 a0_0,.slice A0_1 l0_1.length c0_1]] rfl (by (try simp only [List.map_toArray,List.map_cons,List.map_nil]);first|done|rfl|(simp only [List.length_drop,List.length_take];rfl)) ?_;(with_reducible refine (spec_gmAll.calls k a0_0 _ _ l0_1 t1567 _ ?side1 ?side2 A4.out).mono ?_);(case side1=>repeat (first|exact (Kd.C_below HR0_1.out HB.out)|(with_reducible refine Kd.C_alloc ?_ _)|(with_reducible refine Kd.C_drewN ?_ _)|(with_reducible refine Kd.C_drew ?_)));(case side2=>exact HC0_1.out);rintro e w12 ⟨v1568,rfl,ho0,hb⟩;refine ⟨_,rfl,?_⟩;have n0_:=Aside0.mk (Kd.R_lower ho0 (below_size (by repeat (first|(with_reducible first|exact HB.out|apply below_alloc|apply pw_below_drewN|apply below_drew1|refine below_set ?_ GE1565.out)|exact HB.out))));have n1_:=Aside0.mk (blk_below (g:=gb1565) (o:=.cells #[.int .i64 a0_0,.slice A0_1 l0_1.length c0_1] 57 (0,0)) (by (with_reducible repeat (first|refine blk_drewN ?_ _|refine blk_drew ?_|refine blk_alloc ?_ _));exact BK1565.out) hb);have n2_:=Aside0.mk (below_step (by repeat (first|(with_reducible first|exact HB.out|apply below_alloc|apply pw_below_drewN|apply below_drew1|refine below_set ?_ GE1565.out)|exact HB.out)) hb);clear BK1565;clear HB;have HO1569:=n0_;have BK1565:=n1_;have HB:=n2_;clear n0_ n1_ n2_;(try clear hb);(try clear hb2);(try clear hk);(try clear hi);(try clear ho0);have hcz13_0:w12.cell? ⟨gb1565,0,none⟩ = some (.int .i64 a0_0):=(blk_cell BK1565.out 0).trans rfl;have hcz13_1:w12.cell? ⟨gb1565,1,none⟩ = some (.slice A0_1 l0_1.length c0_1):=(blk_cell BK1565.out 1).trans rfl;have hfz13_0:=blk_frozen BK1565.out 0;have hfz13_1:=blk_frozen BK1565.out 1;obtain ⟨Ao14,co14,eo14⟩:=Kd.R_slice HO1569.out;subst eo14)|((with_reducible refine gate_callee (f:=134) rfl ?_);refine goesL_ (some 13) rfl rfl Try.func134 (by kernel_rfl) rfl #[.slice Ao14 t1567.length co14,.int .i64 a0_0] rfl (by (try simp only [List.map_toArray,List.map_cons,List.map_nil]);first|done|rfl|(simp only [List.length_drop,List.length_take];rfl)) ?_;(with_reducible refine (spec_deComplete.calls k _ _ t1567 a0_0 true _ ?side1 ?side2 A5.out).mono ?_);(case side1=>repeat (first|exact (Kd.R_reads' HO1569.out).2.2|(with_reducible refine Kd.C_alloc ?_ _)|(with_reducible refine Kd.C_drewN ?_ _)|(with_reducible refine Kd.C_drew ?_)));(case side2=>exact (Kd.R_reads' HO1569.out).2.1);rintro e w' ⟨rfl,⟨nd,rfl⟩⟩;refine ⟨_,rfl,?_⟩)|((with_reducible refine gate_callee (f:=135) rfl ?_);refine goesL_ (some 18) rfl rfl Try.func135 (by kernel_rfl) rfl #[.slice Ao14 t1567.length co14,.int .i64 a0_0] rfl (by (try simp only [List.map_toArray,List.map_cons,List.map_nil]);first|done|rfl|(simp only [List.length_drop,List.length_take];rfl)) ?_;(with_reducible refine (spec_deOrder.calls k _ _ t1567 a0_0 t1571 _ ?side1 ?side2 A7.out).mono ?_);(case side1=>repeat (first|exact (Kd.R_reads' HO1569.out).2.2|(with_reducible refine Kd.C_alloc ?_ _)|(with_reducible refine Kd.C_drewN ?_ _)|(with_reducible refine Kd.C_drew ?_)));(case side2=>exact (Kd.R_reads' HO1569.out).2.1);rintro e w15 ⟨v1572,rfl,ho0,hb⟩;refine ⟨_,rfl,?_⟩;have n0_:=Aside0.mk (Kd.R_below (by (with_reducible repeat (first|apply Kd.R_alloc|apply Kd.R_drewN|apply Kd.R_drew));exact HO1569.out) hb);have n1_:=Aside0.mk (Kd.R_lower ho0 (below_size (by repeat (first|(with_reducible first|exact HB.out|apply below_alloc|apply pw_below_drewN|apply below_drew1|refine below_set ?_ GE1565.out)|exact HB.out))));have n2_:=Aside0.mk (blk_below (g:=gb1565) (o:=.cells #[.int .i64 a0_0,.slice A0_1 l0_1.length c0_1] 57 (0,0)) (by (with_reducible repeat (first|refine blk_drewN ?_ _|refine blk_drew ?_|refine blk_alloc ?_ _));exact BK1565.out) hb);have n3_:=Aside0.mk (below_step (by repeat (first|(with_reducible first|exact HB.out|apply below_alloc|apply pw_below_drewN|apply below_drew1|refine below_set ?_ GE1565.out)|exact HB.out)) hb);clear HO1569;clear BK1565;clear HB;have HO1569:=n0_;have HO1573:=n1_;have BK1565:=n2_;have HB:=n3_;clear n0_ n1_ n2_ n3_;(try clear hb);(try clear hb2);(try clear hk);(try clear hi);(try clear ho0)))
   go_ret2
   exact ⟨_,by first|rfl|(simp [errW_none,errW_some] <;> rfl)|(simp [*,errW_none,errW_some] <;> rfl),by (with_reducible repeat (first|apply Kd.R_alloc|apply Kd.R_drewN|apply Kd.R_drew));exact HO1573.out,by repeat (first|(with_reducible first|exact HB.out|apply below_alloc|apply pw_below_drewN|apply below_drew1|refine below_set ?_ GE1565.out)|exact HB.out)⟩
  ·replace c6:=Bool.eq_false_iff.mpr c6
   subst c6
   have H1:(some (([]:List Int),false)) = some (r1,r2):=by rw [if_neg (show ¬ (false = true) by decide)] at H;exact H
   clear H
   have H:=H1
   clear H1
   simp only [Option.some.injEq,Prod.mk.injEq] at H
   obtain ⟨rfl,rfl⟩:=H
   go_enter Try.func63,Try.ntmps63
   go_wp2_with (first|((with_reducible refine gate_dst (N:=1) rfl ?_);refine box_event ?hg (N:=1) ?hd (cs:=#[.int .i64 a0_0,.slice A0_1 l0_1.length c0_1]) (t:=57) ?hr ?_;(case hd=>rfl);(case hg=>rfl);(case hr=>first|(go_simp;done)|(go_simp;rfl));intro gb1565 hg w16 hbox hb;have n0_:=Aside0.mk (below_step (by repeat (first|(with_reducible first|exact HB.out|apply below_alloc|apply pw_below_drewN|apply below_drew1)|exact HB.out)) hb);have n1_:=Aside0.mk (hbox);have n2_:=Aside0.mk ((by rw [hg];exact (below_size (by repeat (first|(with_reducible first|exact HB.out|apply below_alloc|apply pw_below_drewN|apply below_drew1)|exact HB.out))):w.heap.size ≤ gb1565));have n3_:=Aside0.mk ((by rw [hg];exact (below_size (by repeat (first|(with_reducible first|exact HB.out|apply below_alloc|apply pw_below_drewN|apply below_drew1)|exact HB.out))):w.heap.size ≤ gb1565));clear HB;have HB:=n0_;have BK1565:=n1_;have GW1565:=n2_;have GE1565:=n3_;clear n0_ n1_ n2_ n3_;clear hb hbox hg;have hcz17_0:w16.cell? ⟨gb1565,0,none⟩ = some (.int .i64 a0_0):=(blk_cell BK1565.out 0).trans rfl;have hcz17_1:w16.cell? ⟨gb1565,1,none⟩ = some (.slice A0_1 l0_1.length c0_1):=(blk_cell BK1565.out 1).trans rfl;have hfz17_0:=blk_frozen BK1565.out 0;have hfz17_1:=blk_frozen BK1565.out 1)|((with_reducible refine gate_callee (f:=100) rfl ?_);refine goesL_ (some 6) rfl rfl Try.func100 (by kernel_rfl) rfl #[.agg #[.int .i64 a0_0,.slice A0_1 l0_1.length c0_1]] rfl (by (try simp only [List.map_toArray,List.map_cons,List.map_nil]);first|done|rfl|(simp only [List.length_drop,List.length_take];rfl)) ?_;(with_reducible refine (spec_gmGood.calls k a0_0 _ _ l0_1 true _ ?side1 ?side2 A2.out).mono ?_);(case side1=>repeat (first|exact (Kd.C_below HR0_1.out HB.out)|(with_reducible refine Kd.C_alloc ?_ _)|(with_reducible refine Kd.C_drewN ?_ _)|(with_reducible refine Kd.C_drew ?_)));(case side2=>exact HC0_1.out);rintro e w18 ⟨rfl,hb⟩;refine ⟨_,rfl,?_⟩;have n0_:=Aside0.mk (blk_below (g:=gb1565) (o:=.cells #[.int .i64 a0_0,.slice A0_1 l0_1.length c0_1] 57 (0,0)) (by (with_reducible repeat (first|refine blk_drewN ?_ _|refine blk_drew ?_|refine blk_alloc ?_ _));exact BK1565.out) hb);have n1_:=Aside0.mk (below_step (by repeat (first|(with_reducible first|exact HB.out|apply below_alloc|apply pw_below_drewN|apply below_drew1|refine below_set ?_ GE1565.out)|exact HB.out)) hb);clear BK1565;clear HB;have BK1565:=n0_;have HB:=n1_;clear n0_ n1_;(try clear hb);(try clear hb2);(try clear hk);(try clear hi);have hcz19_0:w18.cell? ⟨gb1565,0,none⟩ = some (.int .i64 a0_0):=(blk_cell BK1565.out 0).trans rfl;have hcz19_1:w18.cell? ⟨gb1565,1,none⟩ = some (.slice A0_1 l0_1.length c0_1):=(blk_cell BK1565.out 1).trans rfl;have hfz19_0:=blk_frozen BK1565.out 0;have hfz19_1:=blk_frozen BK1565.out 1)|((with_reducible refine gate_callee (f:=101) rfl ?_);refine goesL_ (some 9) rfl rfl Try.func101 (by kernel_rfl) rfl #[.agg #[.int .i64 a0_0,.slice A0_1 l0_1.length c0_1]] rfl (by (try simp only [List.map_toArray,List.map_cons,List.map_nil]);first|done|rfl|(simp only [List.length_drop,List.length_take];rfl)) ?_;(with_reducible refine (spec_gmAll.calls k a0_0 _ _ l0_1 t1567 _ ?side1 ?side2 A4.out).mono ?_);(case side1=>repeat (first|exact (Kd.C_below HR0_1.out HB.out)|(with_reducible refine Kd.C_alloc ?_ _)|(with_reducible refine Kd.C_drewN ?_ _)|(with_reducible refine Kd.C_drew ?_)));(case side2=>exact HC0_1.out);rintro e w20 ⟨v1568,rfl,ho0,hb⟩;refine ⟨_,rfl,?_⟩;have n0_:=Aside0.mk (Kd.R_lower ho0 (below_size (by repeat (first|(with_reducible first|exact HB.out|apply below_alloc|apply pw_below_drewN|apply below_drew1|refine below_set ?_ GE1565.out)|exact HB.out))));have n1_:=Aside0.mk (blk_below (g:=gb1565) (o:=.cells #[.int .i64 a0_0,.slice A0_1 l0_1.length c0_1] 57 (0,0)) (by (with_reducible repeat (first|refine blk_drewN ?_ _|refine blk_drew ?_|refine blk_alloc ?_ _));exact BK1565.out) hb);have n2_:=Aside0.mk (below_step (by repeat (first|(with_reducible first|exact HB.out|apply below_alloc|apply pw_below_drewN|apply below_drew1|refine below_set ?_ GE1565.out)|exact HB.out)) hb);clear BK1565;clear HB;have HO1569:=n0_;have BK1565:=n1_;have HB:=n2_;clear n0_ n1_ n2_;(try clear hb);(try clear hb2);(try clear hk);(try clear hi);(try clear ho0);have hcz21_0:w20.cell? ⟨gb1565,0,none⟩ = some (.int .i64 a0_0):=(blk_cell BK1565.out 0).trans rfl;have hcz21_1:w20.cell? ⟨gb1565,1,none⟩ = some (.slice A0_1 l0_1.length c0_1):=(blk_cell BK1565.out 1).trans rfl;have hfz21_0:=blk_frozen BK1565.out 0;have hfz21_1:=blk_frozen BK1565.out 1;obtain ⟨Ao22,co22,eo22⟩:=Kd.R_slice HO1569.out;subst eo22)|((with_reducible refine gate_callee (f:=134) rfl ?_);refine goesL_ (some 13) rfl rfl Try.func134 (by kernel_rfl) rfl #[.slice Ao22 t1567.length co22,.int .i64 a0_0] rfl (by (try simp only [List.map_toArray,List.map_cons,List.map_nil]);first|done|rfl|(simp only [List.length_drop,List.length_take];rfl)) ?_;(with_reducible refine (spec_deComplete.calls k _ _ t1567 a0_0 false _ ?side1 ?side2 A5.out).mono ?_);(case side1=>repeat (first|exact (Kd.R_reads' HO1569.out).2.2|(with_reducible refine Kd.C_alloc ?_ _)|(with_reducible refine Kd.C_drewN ?_ _)|(with_reducible refine Kd.C_drew ?_)));(case side2=>exact (Kd.R_reads' HO1569.out).2.1);rintro e w' ⟨rfl,⟨nd,rfl⟩⟩;refine ⟨_,rfl,?_⟩))
   go_ret2
   exact ⟨_,by first|rfl|(simp [errW_none,errW_some] <;> rfl)|(simp [*,errW_none,errW_some] <;> rfl),by first|exact Kd.R_nil _ _ _ _ _|exact Kd.N_nil _ _ _ _ _|exact Kd.V_nil _ _ _ _ _|exact Kd.Q_nil _ _ _ _ _|exact Kd.S_nil _ _ _ _ _,by repeat (first|(with_reducible first|exact HB.out|apply below_alloc|apply pw_below_drewN|apply below_drew1|refine below_set ?_ GE1565.out)|exact HB.out)⟩
 ·replace c3:=Bool.eq_false_iff.mpr c3
  subst c3
  have H1:(some (([]:List Int),false)) = some (r1,r2):=by rw [if_neg (show ¬ (false = true) by decide)] at H;exact H
  clear H
  have H:=H1
  clear H1
  simp only [Option.some.injEq,Prod.mk.injEq] at H
  obtain ⟨rfl,rfl⟩:=H
  go_enter Try.func63,Try.ntmps63
  go_wp2_with (first|((with_reducible refine gate_dst (N:=1) rfl ?_);refine box_event ?hg (N:=1) ?hd (cs:=#[.int .i64 a0_0,.slice A0_1 l0_1.length c0_1]) (t:=57) ?hr ?_;(case hd=>rfl);(case hg=>rfl);(case hr=>first|(go_simp;done)|(go_simp;rfl));intro gb1565 hg w23 hbox hb;have n0_:=Aside0.mk (below_step (by repeat (first|(with_reducible first|exact HB.out|apply below_alloc|apply pw_below_drewN|apply below_drew1)|exact HB.out)) hb);have n1_:=Aside0.mk (hbox);have n2_:=Aside0.mk ((by rw [hg];exact (below_size (by repeat (first|(with_reducible first|exact HB.out|apply below_alloc|apply pw_below_drewN|apply below_drew1)|exact HB.out))):w.heap.size ≤ gb1565));have n3_:=Aside0.mk ((by rw [hg];exact (below_size (by repeat (first|(with_reducible first|exact HB.out|apply below_alloc|apply pw_below_drewN|apply below_drew1)|exact HB.out))):w.heap.size ≤ gb1565));clear HB;have HB:=n0_;have BK1565:=n1_;have GW1565:=n2_;have GE1565:=n3_;clear n0_ n1_ n2_ n3_;clear hb hbox hg;have hcz24_0:w23.cell? ⟨gb1565,0,none⟩ = some (.int .i64 a0_0):=(blk_cell BK1565.out 0).trans rfl;have hcz24_1:w23.cell? ⟨gb1565,1,none⟩ = some (.slice A0_1 l0_1.length c0_1):=(blk_cell BK1565.out 1).trans rfl;have hfz24_0:=blk_frozen BK1565.out 0;have hfz24_1:=blk_frozen BK1565.out 1)|((with_reducible refine gate_callee (f:=100) rfl ?_);refine goesL_ (some 6) rfl rfl Try.func100 (by kernel_rfl) rfl #[.agg #[.int .i64 a0_0,.slice A0_1 l0_1.length c0_1]] rfl (by (try simp only [List.map_toArray,List.map_cons,List.map_nil]);first|done|rfl|(simp only [List.length_drop,List.length_take];rfl)) ?_;(with_reducible refine (spec_gmGood.calls k a0_0 _ _ l0_1 false _ ?side1 ?side2 A2.out).mono ?_);(case side1=>repeat (first|exact (Kd.C_below HR0_1.out HB.out)|(with_reducible refine Kd.C_alloc ?_ _)|(with_reducible refine Kd.C_drewN ?_ _)|(with_reducible refine Kd.C_drew ?_)));(case side2=>exact HC0_1.out);rintro e w25 ⟨rfl,hb⟩;refine ⟨_,rfl,?_⟩;have n0_:=Aside0.mk (blk_below (g:=gb1565) (o:=.cells #[.int .i64 a0_0,.slice A0_1 l0_1.length c0_1] 57 (0,0)) (by (with_reducible repeat (first|refine blk_drewN ?_ _|refine blk_drew ?_|refine blk_alloc ?_ _));exact BK1565.out) hb);have n1_:=Aside0.mk (below_step (by repeat (first|(with_reducible first|exact HB.out|apply below_alloc|apply pw_below_drewN|apply below_drew1|refine below_set ?_ GE1565.out)|exact HB.out)) hb);clear BK1565;clear HB;have BK1565:=n0_;have HB:=n1_;clear n0_ n1_;(try clear hb);(try clear hb2);(try clear hk);(try clear hi)))
  go_ret2
  exact ⟨_,by first|rfl|(simp [errW_none,errW_some] <;> rfl)|(simp [*,errW_none,errW_some] <;> rfl),by first|exact Kd.R_nil _ _ _ _ _|exact Kd.N_nil _ _ _ _ _|exact Kd.V_nil _ _ _ _ _|exact Kd.Q_nil _ _ _ _ _|exact Kd.S_nil _ _ _ _ _,by repeat (first|(with_reducible first|exact HB.out|apply below_alloc|apply pw_below_drewN|apply below_drew1|refine below_set ?_ GE1565.out)|exact HB.out)⟩


/-! ### impl_members: function 86 -/
def impl_members.l0:Nat → (Int → Option (Bool)) → List Int → Int → Int → Option (List Int)
 | 0,_,_,_,_=>none
 | k + 1,x1,x5,x8,x9=>if x9 < x8 then ((x1 x9).bind fun t490=>(if t490 = true then (if x5.length < 17592186044416 then (impl_members.l0 k x1 (x5 ++ [x9]) x8 (wrap64 (x9 + 1))) else (none)) else (impl_members.l0 k x1 x5 x8 (wrap64 (x9 + 1))))) else (some x5)
def impl_members.f (k:Nat) (a0:Int) (a1:(Int → Option (Bool))):Option (List Int):=impl_members.l0 k a1 (([]:List Int)) a0 0
theorem impl_members.mono_l:∀ k,(∀ y0 y1 y2 y3,LeO (impl_members.l0 k y0 y1 y2 y3) (impl_members.l0 (k + 1) y0 y1 y2 y3))
 | 0=>fun _ _ _ _ r h=>by simp [impl_members.l0] at h
 | k + 1=>by
  have ih0:=impl_members.mono_l k
  ·intro y0 y1 y2 y3
   unfold impl_members.l0
   repeat' first
   | (with_reducible exact ih0 _ _ _ _)
   | (with_reducible exact LeO.refl _)
   | (with_reducible exact LeO.none _)
   | (with_reducible refine LeO.ite ?_ ?_)
   | (with_reducible refine LeO.bind ?_ (fun _=>?_))
   | exact ih0 _ _ _ _
   | exact LeO.none _
   | refine LeO.ite ?_ ?_
   | refine LeO.bind ?_ (fun _=>?_)
theorem impl_members.mono:∀ a0 a1 k,LeO (impl_members.f k a0 a1) (impl_members.f (k + 1) a0 a1):=by
 intro a0 a1 k
 have ih0:=impl_members.mono_l k
 unfold impl_members.f
 repeat' first
   | (with_reducible exact ih0 _ _ _ _)
   | (with_reducible exact LeO.refl _)
   | (with_reducible exact LeO.none _)
   | (with_reducible refine LeO.ite ?_ ?_)
   | (with_reducible refine LeO.bind ?_ (fun _=>?_))
   | exact ih0 _ _ _ _
   | exact LeO.none _
   | refine LeO.ite ?_ ?_
   | refine LeO.bind ?_ (fun _=>?_)
theorem impl_members.monop_l {p_ q_:(Int → Option (Bool))} (h_:∀ x0_,LeO (p_ x0_) (q_ x0_)):∀ k,(∀ y1 y2 y3,LeO (impl_members.l0 k p_ y1 y2 y3) (impl_members.l0 k q_ y1 y2 y3))
 | 0=>fun _ _ _ r hz=>by simp [impl_members.l0] at hz
 | k + 1=>by
  have ih0:=impl_members.monop_l h_ k
  ·intro y0 y1 y2
   unfold impl_members.l0
   repeat' first
   | (with_reducible exact ih0 _ _ _)
   | (with_reducible exact h_ _)
   | (with_reducible exact LeO.refl _)
   | (with_reducible refine LeO.ite ?_ ?_)
   | (with_reducible refine LeO.bind ?_ (fun _=>?_))
   | exact ih0 _ _ _
   | exact h_ _
   | exact LeO.refl _
   | refine LeO.ite ?_ ?_
   | refine LeO.bind ?_ (fun _=>?_)
theorem impl_members.mono_p {p_ q_:(Int → Option (Bool))} (h_:∀ x0_,LeO (p_ x0_) (q_ x0_)):∀ a0 k,LeO (impl_members.f k a0 p_) (impl_members.f k a0 q_):=by
 intro a0 k
 have ih0:=impl_members.monop_l h_ k
 unfold impl_members.f
 repeat' first
   | (with_reducible exact ih0 _ _ _)
   | (with_reducible exact h_ _)
   | (with_reducible exact LeO.refl _)
   | (with_reducible refine LeO.ite ?_ ?_)
   | (with_reducible refine LeO.bind ?_ (fun _=>?_))
   | exact ih0 _ _ _
   | exact h_ _
   | exact LeO.refl _
   | refine LeO.ite ?_ ?_
   | refine LeO.bind ?_ (fun _=>?_)
set_option maxHeartbeats 8000000 in
set_option maxRecDepth 100000 in
theorem impl_members.calls (k:Nat) (a0:Int) (a1:(Int → Option (Bool))) (g1_:Nat) (lb1_:Array Value) (eg1_:∀ (args:Array Value) (w:World),(callFunc g1_ args).run Try.prog w = .ok (.enter g1_ args) w) (r:List Int) (w:World) (hp1:∀ (W:World) (b0_:Int) (r0_:Bool),a1 b0_ = some r0_ → Below w.heap.size w W → Calls Try.prog g1_ (#[.int .i64 b0_] ++ lb1_) W fun e w'=>e = .returned (.bool r0_) ∧ Below W.heap.size W w') (h:impl_members.f k a0 a1 = some r) :
  Calls Try.prog 86 #[.int .i64 a0,.func (.func g1_) #[] lb1_] w fun e w'=>∃ v0_:Value,e = .returned (v0_) ∧ Kd.R (Kd.int .i64) 3 w' w.heap.size (fun _=>True) v0_ r ∧ Below w.heap.size w w':=by
 have HP1:=Aside0.mk hp1
 clear hp1
 have HB:=Aside0.mk (Below.refl w.heap.size w)
 have H:(impl_members.l0 k a1 (([]:List Int)) a0 0) = some r:=h
 clear h
 obtain ⟨y487,hy487⟩:∃ y_:List Int,y_ = (([]:List Int)):=⟨_,rfl⟩
 replace H:(impl_members.l0 k a1 y487 a0 0) = some r:=by first|(rw [hy487];with_reducible exact H)|(have H2_:=(Option.bind_some _ _).symm.trans H;rw [hy487];with_reducible exact H2_)|(have H2_:=(Option.bind_some _ _).symm.trans H;with_reducible exact H2_)|with_reducible exact H|(rw [hy487];exact H)|exact H
 have Ny487:=Aside0.mk hy487
 clear hy487
 have H':=Aside0.mk H
 clear H
 go_enter Try.func86,Try.ntmps86
 go_wp2_with (first|((with_reducible refine gate_dst (N:=7) rfl ?_);refine Kd.R_lit (Kd.int .i64) _ 3 ?hg (N:=7) ?hd (xs:=([]:List Int)) (inner:=[]) (ok:=fun _=>True) (okp:=fun _=>True) ?hr ?hp (fun _ hk=>hk) trivial (Below.refl _ _) (Nat.le_refl _) (by simp) ?_;(case hd=>rfl);(case hg=>rfl);(case hr=>first|(go_simp;done)|(go_simp;rfl));(case hp=>exact (Reps.none _ _));intro v488 w3 ho4 hb hg_ hnew_;clear hg_ hnew_;(first|rw [← Ny487.out] at ho4|(simp only [Int.reduceToNat] at ho4;rw [← Ny487.out] at ho4));have n0_:=Aside0.mk (Kd.R_lower ho4 (below_size (by repeat (first|(with_reducible first|exact HB.out|apply below_alloc|apply pw_below_drewN|apply below_drew1)|exact HB.out))));have n1_:=Aside0.mk (below_step (by repeat (first|(with_reducible first|exact HB.out|apply below_alloc|apply pw_below_drewN|apply below_drew1)|exact HB.out)) hb);clear HB;have HO489:=n0_;have HB:=n1_;clear n0_ n1_;clear hb ho4))
 go_loopg [5,9] k (fun kq v5 v9 w'=>∃ (x5_1:List Int) (x9_1:Int),v9 = .int .i64 x9_1 ∧ Aside0 (impl_members.l0 kq a1 x5_1 a0 x9_1 = some r) ∧ Aside0 (kq ≤ k) ∧ Aside0 (Kd.R (Kd.int .i64) 3 w' w.heap.size (fun _=>True) v5 x5_1) ∧ Aside0 (Below w.heap.size w w'))
 case atStart=>exact ⟨(y487),(0),(by first|rfl|(simp;done)|(simp [*];done)),H',⟨Nat.le_refl _⟩,⟨by (with_reducible repeat (first|apply Kd.R_alloc|apply Kd.R_drewN|apply Kd.R_drew));exact HO489.out⟩,⟨by repeat (first|(with_reducible first|exact HB.out|apply below_alloc|apply pw_below_drewN|apply below_drew1)|exact HB.out)⟩⟩
 case round =>
  clear H'
  try clear p1
  try clear p2
  obtain ⟨x5_1,x9_1,rfl,HA,HK1,HO_5,HB⟩:=hrel
  cases gk with
  | zero=>exact absurd HA.out (by simp [impl_members.l0])
  | succ k1 =>
   have H:=HA.out
   clear HA
   simp only [impl_members.l0] at H
   by_cases c5:x9_1 < a0
   ·rw [if_pos c5] at H
    have c5b0:decide (x9_1 < a0) = true:=decide_eq_true c5
    clear c5
    replace H:=Option.bind_eq_some_iff.mp H
    obtain ⟨t490,A60,H⟩:=H
    replace H:(if t490 = true then (if x5_1.length < 17592186044416 then (impl_members.l0 k1 a1 (x5_1 ++ [x9_1]) a0 (wrap64 (x9_1 + 1))) else (none)) else (impl_members.l0 k1 a1 x5_1 a0 (wrap64 (x9_1 + 1)))) = some r:=H
    have A6:=Aside0.mk A60
    clear A60
    by_cases c7:t490 = true
    ·subst c7
     have H1:(if x5_1.length < 17592186044416 then (impl_members.l0 k1 a1 (x5_1 ++ [x9_1]) a0 (wrap64 (x9_1 + 1))) else (none)) = some r:=by rw [if_pos rfl] at H;exact H
     clear H
     have H:=H1
     clear H1
     by_cases c8:x5_1.length < 17592186044416
     ·rw [if_pos c8] at H
      have LMc8:=Aside0.mk c8
      clear c8
      obtain ⟨y491,hy491⟩:∃ y_:List Int,y_ = (x5_1 ++ [x9_1]):=⟨_,rfl⟩
      replace H:(impl_members.l0 k1 a1 y491 a0 (wrap64 (x9_1 + 1))) = some r:=by first|(rw [hy491];with_reducible exact H)|(have H2_:=(Option.bind_some _ _).symm.trans H;rw [hy491];with_reducible exact H2_)|(have H2_:=(Option.bind_some _ _).symm.trans H;with_reducible exact H2_)|with_reducible exact H|(rw [hy491];exact H)|exact H
      have Ny491:=Aside0.mk hy491
      clear hy491
      have H':=Aside0.mk H
      clear H
      go_wp2_with (first|((with_reducible refine gate_fn (t:=12) rfl ?_);refine goesFL_ (some 14) rfl rfl eg1_ #[.int .i64 x9_1] rfl rfl (by (try simp only [List.map_toArray,List.map_cons,List.map_nil]);first|done|rfl|(simp only [List.length_drop,List.length_take];rfl)) ?_;(with_reducible refine (HP1.out _ x9_1 true A6.out ?side1).mono ?_);(case side1=>repeat (first|(with_reducible first|exact HB.out|apply below_alloc|apply pw_below_drewN|apply below_drew1)|exact HB.out));rintro e w9 ⟨rfl,hb⟩;refine ⟨_,rfl,?_⟩;have n0_:=Aside0.mk (Kd.R_below (by (with_reducible repeat (first|apply Kd.R_alloc|apply Kd.R_drewN|apply Kd.R_drew));exact HO_5.out) hb);have n1_:=Aside0.mk (below_step (by repeat (first|(with_reducible first|exact HB.out|apply below_alloc|apply pw_below_drewN|apply below_drew1)|exact HB.out)) hb);clear HO_5;clear HB;have HO_5:=n0_;have HB:=n1_;clear n0_ n1_;(try clear hb);(try clear hb2);(try clear hk);(try clear hi))|((with_reducible refine gate_builtin (b:=.append) (xs:=#[.tmp 15,.tmp 17]) rfl ?_);at_builtin;refine Kd.R_append (Kd.int .i64) (w0:=w) w.heap.size rfl (.tmp 15) (.tmp 17) 22 3 (.int .i64 0) 8 rfl Try.underlying22 info3 rfl (by decide) (by omega) u5 x5_1 x9_1 [.int .i64 x9_1] (fun _=>True) (fun _=>False) rfl rfl ?aP (fun _ hk=>hk.elim) ?aF ?aO ?aB ?aS ?aL ?_;(case aP=>exact rfl);(case aB=>exact (by repeat (first|(with_reducible first|exact HB.out|apply below_alloc|apply pw_below_drewN|apply below_drew1)|exact HB.out)));(case aF=>exact (fun _ _=>trivial));(case aO=>exact (by (with_reducible repeat (first|apply Kd.R_alloc|apply Kd.R_drewN|apply Kd.R_drew));exact HO_5.out));(case aS=>exact (below_size (by repeat (first|(with_reducible first|exact HB.out|apply below_alloc|apply pw_below_drewN|apply below_drew1)|exact HB.out))));(case aL=>have:=LMc8.out;omega);intro v492 w10 ho hb hg hat;rw [← Ny491.out] at ho;have n0_:=Aside0.mk (hb);have n1_:=Aside0.mk (ho);clear HB;clear HO_5;have HB:=n0_;have HO493:=n1_;clear n0_ n1_;clear ho hb hg hat))
      go_roundg k1
      case measure=>have:=HK1.out;omega
      case rel=>exact ⟨(y491),(wrap64 (x9_1 + 1)),(by first|rfl|(simp;done)|(simp [*];done)),H',⟨by have:=HK1.out;omega⟩,⟨by (with_reducible repeat (first|apply Kd.R_alloc|apply Kd.R_drewN|apply Kd.R_drew));exact HO493.out⟩,⟨by repeat (first|(with_reducible first|exact HB.out|apply below_alloc|apply pw_below_drewN|apply below_drew1)|exact HB.out)⟩⟩
     ·rw [if_neg c8] at H
      exact absurd H (by simp)
    ·replace c7:=Bool.eq_false_iff.mpr c7
     subst c7
     have H1:(impl_members.l0 k1 a1 x5_1 a0 (wrap64 (x9_1 + 1))) = some r:=by rw [if_neg (show ¬ (false = true) by decide)] at H;exact H
     clear H
     have H:=H1
     clear H1
     have H':=Aside0.mk H
     clear H
     go_wp2_with (first|((with_reducible refine gate_fn (t:=12) rfl ?_);refine goesFL_ (some 14) rfl rfl eg1_ #[.int .i64 x9_1] rfl rfl (by (try simp only [List.map_toArray,List.map_cons,List.map_nil]);first|done|rfl|(simp only [List.length_drop,List.length_take];rfl)) ?_;(with_reducible refine (HP1.out _ x9_1 false A6.out ?side1).mono ?_);(case side1=>repeat (first|(with_reducible first|exact HB.out|apply below_alloc|apply pw_below_drewN|apply below_drew1)|exact HB.out));rintro e w11 ⟨rfl,hb⟩;refine ⟨_,rfl,?_⟩;have n0_:=Aside0.mk (Kd.R_below (by (with_reducible repeat (first|apply Kd.R_alloc|apply Kd.R_drewN|apply Kd.R_drew));exact HO_5.out) hb);have n1_:=Aside0.mk (below_step (by repeat (first|(with_reducible first|exact HB.out|apply below_alloc|apply pw_below_drewN|apply below_drew1)|exact HB.out)) hb);clear HO_5;clear HB;have HO_5:=n0_;have HB:=n1_;clear n0_ n1_;(try clear hb);(try clear hb2);(try clear hk);(try clear hi)))
     go_roundg k1
     case measure=>have:=HK1.out;omega
     case rel=>exact ⟨(x5_1),(wrap64 (x9_1 + 1)),(by first|rfl|(simp;done)|(simp [*];done)),H',⟨by have:=HK1.out;omega⟩,⟨by (with_reducible repeat (first|apply Kd.R_alloc|apply Kd.R_drewN|apply Kd.R_drew));exact HO_5.out⟩,⟨by repeat (first|(with_reducible first|exact HB.out|apply below_alloc|apply pw_below_drewN|apply below_drew1)|exact HB.out)⟩⟩
   ·rw [if_neg c5] at H
    have c5b0:decide (x9_1 < a0) = false:=decide_eq_false c5
    clear c5
    obtain rfl:=Option.some.inj H
    go_wp2
    go_ret
    exact ⟨_,by first|rfl|(simp [errW_none,errW_some] <;> rfl)|(simp [*,errW_none,errW_some] <;> rfl),by (with_reducible repeat (first|apply Kd.R_alloc|apply Kd.R_drewN|apply Kd.R_drew));exact HO_5.out,by repeat (first|(with_reducible first|exact HB.out|apply below_alloc|apply pw_below_drewN|apply below_drew1)|exact HB.out)⟩


/-! ### impl_within: function 69 -/
def impl_within.f (a0:Int) (a1:Int) (a2:Int):Option (Bool):=if a0 ≥ a1 then (some (decide (a0 ≤ a2))) else (some false)
set_option maxHeartbeats 8000000 in
set_option maxRecDepth 100000 in
theorem impl_within.calls (a0:Int) (a1:Int) (a2:Int) (r:Bool) (w:World) (h:impl_within.f a0 a1 a2 = some r) :
  Calls Try.prog 69 #[.int .i64 a0,.int .i64 a1,.int .i64 a2] w fun e w'=>e = .returned (.bool r) ∧ Drawn0 w w':=by
 have H:(if a0 ≥ a1 then (some (decide (a0 ≤ a2))) else (some false)) = some r:=h
 clear h
 by_cases c4:a0 ≥ a1
 ·rw [if_pos c4] at H
  have c4b0:decide (a1 ≤ a0) = true:=decide_eq_true c4
  clear c4
  obtain rfl:=Option.some.inj H
  go_enter Try.func69,Try.ntmps69
  go_wp2
  go_ret
  exact ⟨by first|rfl|(simp;done)|(simp [*];done),by repeat (first|exact Drawn0.refl _|apply Drawn0.step)⟩
 ·rw [if_neg c4] at H
  have c4b0:decide (a1 ≤ a0) = false:=decide_eq_false c4
  clear c4
  obtain rfl:=Option.some.inj H
  go_enter Try.func69,Try.ntmps69
  go_wp2
  go_ret
  exact ⟨by first|rfl|(simp;done)|(simp [*];done),by repeat (first|exact Drawn0.refl _|apply Drawn0.step)⟩


/-! ### slices_IndexFunc_LLint_int: function 210 -/
def slices_IndexFunc_LLint_int.l0:Nat → List (List Int) → (List Int → Option (Bool)) → Int → Int → Option (Int)
 | 0,_,_,_,_=>none
 | k + 1,x0,x1,x7,x8=>if x8 < x7 then (if 0 ≤ x8 then (if x8 < (x0.length:Int) then ((x1 (rd_LI x0 x8)).bind fun t732=>(if t732 = true then (some x8) else (slices_IndexFunc_LLint_int.l0 k x0 x1 x7 (wrap64 (x8 + 1))))) else (none)) else (none)) else (some (-1))
def slices_IndexFunc_LLint_int.f (k:Nat) (l0:List (List Int)) (a1:(List Int → Option (Bool))):Option (Int):=slices_IndexFunc_LLint_int.l0 k l0 a1 (l0.length:Int) 0
theorem slices_IndexFunc_LLint_int.mono_l:∀ k,(∀ y0 y1 y2 y3,LeO (slices_IndexFunc_LLint_int.l0 k y0 y1 y2 y3) (slices_IndexFunc_LLint_int.l0 (k + 1) y0 y1 y2 y3))
 | 0=>fun _ _ _ _ r h=>by simp [slices_IndexFunc_LLint_int.l0] at h
 | k + 1=>by
  have ih0:=slices_IndexFunc_LLint_int.mono_l k
  ·intro y0 y1 y2 y3
   unfold slices_IndexFunc_LLint_int.l0
   repeat' first
   | (with_reducible exact ih0 _ _ _ _)
   | (with_reducible exact LeO.refl _)
   | (with_reducible exact LeO.none _)
   | (with_reducible refine LeO.ite ?_ ?_)
   | (with_reducible refine LeO.bind ?_ (fun _=>?_))
   | exact ih0 _ _ _ _
   | exact LeO.none _
   | refine LeO.ite ?_ ?_
   | refine LeO.bind ?_ (fun _=>?_)
theorem slices_IndexFunc_LLint_int.mono:∀ a0 a1 k,LeO (slices_IndexFunc_LLint_int.f k a0 a1) (slices_IndexFunc_LLint_int.f (k + 1) a0 a1):=by
 intro a0 a1 k
 have ih0:=slices_IndexFunc_LLint_int.mono_l k
 unfold slices_IndexFunc_LLint_int.f
 repeat' first
   | (with_reducible exact ih0 _ _ _ _)
   | (with_reducible exact LeO.refl _)
   | (with_reducible exact LeO.none _)
   | (with_reducible refine LeO.ite ?_ ?_)
   | (with_reducible refine LeO.bind ?_ (fun _=>?_))
   | exact ih0 _ _ _ _
   | exact LeO.none _
   | refine LeO.ite ?_ ?_
   | refine LeO.bind ?_ (fun _=>?_)
theorem slices_IndexFunc_LLint_int.monop_l {p_ q_:(List Int → Option (Bool))} (h_:∀ x0_,LeO (p_ x0_) (q_ x0_)):∀ k,(∀ y0 y2 y3,LeO (slices_IndexFunc_LLint_int.l0 k y0 p_ y2 y3) (slices_IndexFunc_LLint_int.l0 k y0 q_ y2 y3))
 | 0=>fun _ _ _ r hz=>by simp [slices_IndexFunc_LLint_int.l0] at hz
 | k + 1=>by
  have ih0:=slices_IndexFunc_LLint_int.monop_l h_ k
  ·intro y0 y1 y2
   unfold slices_IndexFunc_LLint_int.l0
   repeat' first
   | (with_reducible exact ih0 _ _ _)
   | (with_reducible exact h_ _)
   | (with_reducible exact LeO.refl _)
   | (with_reducible refine LeO.ite ?_ ?_)
   | (with_reducible refine LeO.bind ?_ (fun _=>?_))
   | exact ih0 _ _ _
   | exact h_ _
   | exact LeO.refl _
   | refine LeO.ite ?_ ?_
   | refine LeO.bind ?_ (fun _=>?_)
theorem slices_IndexFunc_LLint_int.mono_p {p_ q_:(List Int → Option (Bool))} (h_:∀ x0_,LeO (p_ x0_) (q_ x0_)):∀ a0 k,LeO (slices_IndexFunc_LLint_int.f k a0 p_) (slices_IndexFunc_LLint_int.f k a0 q_):=by
 intro a0 k
 have ih0:=slices_IndexFunc_LLint_int.monop_l h_ k
 unfold slices_IndexFunc_LLint_int.f
 repeat' first
   | (with_reducible exact ih0 _ _ _)
   | (with_reducible exact h_ _)
   | (with_reducible exact LeO.refl _)
   | (with_reducible refine LeO.ite ?_ ?_)
   | (with_reducible refine LeO.bind ?_ (fun _=>?_))
   | exact ih0 _ _ _
   | exact h_ _
   | exact LeO.refl _
   | refine LeO.ite ?_ ?_
   | refine LeO.bind ?_ (fun _=>?_)
set_option maxHeartbeats 8000000 in
set_option maxRecDepth 100000 in
theorem slices_IndexFunc_LLint_int.calls (k:Nat) (A0:Option Addr) (c0:Nat) (l0:List (List Int)) (a1:(List Int → Option (Bool))) (g1_:Nat) (lb1_:Array Value) (eg1_:∀ (args:Array Value) (w:World),(callFunc g1_ args).run Try.prog w = .ok (.enter g1_ args) w) (r:Int) (w:World) (hr0:Kd.C (Kd.slice 3 (Kd.int .i64)) w A0 l0.length l0) (hc0:l0.length ≤ c0) (hp1:∀ (W:World) (A0_:Option Addr) (c0_:Nat) (l0_:List Int) (r0_:Bool),a1 l0_ = some r0_ → Below w.heap.size w W → Kd.C (Kd.int .i64) W A0_ l0_.length l0_ → l0_.length ≤ c0_ → Calls Try.prog g1_ (#[.slice A0_ l0_.length c0_] ++ lb1_) W fun e w'=>e = .returned (.bool r0_) ∧ Below W.heap.size W w') (h:slices_IndexFunc_LLint_int.f k l0 a1 = some r) :
  Calls Try.prog 210 #[.slice A0 l0.length c0,.func (.func g1_) #[] lb1_] w fun e w'=>e = .returned (.int .i64 r) ∧ Below w.heap.size w w':=by
 have HR0:=Aside0.mk hr0
 have HC0:=Aside0.mk hc0
 clear hr0 hc0
 have HP1:=Aside0.mk hp1
 clear hp1
 have HB:=Aside0.mk (Below.refl w.heap.size w)
 have H:(slices_IndexFunc_LLint_int.l0 k l0 a1 (l0.length:Int) 0) = some r:=h
 clear h
 have H':=Aside0.mk H
 clear H
 go_enter Try.func210,Try.ntmps210
 go_wp2
 go_loopg [8] k (fun kq v8 w'=>∃ (x8_1:Int),v8 = .int .i64 x8_1 ∧ Aside0 (slices_IndexFunc_LLint_int.l0 kq l0 a1 (l0.length:Int) x8_1 = some r) ∧ Aside0 (kq ≤ k) ∧ Aside0 (Below w.heap.size w w'))
 case atStart=>exact ⟨(0),(by first|rfl|(simp;done)|(simp [*];done)),H',⟨Nat.le_refl _⟩,⟨by repeat (first|(with_reducible first|exact HB.out|apply below_alloc|apply pw_below_drewN|apply below_drew1)|exact HB.out)⟩⟩
 case round =>
  clear H'
  try clear p1
  try clear c2
  try clear p2
  obtain ⟨x8_1,rfl,HA,HK1,HB⟩:=hrel
  cases gk with
  | zero=>exact absurd HA.out (by simp [slices_IndexFunc_LLint_int.l0])
  | succ k1 =>
   have H:=HA.out
   clear HA
   simp only [slices_IndexFunc_LLint_int.l0] at H
   by_cases c3:x8_1 < (l0.length:Int)
   ·rw [if_pos c3] at H
    have c3b0:decide (x8_1 < (l0.length:Int)) = true:=decide_eq_true c3
    clear c3
    by_cases c4:0 ≤ x8_1
    ·rw [if_pos c4] at H
     have c4b0:decide (0 ≤ x8_1) = true:=decide_eq_true c4
     clear c4
     by_cases c5:x8_1 < (l0.length:Int)
     ·rw [if_pos c5] at H
      have c5b0:decide (x8_1 < (l0.length:Int)) = true:=decide_eq_true c5
      clear c5
      replace H:=Option.bind_eq_some_iff.mp H
      obtain ⟨t732,A60,H⟩:=H
      replace H:(if t732 = true then (some x8_1) else (slices_IndexFunc_LLint_int.l0 k1 l0 a1 (l0.length:Int) (wrap64 (x8_1 + 1)))) = some r:=H
      have A6:=Aside0.mk A60
      clear A60
      by_cases c7:t732 = true
      ·subst c7
       have H1:(some x8_1) = some r:=by rw [if_pos rfl] at H;exact H
       clear H
       have H:=H1
       clear H1
       obtain rfl:=Option.some.inj H
       have p731:0 ≤ (x8_1:Int):=of_decide_eq_true (by first|(with_reducible assumption)|assumption)
       have q731:x8_1 < (l0.length:Int):=of_decide_eq_true (by first|(with_reducible assumption)|assumption)
       obtain ⟨ad731,A731_0,c731_0,e731,hx731_0,hl731_0,hi731_0⟩:=at_LI HR0.out x8_1 p731 q731
       cases e731
       replace hx731_0:=(HB.out.cell (World.block_lt_of_cell? w _ hx731_0)).trans hx731_0
       have HR731_0:=Aside0.mk hi731_0
       have HC731_0:=Aside0.mk hl731_0
       clear hi731_0 hl731_0
       replace p731:=eq_true p731
       replace q731:=eq_true q731
       go_wp2_with (first|((with_reducible refine gate_fn (t:=11) rfl ?_);refine goesFL_ (some 16) rfl rfl eg1_ #[.slice A731_0 (rd_LI l0 x8_1).length c731_0] rfl rfl (by (try simp only [List.map_toArray,List.map_cons,List.map_nil]);first|done|rfl|(simp only [List.length_drop,List.length_take];rfl)) ?_;(with_reducible refine (HP1.out _ _ _ (rd_LI l0 x8_1) true A6.out ?side1 ?side2 ?side3).mono ?_);(case side1=>repeat (first|(with_reducible first|exact HB.out|apply below_alloc|apply pw_below_drewN|apply below_drew1)|exact HB.out));(case side2=>repeat (first|exact (Kd.C_below HR731_0.out HB.out)|(with_reducible refine Kd.C_alloc ?_ _)|(with_reducible refine Kd.C_drewN ?_ _)|(with_reducible refine Kd.C_drew ?_)));(case side3=>exact HC731_0.out);rintro e w8 ⟨rfl,hb⟩;refine ⟨_,rfl,?_⟩;have n0_:=Aside0.mk (below_step (by repeat (first|(with_reducible first|exact HB.out|apply below_alloc|apply pw_below_drewN|apply below_drew1)|exact HB.out)) hb);clear HB;have HB:=n0_;clear n0_;(try clear hb);(try clear hb2);(try clear hk);(try clear hi)))
       go_ret
       exact ⟨by first|rfl|(simp [errW_none,errW_some] <;> rfl)|(simp [*,errW_none,errW_some] <;> rfl),by repeat (first|(with_reducible first|exact HB.out|apply below_alloc|apply pw_below_drewN|apply below_drew1)|exact HB.out)⟩
      ·replace c7:=Bool.eq_false_iff.mpr c7
       subst c7
       have H1:(slices_IndexFunc_LLint_int.l0 k1 l0 a1 (l0.length:Int) (wrap64 (x8_1 + 1))) = some r:=by rw [if_neg (show ¬ (false = true) by decide)] at H;exact H
       clear H
       have H:=H1
       clear H1
       have H':=Aside0.mk H
       clear H
       have p731:0 ≤ (x8_1:Int):=of_decide_eq_true (by first|(with_reducible assumption)|assumption)
       have q731:x8_1 < (l0.length:Int):=of_decide_eq_true (by first|(with_reducible assumption)|assumption)
       obtain ⟨ad731,A731_0,c731_0,e731,hx731_0,hl731_0,hi731_0⟩:=at_LI HR0.out x8_1 p731 q731
       cases e731
       replace hx731_0:=(HB.out.cell (World.block_lt_of_cell? w _ hx731_0)).trans hx731_0
       have HR731_0:=Aside0.mk hi731_0
       have HC731_0:=Aside0.mk hl731_0
       clear hi731_0 hl731_0
       replace p731:=eq_true p731
       replace q731:=eq_true q731
       go_wp2_with (first|((with_reducible refine gate_fn (t:=11) rfl ?_);refine goesFL_ (some 16) rfl rfl eg1_ #[.slice A731_0 (rd_LI l0 x8_1).length c731_0] rfl rfl (by (try simp only [List.map_toArray,List.map_cons,List.map_nil]);first|done|rfl|(simp only [List.length_drop,List.length_take];rfl)) ?_;(with_reducible refine (HP1.out _ _ _ (rd_LI l0 x8_1) false A6.out ?side1 ?side2 ?side3).mono ?_);(case side1=>repeat (first|(with_reducible first|exact HB.out|apply below_alloc|apply pw_below_drewN|apply below_drew1)|exact HB.out));(case side2=>repeat (first|exact (Kd.C_below HR731_0.out HB.out)|(with_reducible refine Kd.C_alloc ?_ _)|(with_reducible refine Kd.C_drewN ?_ _)|(with_reducible refine Kd.C_drew ?_)));(case side3=>exact HC731_0.out);rintro e w9 ⟨rfl,hb⟩;refine ⟨_,rfl,?_⟩;have n0_:=Aside0.mk (below_step (by repeat (first|(with_reducible first|exact HB.out|apply below_alloc|apply pw_below_drewN|apply below_drew1)|exact HB.out)) hb);clear HB;have HB:=n0_;clear n0_;(try clear hb);(try clear hb2);(try clear hk);(try clear hi)))
       go_roundg k1
       case measure=>have:=HK1.out;omega
       case rel=>exact ⟨(wrap64 (x8_1 + 1)),(by first|rfl|(simp;done)|(simp [*];done)),H',⟨by have:=HK1.out;omega⟩,⟨by repeat (first|(with_reducible first|exact HB.out|apply below_alloc|apply pw_below_drewN|apply below_drew1)|exact HB.out)⟩⟩
     ·rw [if_neg c5] at H
      exact absurd H (by simp)
    ·rw [if_neg c4] at H
     exact absurd H (by simp)
   ·rw [if_neg c3] at H
    have c3b0:decide (x8_1 < (l0.length:Int)) = false:=decide_eq_false c3
    clear c3
    obtain rfl:=Option.some.inj H
    go_wp2
    go_ret
    exact ⟨by first|rfl|(simp [errW_none,errW_some] <;> rfl)|(simp [*,errW_none,errW_some] <;> rfl),by repeat (first|(with_reducible first|exact HB.out|apply below_alloc|apply pw_below_drewN|apply below_drew1)|exact HB.out)⟩


/-! ### slices_ContainsFunc_LLint_int: function 195 -/
def slices_ContainsFunc_LLint_int.f (k:Nat) (l0:List (List Int)) (a1:(List Int → Option (Bool))):Option (Bool):=(slices_IndexFunc_LLint_int.f k l0 a1).bind fun t733=>(some (decide (t733 ≥ 0)))
theorem slices_ContainsFunc_LLint_int.mono:∀ a0 a1 k,LeO (slices_ContainsFunc_LLint_int.f k a0 a1) (slices_ContainsFunc_LLint_int.f (k + 1) a0 a1):=by
 intro a0 a1 k
 unfold slices_ContainsFunc_LLint_int.f
 repeat' first
   | (with_reducible exact slices_IndexFunc_LLint_int.mono _ _ _)
   | (with_reducible exact LeO.refl _)
   | (with_reducible exact LeO.none _)
   | (with_reducible refine LeO.trans (slices_IndexFunc_LLint_int.mono _ _ _) (slices_IndexFunc_LLint_int.mono_p (fun _=>?_) _ _))
   | (with_reducible refine LeO.ite ?_ ?_)
   | (with_reducible refine LeO.bind ?_ (fun _=>?_))
   | exact slices_IndexFunc_LLint_int.mono _ _ _
   | exact LeO.none _
   | refine LeO.ite ?_ ?_
   | refine LeO.bind ?_ (fun _=>?_)
theorem slices_ContainsFunc_LLint_int.mono_p {p_ q_:(List Int → Option (Bool))} (h_:∀ x0_,LeO (p_ x0_) (q_ x0_)):∀ a0 k,LeO (slices_ContainsFunc_LLint_int.f k a0 p_) (slices_ContainsFunc_LLint_int.f k a0 q_):=by
 intro a0 k
 unfold slices_ContainsFunc_LLint_int.f
 repeat' first
   | (with_reducible exact h_ _)
   | (with_reducible refine slices_IndexFunc_LLint_int.mono_p (fun _=>?_) _ _)
   | (with_reducible exact LeO.refl _)
   | (with_reducible refine LeO.ite ?_ ?_)
   | (with_reducible refine LeO.bind ?_ (fun _=>?_))
   | exact h_ _
   | exact LeO.refl _
   | refine LeO.ite ?_ ?_
   | refine LeO.bind ?_ (fun _=>?_)
set_option maxHeartbeats 8000000 in
set_option maxRecDepth 100000 in
theorem slices_ContainsFunc_LLint_int.calls (k:Nat) (A0:Option Addr) (c0:Nat) (l0:List (List Int)) (a1:(List Int → Option (Bool))) (g1_:Nat) (lb1_:Array Value) (eg1_:∀ (args:Array Value) (w:World),(callFunc g1_ args).run Try.prog w = .ok (.enter g1_ args) w) (r:Bool) (w:World) (hr0:Kd.C (Kd.slice 3 (Kd.int .i64)) w A0 l0.length l0) (hc0:l0.length ≤ c0) (hp1:∀ (W:World) (A0_:Option Addr) (c0_:Nat) (l0_:List Int) (r0_:Bool),a1 l0_ = some r0_ → Below w.heap.size w W → Kd.C (Kd.int .i64) W A0_ l0_.length l0_ → l0_.length ≤ c0_ → Calls Try.prog g1_ (#[.slice A0_ l0_.length c0_] ++ lb1_) W fun e w'=>e = .returned (.bool r0_) ∧ Below W.heap.size W w') (h:slices_ContainsFunc_LLint_int.f k l0 a1 = some r) :
  Calls Try.prog 195 #[.slice A0 l0.length c0,.func (.func g1_) #[] lb1_] w fun e w'=>e = .returned (.bool r) ∧ Below w.heap.size w w':=by
 have HR0:=Aside0.mk hr0
 have HC0:=Aside0.mk hc0
 clear hr0 hc0
 have HP1:=Aside0.mk hp1
 clear hp1
 have HB:=Aside0.mk (Below.refl w.heap.size w)
 have H:((slices_IndexFunc_LLint_int.f k l0 a1).bind fun t733=>(some (decide (t733 ≥ 0)))) = some r:=h
 clear h
 replace H:=Option.bind_eq_some_iff.mp H
 obtain ⟨t733,A30,H⟩:=H
 replace H:(some (decide (t733 ≥ 0))) = some r:=H
 have A3:=Aside0.mk A30
 clear A30
 obtain rfl:=Option.some.inj H
 go_enter Try.func195,Try.ntmps195
 go_wp2_with (first|((with_reducible refine gate_callee (f:=210) rfl ?_);refine goesL_ (some 7) rfl rfl Try.func210 (by kernel_rfl) rfl #[.slice A0 l0.length c0,.func (.func g1_) #[] lb1_] rfl (by (try simp only [List.map_toArray,List.map_cons,List.map_nil]);first|done|rfl|(simp only [List.length_drop,List.length_take];rfl)) ?_;(with_reducible refine (slices_IndexFunc_LLint_int.calls k _ _ l0 a1 g1_ lb1_ eg1_ t733 _ ?side1 ?side2 ?side3 A3.out).mono ?_);(case side1=>repeat (first|exact HR0.out|(with_reducible refine Kd.C_alloc ?_ _)|(with_reducible refine Kd.C_drewN ?_ _)|(with_reducible refine Kd.C_drew ?_)));(case side2=>exact HC0.out);(case side3=>exact (fun W_ A0_ c0_ l0_ r0_ hx_ hb_ hr0_ hc0_=>HP1.out W_ A0_ c0_ l0_ r0_ hx_ (below_step (by repeat (first|(with_reducible first|exact HB.out|apply below_alloc|apply pw_below_drewN|apply below_drew1)|exact HB.out)) hb_) hr0_ hc0_));rintro e w4 ⟨rfl,hb⟩;refine ⟨_,rfl,?_⟩;have n0_:=Aside0.mk (below_step (by repeat (first|(with_reducible first|exact HB.out|apply below_alloc|apply pw_below_drewN|apply below_drew1)|exact HB.out)) hb);clear HB;have HB:=n0_;clear n0_;(try clear hb);(try clear hb2);(try clear hk);(try clear hi)))
 go_ret
 exact ⟨by first|rfl|(simp [errW_none,errW_some] <;> rfl)|(simp [*,errW_none,errW_some] <;> rfl),by repeat (first|(with_reducible first|exact HB.out|apply below_alloc|apply pw_below_drewN|apply below_drew1)|exact HB.out)⟩


/-! ### slices_IndexFunc_int_int: function 211 -/
def slices_IndexFunc_int_int.l0:Nat → List Int → (Int → Option (Bool)) → Int → Int → Option (Int)
 | 0,_,_,_,_=>none
 | k + 1,x0,x1,x7,x8=>if x8 < x7 then (if 0 ≤ x8 then (if x8 < (x0.length:Int) then ((x1 (rd x0 x8)).bind fun t162=>(if t162 = true then (some x8) else (slices_IndexFunc_int_int.l0 k x0 x1 x7 (wrap64 (x8 + 1))))) else (none)) else (none)) else (some (-1))
def slices_IndexFunc_int_int.f (k:Nat) (l0:List Int) (a1:(Int → Option (Bool))):Option (Int):=slices_IndexFunc_int_int.l0 k l0 a1 (l0.length:Int) 0
theorem slices_IndexFunc_int_int.mono_l:∀ k,(∀ y0 y1 y2 y3,LeO (slices_IndexFunc_int_int.l0 k y0 y1 y2 y3) (slices_IndexFunc_int_int.l0 (k + 1) y0 y1 y2 y3))
 | 0=>fun _ _ _ _ r h=>by simp [slices_IndexFunc_int_int.l0] at h
 | k + 1=>by
  have ih0:=slices_IndexFunc_int_int.mono_l k
  ·intro y0 y1 y2 y3
   unfold slices_IndexFunc_int_int.l0
   repeat' first
   | (with_reducible exact ih0 _ _ _ _)
   | (with_reducible exact LeO.refl _)
   | (with_reducible exact LeO.none _)
   | (with_reducible refine LeO.ite ?_ ?_)
   | (with_reducible refine LeO.bind ?_ (fun _=>?_))
   | exact ih0 _ _ _ _
   | exact LeO.none _
   | refine LeO.ite ?_ ?_
   | refine LeO.bind ?_ (fun _=>?_)
theorem slices_IndexFunc_int_int.mono:∀ a0 a1 k,LeO (slices_IndexFunc_int_int.f k a0 a1) (slices_IndexFunc_int_int.f (k + 1) a0 a1):=by
 intro a0 a1 k
 have ih0:=slices_IndexFunc_int_int.mono_l k
 unfold slices_IndexFunc_int_int.f
 repeat' first
   | (with_reducible exact ih0 _ _ _ _)
   | (with_reducible exact LeO.refl _)
   | (with_reducible exact LeO.none _)
   | (with_reducible refine LeO.ite ?_ ?_)
   | (with_reducible refine LeO.bind ?_ (fun _=>?_))
   | exact ih0 _ _ _ _
   | exact LeO.none _
   | refine LeO.ite ?_ ?_
   | refine LeO.bind ?_ (fun _=>?_)
theorem slices_IndexFunc_int_int.monop_l {p_ q_:(Int → Option (Bool))} (h_:∀ x0_,LeO (p_ x0_) (q_ x0_)):∀ k,(∀ y0 y2 y3,LeO (slices_IndexFunc_int_int.l0 k y0 p_ y2 y3) (slices_IndexFunc_int_int.l0 k y0 q_ y2 y3))
 | 0=>fun _ _ _ r hz=>by simp [slices_IndexFunc_int_int.l0] at hz
 | k + 1=>by
  have ih0:=slices_IndexFunc_int_int.monop_l h_ k
  ·intro y0 y1 y2
   unfold slices_IndexFunc_int_int.l0
   repeat' first
   | (with_reducible exact ih0 _ _ _)
   | (with_reducible exact h_ _)
   | (with_reducible exact LeO.refl _)
   | (with_reducible refine LeO.ite ?_ ?_)
   | (with_reducible refine LeO.bind ?_ (fun _=>?_))
   | exact ih0 _ _ _
   | exact h_ _
   | exact LeO.refl _
   | refine LeO.ite ?_ ?_
   | refine LeO.bind ?_ (fun _=>?_)
theorem slices_IndexFunc_int_int.mono_p {p_ q_:(Int → Option (Bool))} (h_:∀ x0_,LeO (p_ x0_) (q_ x0_)):∀ a0 k,LeO (slices_IndexFunc_int_int.f k a0 p_) (slices_IndexFunc_int_int.f k a0 q_):=by
 intro a0 k
 have ih0:=slices_IndexFunc_int_int.monop_l h_ k
 unfold slices_IndexFunc_int_int.f
 repeat' first
   | (with_reducible exact ih0 _ _ _)
   | (with_reducible exact h_ _)
   | (with_reducible exact LeO.refl _)
   | (with_reducible refine LeO.ite ?_ ?_)
   | (with_reducible refine LeO.bind ?_ (fun _=>?_))
   | exact ih0 _ _ _
   | exact h_ _
   | exact LeO.refl _
   | refine LeO.ite ?_ ?_
   | refine LeO.bind ?_ (fun _=>?_)
set_option maxHeartbeats 8000000 in
set_option maxRecDepth 100000 in
theorem slices_IndexFunc_int_int.calls (k:Nat) (A0:Option Addr) (c0:Nat) (l0:List Int) (a1:(Int → Option (Bool))) (g1_:Nat) (lb1_:Array Value) (eg1_:∀ (args:Array Value) (w:World),(callFunc g1_ args).run Try.prog w = .ok (.enter g1_ args) w) (r:Int) (w:World) (hr0:Kd.C (Kd.int .i64) w A0 l0.length l0) (hc0:l0.length ≤ c0) (hp1:∀ (W:World) (b0_:Int) (r0_:Bool),a1 b0_ = some r0_ → Below w.heap.size w W → Calls Try.prog g1_ (#[.int .i64 b0_] ++ lb1_) W fun e w'=>e = .returned (.bool r0_) ∧ Below W.heap.size W w') (h:slices_IndexFunc_int_int.f k l0 a1 = some r) :
  Calls Try.prog 211 #[.slice A0 l0.length c0,.func (.func g1_) #[] lb1_] w fun e w'=>e = .returned (.int .i64 r) ∧ Below w.heap.size w w':=by
 have HR0:=Aside0.mk hr0
 have HC0:=Aside0.mk hc0
 clear hr0 hc0
 have HP1:=Aside0.mk hp1
 clear hp1
 have HB:=Aside0.mk (Below.refl w.heap.size w)
 have H:(slices_IndexFunc_int_int.l0 k l0 a1 (l0.length:Int) 0) = some r:=h
 clear h
 have H':=Aside0.mk H
 clear H
 go_enter Try.func211,Try.ntmps211
 go_wp2
 go_loopg [8] k (fun kq v8 w'=>∃ (x8_1:Int),v8 = .int .i64 x8_1 ∧ Aside0 (slices_IndexFunc_int_int.l0 kq l0 a1 (l0.length:Int) x8_1 = some r) ∧ Aside0 (kq ≤ k) ∧ Aside0 (Below w.heap.size w w'))
 case atStart=>exact ⟨(0),(by first|rfl|(simp;done)|(simp [*];done)),H',⟨Nat.le_refl _⟩,⟨by repeat (first|(with_reducible first|exact HB.out|apply below_alloc|apply pw_below_drewN|apply below_drew1)|exact HB.out)⟩⟩
 case round =>
  clear H'
  try clear p1
  try clear c2
  try clear p2
  obtain ⟨x8_1,rfl,HA,HK1,HB⟩:=hrel
  cases gk with
  | zero=>exact absurd HA.out (by simp [slices_IndexFunc_int_int.l0])
  | succ k1 =>
   have H:=HA.out
   clear HA
   simp only [slices_IndexFunc_int_int.l0] at H
   by_cases c3:x8_1 < (l0.length:Int)
   ·rw [if_pos c3] at H
    have c3b0:decide (x8_1 < (l0.length:Int)) = true:=decide_eq_true c3
    clear c3
    by_cases c4:0 ≤ x8_1
    ·rw [if_pos c4] at H
     have c4b0:decide (0 ≤ x8_1) = true:=decide_eq_true c4
     clear c4
     by_cases c5:x8_1 < (l0.length:Int)
     ·rw [if_pos c5] at H
      have c5b0:decide (x8_1 < (l0.length:Int)) = true:=decide_eq_true c5
      clear c5
      replace H:=Option.bind_eq_some_iff.mp H
      obtain ⟨t162,A60,H⟩:=H
      replace H:(if t162 = true then (some x8_1) else (slices_IndexFunc_int_int.l0 k1 l0 a1 (l0.length:Int) (wrap64 (x8_1 + 1)))) = some r:=H
      have A6:=Aside0.mk A60
      clear A60
      by_cases c7:t162 = true
      ·subst c7
       have H1:(some x8_1) = some r:=by rw [if_pos rfl] at H;exact H
       clear H
       have H:=H1
       clear H1
       obtain rfl:=Option.some.inj H
       have p161:0 ≤ (x8_1:Int):=of_decide_eq_true (by first|(with_reducible assumption)|assumption)
       have q161:x8_1 < (l0.length:Int):=of_decide_eq_true (by first|(with_reducible assumption)|assumption)
       obtain ⟨ad161,e161,hx161_0⟩:=Kd.at_int HR0.out x8_1 p161 q161
       cases e161
       replace hx161_0:=(HB.out.cell (World.block_lt_of_cell? w _ hx161_0)).trans hx161_0
       replace p161:=eq_true p161
       replace q161:=eq_true q161
       go_wp2_with (first|((with_reducible refine gate_fn (t:=11) rfl ?_);refine goesFL_ (some 16) rfl rfl eg1_ #[.int .i64 (rd l0 x8_1)] rfl rfl (by (try simp only [List.map_toArray,List.map_cons,List.map_nil]);first|done|rfl|(simp only [List.length_drop,List.length_take];rfl)) ?_;(with_reducible refine (HP1.out _ (rd l0 x8_1) true A6.out ?side1).mono ?_);(case side1=>repeat (first|(with_reducible first|exact HB.out|apply below_alloc|apply pw_below_drewN|apply below_drew1)|exact HB.out));rintro e w8 ⟨rfl,hb⟩;refine ⟨_,rfl,?_⟩;have n0_:=Aside0.mk (below_step (by repeat (first|(with_reducible first|exact HB.out|apply below_alloc|apply pw_below_drewN|apply below_drew1)|exact HB.out)) hb);clear HB;have HB:=n0_;clear n0_;(try clear hb);(try clear hb2);(try clear hk);(try clear hi)))
       go_ret
       exact ⟨by first|rfl|(simp [errW_none,errW_some] <;> rfl)|(simp [*,errW_none,errW_some] <;> rfl),by repeat (first|(with_reducible first|exact HB.out|apply below_alloc|apply pw_below_drewN|apply below_drew1)|exact HB.out)⟩
      ·replace c7:=Bool.eq_false_iff.mpr c7
       subst c7
       have H1:(slices_IndexFunc_int_int.l0 k1 l0 a1 (l0.length:Int) (wrap64 (x8_1 + 1))) = some r:=by rw [if_neg (show ¬ (false = true) by decide)] at H;exact H
       clear H
       have H:=H1
       clear H1
       have H':=Aside0.mk H
       clear H
       have p161:0 ≤ (x8_1:Int):=of_decide_eq_true (by first|(with_reducible assumption)|assumption)
       have q161:x8_1 < (l0.length:Int):=of_decide_eq_true (by first|(with_reducible assumption)|assumption)
       obtain ⟨ad161,e161,hx161_0⟩:=Kd.at_int HR0.out x8_1 p161 q161
       cases e161
       replace hx161_0:=(HB.out.cell (World.block_lt_of_cell? w _ hx161_0)).trans hx161_0
       replace p161:=eq_true p161
       replace q161:=eq_true q161
       go_wp2_with (first|((with_reducible refine gate_fn (t:=11) rfl ?_);refine goesFL_ (some 16) rfl rfl eg1_ #[.int .i64 (rd l0 x8_1)] rfl rfl (by (try simp only [List.map_toArray,List.map_cons,List.map_nil]);first|done|rfl|(simp only [List.length_drop,List.length_take];rfl)) ?_;(with_reducible refine (HP1.out _ (rd l0 x8_1) false A6.out ?side1).mono ?_);(case side1=>repeat (first|(with_reducible first|exact HB.out|apply below_alloc|apply pw_below_drewN|apply below_drew1)|exact HB.out));rintro e w9 ⟨rfl,hb⟩;refine ⟨_,rfl,?_⟩;have n0_:=Aside0.mk (below_step (by repeat (first|(with_reducible first|exact HB.out|apply below_alloc|apply pw_below_drewN|apply below_drew1)|exact HB.out)) hb);clear HB;have HB:=n0_;clear n0_;(try clear hb);(try clear hb2);(try clear hk);(try clear hi)))
       go_roundg k1
       case measure=>have:=HK1.out;omega
       case rel=>exact ⟨(wrap64 (x8_1 + 1)),(by first|rfl|(simp;done)|(simp [*];done)),H',⟨by have:=HK1.out;omega⟩,⟨by repeat (first|(with_reducible first|exact HB.out|apply below_alloc|apply pw_below_drewN|apply below_drew1)|exact HB.out)⟩⟩
     ·rw [if_neg c5] at H
      exact absurd H (by simp)
    ·rw [if_neg c4] at H
     exact absurd H (by simp)
   ·rw [if_neg c3] at H
    have c3b0:decide (x8_1 < (l0.length:Int)) = false:=decide_eq_false c3
    clear c3
    obtain rfl:=Option.some.inj H
    go_wp2
    go_ret
    exact ⟨by first|rfl|(simp [errW_none,errW_some] <;> rfl)|(simp [*,errW_none,errW_some] <;> rfl),by repeat (first|(with_reducible first|exact HB.out|apply below_alloc|apply pw_below_drewN|apply below_drew1)|exact HB.out)⟩


/-! ### slices_ContainsFunc_int_int: function 198 -/
def slices_ContainsFunc_int_int.f (k:Nat) (l0:List Int) (a1:(Int → Option (Bool))):Option (Bool):=(slices_IndexFunc_int_int.f k l0 a1).bind fun t163=>(some (decide (t163 ≥ 0)))
theorem slices_ContainsFunc_int_int.mono:∀ a0 a1 k,LeO (slices_ContainsFunc_int_int.f k a0 a1) (slices_ContainsFunc_int_int.f (k + 1) a0 a1):=by
 intro a0 a1 k
 unfold slices_ContainsFunc_int_int.f
 repeat' first
   | (with_reducible exact slices_IndexFunc_int_int.mono _ _ _)
   | (with_reducible exact LeO.refl _)
   | (with_reducible exact LeO.none _)
   | (with_reducible refine LeO.trans (slices_IndexFunc_int_int.mono _ _ _) (slices_IndexFunc_int_int.mono_p (fun _=>?_) _ _))
   | (with_reducible refine LeO.ite ?_ ?_)
   | (with_reducible refine LeO.bind ?_ (fun _=>?_))
   | exact slices_IndexFunc_int_int.mono _ _ _
   | exact LeO.none _
   | refine LeO.ite ?_ ?_
   | refine LeO.bind ?_ (fun _=>?_)
theorem slices_ContainsFunc_int_int.mono_p {p_ q_:(Int → Option (Bool))} (h_:∀ x0_,LeO (p_ x0_) (q_ x0_)):∀ a0 k,LeO (slices_ContainsFunc_int_int.f k a0 p_) (slices_ContainsFunc_int_int.f k a0 q_):=by
 intro a0 k
 unfold slices_ContainsFunc_int_int.f
 repeat' first
   | (with_reducible exact h_ _)
   | (with_reducible refine slices_IndexFunc_int_int.mono_p (fun _=>?_) _ _)
   | (with_reducible exact LeO.refl _)
   | (with_reducible refine LeO.ite ?_ ?_)
   | (with_reducible refine LeO.bind ?_ (fun _=>?_))
   | exact h_ _
   | exact LeO.refl _
   | refine LeO.ite ?_ ?_
   | refine LeO.bind ?_ (fun _=>?_)
set_option maxHeartbeats 8000000 in
set_option maxRecDepth 100000 in
theorem slices_ContainsFunc_int_int.calls (k:Nat) (A0:Option Addr) (c0:Nat) (l0:List Int) (a1:(Int → Option (Bool))) (g1_:Nat) (lb1_:Array Value) (eg1_:∀ (args:Array Value) (w:World),(callFunc g1_ args).run Try.prog w = .ok (.enter g1_ args) w) (r:Bool) (w:World) (hr0:Kd.C (Kd.int .i64) w A0 l0.length l0) (hc0:l0.length ≤ c0) (hp1:∀ (W:World) (b0_:Int) (r0_:Bool),a1 b0_ = some r0_ → Below w.heap.size w W → Calls Try.prog g1_ (#[.int .i64 b0_] ++ lb1_) W fun e w'=>e = .returned (.bool r0_) ∧ Below W.heap.size W w') (h:slices_ContainsFunc_int_int.f k l0 a1 = some r) :
  Calls Try.prog 198 #[.slice A0 l0.length c0,.func (.func g1_) #[] lb1_] w fun e w'=>e = .returned (.bool r) ∧ Below w.heap.size w w':=by
 have HR0:=Aside0.mk hr0
 have HC0:=Aside0.mk hc0
 clear hr0 hc0
 have HP1:=Aside0.mk hp1
 clear hp1
 have HB:=Aside0.mk (Below.refl w.heap.size w)
 have H:((slices_IndexFunc_int_int.f k l0 a1).bind fun t163=>(some (decide (t163 ≥ 0)))) = some r:=h
 clear h
 replace H:=Option.bind_eq_some_iff.mp H
 obtain ⟨t163,A30,H⟩:=H
 replace H:(some (decide (t163 ≥ 0))) = some r:=H
 have A3:=Aside0.mk A30
 clear A30
 obtain rfl:=Option.some.inj H
 go_enter Try.func198,Try.ntmps198
 go_wp2_with (first|((with_reducible refine gate_callee (f:=211) rfl ?_);refine goesL_ (some 7) rfl rfl Try.func211 (by kernel_rfl) rfl #[.slice A0 l0.length c0,.func (.func g1_) #[] lb1_] rfl (by (try simp only [List.map_toArray,List.map_cons,List.map_nil]);first|done|rfl|(simp only [List.length_drop,List.length_take];rfl)) ?_;(with_reducible refine (slices_IndexFunc_int_int.calls k _ _ l0 a1 g1_ lb1_ eg1_ t163 _ ?side1 ?side2 ?side3 A3.out).mono ?_);(case side1=>repeat (first|exact HR0.out|(with_reducible refine Kd.C_alloc ?_ _)|(with_reducible refine Kd.C_drewN ?_ _)|(with_reducible refine Kd.C_drew ?_)));(case side2=>exact HC0.out);(case side3=>exact (fun W_ a0_ r0_ hx_ hb_ =>HP1.out W_ a0_ r0_ hx_ (below_step (by repeat (first|(with_reducible first|exact HB.out|apply below_alloc|apply pw_below_drewN|apply below_drew1)|exact HB.out)) hb_) ));rintro e w4 ⟨rfl,hb⟩;refine ⟨_,rfl,?_⟩;have n0_:=Aside0.mk (below_step (by repeat (first|(with_reducible first|exact HB.out|apply below_alloc|apply pw_below_drewN|apply below_drew1)|exact HB.out)) hb);clear HB;have HB:=n0_;clear n0_;(try clear hb);(try clear hb2);(try clear hk);(try clear hi)))
 go_ret
 exact ⟨by first|rfl|(simp [errW_none,errW_some] <;> rfl)|(simp [*,errW_none,errW_some] <;> rfl),by repeat (first|(with_reducible first|exact HB.out|apply below_alloc|apply pw_below_drewN|apply below_drew1)|exact HB.out)⟩


/-! ### impl_areIn_1: function 206 -/
def impl_areIn_1.f (a0:Int) (a1:Int) (a2:Int):Option (Bool):=(impl_within.f a0 a1 a2).bind fun t164=>(some (!t164))
set_option maxHeartbeats 8000000 in
set_option maxRecDepth 100000 in
theorem impl_areIn_1.calls (a0:Int) (gc1:Nat) (a1:Int) (gc2:Nat) (a2:Int) (r:Bool) (w:World) (hb1:w.heap[gc1]? = some (.cells #[.int .i64 a1] 3 (0,0))) (hb2:w.heap[gc2]? = some (.cells #[.int .i64 a2] 3 (0,0))) (hn1_2:gc1 ≠ gc2) (h:impl_areIn_1.f a0 a1 a2 = some r) :
  Calls Try.prog 206 #[.int .i64 a0,.pointer (some ⟨gc1,0,none⟩),.pointer (some ⟨gc2,0,none⟩)] w fun e w'=>e = .returned (.bool r) ∧ Drawn0 w w':=by
 have BK1:=Aside0.mk hb1
 clear hb1
 have BK2:=Aside0.mk hb2
 clear hb2
 have NB1_2:=Aside0.mk hn1_2
 have NB2_1:=Aside0.mk (Ne.symm hn1_2)
 clear hn1_2
 have H:((impl_within.f a0 a1 a2).bind fun t164=>(some (!t164))) = some r:=h
 clear h
 replace H:=Option.bind_eq_some_iff.mp H
 obtain ⟨t164,A40,H⟩:=H
 replace H:(some (!t164)) = some r:=H
 have A4:=Aside0.mk A40
 clear A40
 obtain rfl:=Option.some.inj H
 have hnb5:=NB1_2.out
 have hnc5:=NB2_1.out
 have hcz6_0:w.cell? ⟨gc1,0,none⟩ = some (.int .i64 a1):=(blk_cell BK1.out 0).trans rfl
 have hfz6_0:=blk_frozen BK1.out 0
 have hcz7_0:w.cell? ⟨gc2,0,none⟩ = some (.int .i64 a2):=(blk_cell BK2.out 0).trans rfl
 have hfz7_0:=blk_frozen BK2.out 0
 go_enter Try.func206,Try.ntmps206
 go_wp2_with (first|((with_reducible refine gate_callee (f:=69) rfl ?_);refine goesL_ (some 8) rfl rfl Try.func69 (by kernel_rfl) rfl #[.int .i64 a0,.int .i64 a1,.int .i64 a2] rfl (by (try simp only [List.map_toArray,List.map_cons,List.map_nil]);first|done|rfl|(simp only [List.length_drop,List.length_take];rfl)) ?_;(with_reducible refine (impl_within.calls a0 a1 a2 t164 _ A4.out).mono ?_);rintro e w' ⟨rfl,⟨nd,rfl⟩⟩;refine ⟨_,rfl,?_⟩))
 go_ret
 exact ⟨by first|rfl|(simp;done)|(simp [*];done),by repeat (first|exact Drawn0.refl _|apply Drawn0.step)⟩
theorem impl_areIn_1.enters:∀ (args:Array Value) (w:World),(callFunc 206 args).run Try.prog w = .ok (.enter 206 args) w:=enters_of Try.func206 (by kernel_rfl) rfl


/-! ### impl_areIn: function 187 -/
def impl_areIn.f (k:Nat) (l0:List Int) (a1:Int) (a2:Int):Option (Bool):=(slices_ContainsFunc_int_int.f k l0 (fun y0_=>impl_areIn_1.f y0_ a1 a2)).bind fun t167=>(some (!t167))
theorem impl_areIn.mono:∀ a0 a1 a2 k,LeO (impl_areIn.f k a0 a1 a2) (impl_areIn.f (k + 1) a0 a1 a2):=by
 intro a0 a1 a2 k
 unfold impl_areIn.f
 repeat' first
   | (with_reducible exact slices_ContainsFunc_int_int.mono _ _ _)
   | (with_reducible exact LeO.refl _)
   | (with_reducible exact LeO.none _)
   | (with_reducible refine LeO.trans (slices_ContainsFunc_int_int.mono _ _ _) (slices_ContainsFunc_int_int.mono_p (fun _=>?_) _ _))
   | (with_reducible refine LeO.ite ?_ ?_)
   | (with_reducible refine LeO.bind ?_ (fun _=>?_))
   | exact slices_ContainsFunc_int_int.mono _ _ _
   | exact LeO.none _
   | refine LeO.ite ?_ ?_
   | refine LeO.bind ?_ (fun _=>?_)
set_option maxHeartbeats 8000000 in
set_option maxRecDepth 100000 in
theorem impl_areIn.calls (k:Nat) (A0:Option Addr) (c0:Nat) (l0:List Int) (a1:Int) (a2:Int) (r:Bool) (w:World) (hr0:Kd.C (Kd.int .i64) w A0 l0.length l0) (hc0:l0.length ≤ c0) (h:impl_areIn.f k l0 a1 a2 = some r) :
  Calls Try.prog 187 #[.slice A0 l0.length c0,.int .i64 a1,.int .i64 a2] w fun e w'=>e = .returned (.bool r) ∧ Below w.heap.size w w':=by
 have hmf:∀ (fn:Fn) (first cap:Array Value) (w:World),(Instr.makeFunc fn first cap).run Try.prog w = .ok (.func fn first cap) w:=fun _ _ _ _=>rfl
 have HR0:=Aside0.mk hr0
 have HC0:=Aside0.mk hc0
 clear hr0 hc0
 have HB:=Aside0.mk (Below.refl w.heap.size w)
 have H:((slices_ContainsFunc_int_int.f k l0 (fun y0_=>impl_areIn_1.f y0_ a1 a2)).bind fun t167=>(some (!t167))) = some r:=h
 clear h
 replace H:=Option.bind_eq_some_iff.mp H
 obtain ⟨t167,A40,H⟩:=H
 replace H:(some (!t167)) = some r:=H
 have A4:=Aside0.mk A40
 clear A40
 obtain rfl:=Option.some.inj H
 go_enter Try.func187,Try.ntmps187
 go_wp2_with (first|((with_reducible refine gate_dst (N:=4) rfl ?_);refine box_event ?hg (N:=4) ?hd (cs:=#[.int .i64 a1]) (t:=3) ?hr ?_;(case hd=>rfl);(case hg=>rfl);(case hr=>first|(go_simp;done)|(go_simp;rfl));intro gb165 hg w5 hbox hb;have n0_:=Aside0.mk (below_step (by repeat (first|(with_reducible first|exact HB.out|apply below_alloc|apply pw_below_drewN|apply below_drew1)|exact HB.out)) hb);have n1_:=Aside0.mk (hbox);have n2_:=Aside0.mk ((by rw [hg];exact (below_size (by repeat (first|(with_reducible first|exact HB.out|apply below_alloc|apply pw_below_drewN|apply below_drew1)|exact HB.out))):w.heap.size ≤ gb165));have n3_:=Aside0.mk ((by rw [hg];exact (below_size (by repeat (first|(with_reducible first|exact HB.out|apply below_alloc|apply pw_below_drewN|apply below_drew1)|exact HB.out))):w.heap.size ≤ gb165));clear HB;have HB:=n0_;have BK165:=n1_;have GW165:=n2_;have GE165:=n3_;clear n0_ n1_ n2_ n3_;clear hb hbox hg)|((with_reducible refine gate_dst (N:=5) rfl ?_);refine box_event ?hg (N:=5) ?hd (cs:=#[.int .i64 a2]) (t:=3) ?hr ?_;(case hd=>rfl);(case hg=>rfl);(case hr=>first|(go_simp;done)|(go_simp;rfl));intro gb166 hg w6 hbox hb;have n0_:=Aside0.mk (blk_below (g:=gb165) (o:=.cells #[.int .i64 a1] 3 (0,0)) (by (with_reducible repeat (first|refine blk_drewN ?_ _|refine blk_drew ?_|refine blk_alloc ?_ _));exact BK165.out) hb);have n1_:=Aside0.mk (below_step (by repeat (first|(with_reducible first|exact HB.out|apply below_alloc|apply pw_below_drewN|apply below_drew1|refine below_set ?_ GE165.out)|exact HB.out)) hb);have n2_:=Aside0.mk (hbox);have n3_:=Aside0.mk ((by rw [hg];exact (below_size (by repeat (first|(with_reducible first|exact HB.out|apply below_alloc|apply pw_below_drewN|apply below_drew1|refine below_set ?_ GE165.out)|exact HB.out))):w.heap.size ≤ gb166));have n4_:=Aside0.mk ((by rw [hg];exact (below_size (by repeat (first|(with_reducible first|exact HB.out|apply below_alloc|apply pw_below_drewN|apply below_drew1|refine below_set ?_ GE165.out)|exact HB.out))):w.heap.size ≤ gb166));have n5_:=Aside0.mk ((by rw [hg];exact Nat.ne_of_lt (blk_lt (g:=gb165) (o:=.cells #[.int .i64 a1] 3 (0,0)) (by (with_reducible repeat (first|refine blk_drewN ?_ _|refine blk_drew ?_|refine blk_alloc ?_ _));exact BK165.out)):gb165 ≠ gb166));have n6_:=Aside0.mk ((by rw [hg];exact Nat.ne_of_gt (blk_lt (g:=gb165) (o:=.cells #[.int .i64 a1] 3 (0,0)) (by (with_reducible repeat (first|refine blk_drewN ?_ _|refine blk_drew ?_|refine blk_alloc ?_ _));exact BK165.out)):gb166 ≠ gb165));clear BK165;clear HB;have BK165:=n0_;have HB:=n1_;have BK166:=n2_;have GW166:=n3_;have GE166:=n4_;have NB165_166:=n5_;have NB166_165:=n6_;clear n0_ n1_ n2_ n3_ n4_ n5_ n6_;clear hb hbox hg)|((with_reducible refine gate_callee (f:=198) rfl ?_);refine goesL_ (some 9) rfl rfl Try.func198 (by kernel_rfl) rfl #[.slice A0 l0.length c0,.func (.func 206) #[] #[.pointer (some ⟨gb165,0,none⟩),.pointer (some ⟨gb166,0,none⟩)]] rfl (by (try simp only [List.map_toArray,List.map_cons,List.map_nil]);first|done|rfl|(simp only [List.length_drop,List.length_take];rfl)) ?_;(with_reducible refine (slices_ContainsFunc_int_int.calls k _ _ l0 (fun y0_=>impl_areIn_1.f y0_ a1 a2) 206 #[.pointer (some ⟨gb165,0,none⟩),.pointer (some ⟨gb166,0,none⟩)] impl_areIn_1.enters t167 _ ?side1 ?side2 ?side3 A4.out).mono ?_);(case side1=>repeat (first|exact (Kd.C_below HR0.out HB.out)|(with_reducible refine Kd.C_alloc ?_ _)|(with_reducible refine Kd.C_drewN ?_ _)|(with_reducible refine Kd.C_drew ?_)));(case side2=>exact HC0.out);(case side3=>exact (fun W_ a0_ r0_ hx_ hb_ =>(impl_areIn_1.calls a0_ gb165 a1 gb166 a2 r0_ W_  (box_later (by (with_reducible repeat (first|refine blk_drewN ?_ _|refine blk_drew ?_|refine blk_alloc ?_ _));exact BK165.out) hb_) (box_later (by (with_reducible repeat (first|refine blk_drewN ?_ _|refine blk_drew ?_|refine blk_alloc ?_ _));exact BK166.out) hb_) NB165_166.out hx_).mono (fun _ _ h_=>⟨h_.1,h_.2.below⟩)));rintro e w7 ⟨rfl,hb⟩;refine ⟨_,rfl,?_⟩;have n0_:=Aside0.mk (blk_below (g:=gb165) (o:=.cells #[.int .i64 a1] 3 (0,0)) (by (with_reducible repeat (first|refine blk_drewN ?_ _|refine blk_drew ?_|refine blk_alloc ?_ _));exact BK165.out) hb);have n1_:=Aside0.mk (blk_below (g:=gb166) (o:=.cells #[.int .i64 a2] 3 (0,0)) (by (with_reducible repeat (first|refine blk_drewN ?_ _|refine blk_drew ?_|refine blk_alloc ?_ _));exact BK166.out) hb);have n2_:=Aside0.mk (below_step (by repeat (first|(with_reducible first|exact HB.out|apply below_alloc|apply pw_below_drewN|apply below_drew1|refine below_set ?_ GE165.out|refine below_set ?_ GE166.out)|exact HB.out)) hb);clear BK165;clear BK166;clear HB;have BK165:=n0_;have BK166:=n1_;have HB:=n2_;clear n0_ n1_ n2_;(try clear hb);(try clear hb2);(try clear hk);(try clear hi)))
 go_ret
 exact ⟨by first|rfl|(simp [errW_none,errW_some] <;> rfl)|(simp [*,errW_none,errW_some] <;> rfl),by repeat (first|(with_reducible first|exact HB.out|apply below_alloc|apply pw_below_drewN|apply below_drew1|refine below_set ?_ GE165.out|refine below_set ?_ GE166.out)|exact HB.out)⟩


/-! ### impl_isIncreasing: function 201 -/
def impl_isIncreasing.l0:Nat → List Int → Int → Int → Option (Bool)
 | 0,_,_,_=>none
 | k + 1,x0,x5,x6=>if x6 < x5 then (if x6 > 0 then (if 0 ≤ x6 then (if x6 < (x0.length:Int) then (if 0 ≤ (wrap64 (x6 - 1)) then (if (wrap64 (x6 - 1)) < (x0.length:Int) then (if (rd x0 x6) ≤ (rd x0 (wrap64 (x6 - 1))) then (some false) else (impl_isIncreasing.l0 k x0 x5 (wrap64 (x6 + 1)))) else (none)) else (none)) else (none)) else (none)) else (impl_isIncreasing.l0 k x0 x5 (wrap64 (x6 + 1)))) else (some true)
def impl_isIncreasing.f (k:Nat) (l0:List Int):Option (Bool):=impl_isIncreasing.l0 k l0 (l0.length:Int) 0
theorem impl_isIncreasing.mono_l:∀ k,(∀ y0 y1 y2,LeO (impl_isIncreasing.l0 k y0 y1 y2) (impl_isIncreasing.l0 (k + 1) y0 y1 y2))
 | 0=>fun _ _ _ r h=>by simp [impl_isIncreasing.l0] at h
 | k + 1=>by
  have ih0:=impl_isIncreasing.mono_l k
  ·intro y0 y1 y2
   unfold impl_isIncreasing.l0
   repeat' first
   | (with_reducible exact ih0 _ _ _)
   | (with_reducible exact LeO.refl _)
   | (with_reducible exact LeO.none _)
   | (with_reducible refine LeO.ite ?_ ?_)
   | (with_reducible refine LeO.bind ?_ (fun _=>?_))
   | exact ih0 _ _ _
   | exact LeO.none _
   | refine LeO.ite ?_ ?_
   | refine LeO.bind ?_ (fun _=>?_)
theorem impl_isIncreasing.mono:∀ a0 k,LeO (impl_isIncreasing.f k a0) (impl_isIncreasing.f (k + 1) a0):=by
 intro a0 k
 have ih0:=impl_isIncreasing.mono_l k
 unfold impl_isIncreasing.f
 repeat' first
   | (with_reducible exact ih0 _ _ _)
   | (with_reducible exact LeO.refl _)
   | (with_reducible exact LeO.none _)
   | (with_reducible refine LeO.ite ?_ ?_)
   | (with_reducible refine LeO.bind ?_ (fun _=>?_))
   | exact ih0 _ _ _
   | exact LeO.none _
   | refine LeO.ite ?_ ?_
   | refine LeO.bind ?_ (fun _=>?_)
set_option maxHeartbeats 8000000 in
set_option maxRecDepth 100000 in
theorem impl_isIncreasing.calls (k:Nat) (A0:Option Addr) (c0:Nat) (l0:List Int) (r:Bool) (w:World) (hr0:Kd.C (Kd.int .i64) w A0 l0.length l0) (hc0:l0.length ≤ c0) (h:impl_isIncreasing.f k l0 = some r) :
  Calls Try.prog 201 #[.slice A0 l0.length c0] w fun e w'=>e = .returned (.bool r) ∧ Drawn0 w w':=by
 have HR0:=Aside0.mk hr0
 have HC0:=Aside0.mk hc0
 clear hr0 hc0
 have H:(impl_isIncreasing.l0 k l0 (l0.length:Int) 0) = some r:=h
 clear h
 have H':=Aside0.mk H
 clear H
 go_enter Try.func201,Try.ntmps201
 go_wp2
 repeat (go_quiet (fail);try go_wp2)
 go_loopg [6] k (fun kq v6 w'=>∃ (x6_1:Int),v6 = .int .i64 x6_1 ∧ Aside0 (impl_isIncreasing.l0 kq l0 (l0.length:Int) x6_1 = some r) ∧ Aside0 (kq ≤ k) ∧ Drawn0 w w')
 case atStart=>exact ⟨(0),(by first|rfl|(simp;done)|(simp [*];done)),H',⟨Nat.le_refl _⟩,by repeat (first|exact Drawn0.refl _|apply Drawn0.step)⟩
 case round =>
  clear H'
  obtain ⟨x6_1,rfl,HA,HK1,⟨m1,rfl⟩⟩:=hrel
  cases gk with
  | zero=>exact absurd HA.out (by simp [impl_isIncreasing.l0])
  | succ k1 =>
   have H:=HA.out
   clear HA
   simp only [impl_isIncreasing.l0] at H
   by_cases c2:x6_1 < (l0.length:Int)
   ·rw [if_pos c2] at H
    have c2b0:decide (x6_1 < (l0.length:Int)) = true:=decide_eq_true c2
    clear c2
    by_cases c3:x6_1 > 0
    ·rw [if_pos c3] at H
     have c3b0:decide (0 < x6_1) = true:=decide_eq_true c3
     clear c3
     by_cases c4:0 ≤ x6_1
     ·rw [if_pos c4] at H
      have c4b0:decide (0 ≤ x6_1) = true:=decide_eq_true c4
      clear c4
      by_cases c5:x6_1 < (l0.length:Int)
      ·rw [if_pos c5] at H
       have c5b0:decide (x6_1 < (l0.length:Int)) = true:=decide_eq_true c5
       clear c5
       obtain ⟨ji6,hji6⟩:∃ j_:Int,(wrap64 (x6_1 - 1)) = j_:=⟨_,rfl⟩
       replace H:(if 0 ≤ (ji6) then (if (ji6) < (l0.length:Int) then (if (rd l0 x6_1) ≤ (rd l0 (ji6)) then (some false) else (impl_isIncreasing.l0 k1 l0 (l0.length:Int) (wrap64 (x6_1 + 1)))) else (none)) else (none)) = some r:=by first|(rw [hji6] at H;exact H)|(simp only [hji6] at H ⊢;exact H)
       have hji6w:(IntKind.i64.wrap (x6_1 - 1)) = ji6:=(i64_w _).trans hji6
       by_cases c7:0 ≤ (ji6)
       ·rw [if_pos c7] at H
        have c7b0:decide (0 ≤ (ji6)) = true:=decide_eq_true c7
        clear c7
        by_cases c8:(ji6) < (l0.length:Int)
        ·rw [if_pos c8] at H
         have c8b0:decide ((ji6) < (l0.length:Int)) = true:=decide_eq_true c8
         clear c8
         by_cases c9:(rd l0 x6_1) ≤ (rd l0 (ji6))
         ·rw [if_pos c9] at H
          have c9b0:decide ((rd l0 x6_1) ≤ (rd l0 (ji6))) = true:=decide_eq_true c9
          clear c9
          obtain rfl:=Option.some.inj H
          have p734:0 ≤ (x6_1:Int):=of_decide_eq_true (by first|(with_reducible assumption)|assumption)
          have q734:x6_1 < (l0.length:Int):=of_decide_eq_true (by first|(with_reducible assumption)|assumption)
          obtain ⟨ad734,e734,hx734_0⟩:=Kd.at_int HR0.out x6_1 p734 q734
          cases e734
          replace p734:=eq_true p734
          replace q734:=eq_true q734
          have p735:0 ≤ ((ji6):Int):=of_decide_eq_true (by first|(with_reducible assumption)|assumption)
          have q735:(ji6) < (l0.length:Int):=of_decide_eq_true (by first|(with_reducible assumption)|assumption)
          obtain ⟨ad735,e735,hx735_0⟩:=Kd.at_int HR0.out (ji6) p735 q735
          obtain rfl:ad734 = ad735:=(by injection e735)
          replace p735:=eq_true p735
          replace q735:=eq_true q735
          go_wp2
          repeat (go_quiet (fail);try go_wp2)
          go_ret
          exact ⟨by first|rfl|(simp;done)|(simp only [← hji6] <;> (first|rfl|simp))|(simp [*];done),by repeat (first|exact Drawn0.refl _|apply Drawn0.step)⟩
         ·rw [if_neg c9] at H
          have c9b0:decide ((rd l0 x6_1) ≤ (rd l0 (ji6))) = false:=decide_eq_false c9
          clear c9
          have H':=Aside0.mk H
          clear H
          have p734:0 ≤ (x6_1:Int):=of_decide_eq_true (by first|(with_reducible assumption)|assumption)
          have q734:x6_1 < (l0.length:Int):=of_decide_eq_true (by first|(with_reducible assumption)|assumption)
          obtain ⟨ad734,e734,hx734_0⟩:=Kd.at_int HR0.out x6_1 p734 q734
          cases e734
          replace p734:=eq_true p734
          replace q734:=eq_true q734
          have p735:0 ≤ ((ji6):Int):=of_decide_eq_true (by first|(with_reducible assumption)|assumption)
          have q735:(ji6) < (l0.length:Int):=of_decide_eq_true (by first|(with_reducible assumption)|assumption)
          obtain ⟨ad735,e735,hx735_0⟩:=Kd.at_int HR0.out (ji6) p735 q735
          obtain rfl:ad734 = ad735:=(by injection e735)
          replace p735:=eq_true p735
          replace q735:=eq_true q735
          go_wp2
          repeat (go_quiet (fail);try go_wp2)
          go_roundg k1
          case measure=>have:=HK1.out;omega
          case rel=>exact ⟨(wrap64 (x6_1 + 1)),(by first|rfl|(simp;done)|(simp [*];done)),H',⟨by have:=HK1.out;omega⟩,by repeat (first|exact Drawn0.refl _|apply Drawn0.step)⟩
        ·rw [if_neg c8] at H
         exact absurd H (by simp)
       ·rw [if_neg c7] at H
        exact absurd H (by simp)
      ·rw [if_neg c5] at H
       exact absurd H (by simp)
     ·rw [if_neg c4] at H
      exact absurd H (by simp)
    ·rw [if_neg c3] at H
     have c3b0:decide (0 < x6_1) = false:=decide_eq_false c3
     clear c3
     have H':=Aside0.mk H
     clear H
     go_wp2
     repeat (go_quiet (fail);try go_wp2)
     go_roundg k1
     case measure=>have:=HK1.out;omega
     case rel=>exact ⟨(wrap64 (x6_1 + 1)),(by first|rfl|(simp;done)|(simp [*];done)),H',⟨by have:=HK1.out;omega⟩,by repeat (first|exact Drawn0.refl _|apply Drawn0.step)⟩
   ·rw [if_neg c2] at H
    have c2b0:decide (x6_1 < (l0.length:Int)) = false:=decide_eq_false c2
    clear c2
    obtain rfl:=Option.some.inj H
    go_wp2
    repeat (go_quiet (fail);try go_wp2)
    go_ret
    exact ⟨by first|rfl|(simp;done)|(simp [*];done),by repeat (first|exact Drawn0.refl _|apply Drawn0.step)⟩


/-! ### impl_isSet: function 176 -/
def impl_isSet.f (k:Nat) (l0:List Int) (a1:Int):Option (Bool):=(impl_areIn.f k l0 0 (wrap64 (a1 - 1))).bind fun t736=>(if t736 = true then ((impl_isIncreasing.f k l0).bind fun t737=>(some t737)) else (some false))
theorem impl_isSet.mono:∀ a0 a1 k,LeO (impl_isSet.f k a0 a1) (impl_isSet.f (k + 1) a0 a1):=by
 intro a0 a1 k
 unfold impl_isSet.f
 repeat' first
   | (with_reducible exact impl_areIn.mono _ _ _ _)
   | (with_reducible exact impl_isIncreasing.mono _ _)
   | (with_reducible exact LeO.refl _)
   | (with_reducible exact LeO.none _)
   | (with_reducible refine LeO.ite ?_ ?_)
   | (with_reducible refine LeO.bind ?_ (fun _=>?_))
   | exact impl_areIn.mono _ _ _ _
   | exact impl_isIncreasing.mono _ _
   | exact LeO.none _
   | refine LeO.ite ?_ ?_
   | refine LeO.bind ?_ (fun _=>?_)
set_option maxHeartbeats 8000000 in
set_option maxRecDepth 100000 in
theorem impl_isSet.calls (k:Nat) (A0:Option Addr) (c0:Nat) (l0:List Int) (a1:Int) (r:Bool) (w:World) (hr0:Kd.C (Kd.int .i64) w A0 l0.length l0) (hc0:l0.length ≤ c0) (h:impl_isSet.f k l0 a1 = some r) :
  Calls Try.prog 176 #[.slice A0 l0.length c0,.int .i64 a1] w fun e w'=>e = .returned (.bool r) ∧ Below w.heap.size w w':=by
 have HR0:=Aside0.mk hr0
 have HC0:=Aside0.mk hc0
 clear hr0 hc0
 have HB:=Aside0.mk (Below.refl w.heap.size w)
 have H:((impl_areIn.f k l0 0 (wrap64 (a1 - 1))).bind fun t736=>(if t736 = true then ((impl_isIncreasing.f k l0).bind fun t737=>(some t737)) else (some false))) = some r:=h
 clear h
 replace H:=Option.bind_eq_some_iff.mp H
 obtain ⟨t736,A30,H⟩:=H
 replace H:(if t736 = true then ((impl_isIncreasing.f k l0).bind fun t737=>(some t737)) else (some false)) = some r:=H
 have A3:=Aside0.mk A30
 clear A30
 by_cases c4:t736 = true
 ·subst c4
  have H1:((impl_isIncreasing.f k l0).bind fun t737=>(some t737)) = some r:=by rw [if_pos rfl] at H;exact H
  clear H
  have H:=H1
  clear H1
  replace H:=Option.bind_eq_some_iff.mp H
  obtain ⟨t737,A50,H⟩:=H
  replace H:(some t737) = some r:=H
  have A5:=Aside0.mk A50
  clear A50
  obtain rfl:=Option.some.inj H
  go_enter Try.func176,Try.ntmps176
  go_wp2_with (first|((with_reducible refine gate_callee (f:=187) rfl ?_);refine goesL_ (some 8) rfl rfl Try.func187 (by kernel_rfl) rfl #[.slice A0 l0.length c0,.int .i64 0,.int .i64 (wrap64 (a1 - 1))] rfl (by (try simp only [List.map_toArray,List.map_cons,List.map_nil]);first|done|rfl|(simp only [List.length_drop,List.length_take];rfl)) ?_;(with_reducible refine (impl_areIn.calls k _ _ l0 0 (wrap64 (a1 - 1)) true _ ?side1 ?side2 A3.out).mono ?_);(case side1=>repeat (first|exact HR0.out|(with_reducible refine Kd.C_alloc ?_ _)|(with_reducible refine Kd.C_drewN ?_ _)|(with_reducible refine Kd.C_drew ?_)));(case side2=>exact HC0.out);rintro e w6 ⟨rfl,hb⟩;refine ⟨_,rfl,?_⟩;have n0_:=Aside0.mk (below_step (by repeat (first|(with_reducible first|exact HB.out|apply below_alloc|apply pw_below_drewN|apply below_drew1)|exact HB.out)) hb);clear HB;have HB:=n0_;clear n0_;(try clear hb);(try clear hb2);(try clear hk);(try clear hi))|(go_at_call 201;(with_reducible refine (impl_isIncreasing.calls k _ _ l0 t737 _ ?side1 ?side2 A5.out).mono ?_);(case side1=>repeat (first|exact (Kd.C_below HR0.out HB.out)|(with_reducible refine Kd.C_alloc ?_ _)|(with_reducible refine Kd.C_drewN ?_ _)|(with_reducible refine Kd.C_drew ?_)));(case side2=>exact HC0.out);rintro e w' ⟨rfl,⟨nd,rfl⟩⟩))
  go_ret
  exact ⟨by first|rfl|(simp [errW_none,errW_some] <;> rfl)|(simp [*,errW_none,errW_some] <;> rfl),by repeat (first|(with_reducible first|exact HB.out|apply below_alloc|apply pw_below_drewN|apply below_drew1)|exact HB.out)⟩
 ·replace c4:=Bool.eq_false_iff.mpr c4
  subst c4
  have H1:(some false) = some r:=by rw [if_neg (show ¬ (false = true) by decide)] at H;exact H
  clear H
  have H:=H1
  clear H1
  obtain rfl:=Option.some.inj H
  go_enter Try.func176,Try.ntmps176
  go_wp2_with (first|((with_reducible refine gate_callee (f:=187) rfl ?_);refine goesL_ (some 8) rfl rfl Try.func187 (by kernel_rfl) rfl #[.slice A0 l0.length c0,.int .i64 0,.int .i64 (wrap64 (a1 - 1))] rfl (by (try simp only [List.map_toArray,List.map_cons,List.map_nil]);first|done|rfl|(simp only [List.length_drop,List.length_take];rfl)) ?_;(with_reducible refine (impl_areIn.calls k _ _ l0 0 (wrap64 (a1 - 1)) false _ ?side1 ?side2 A3.out).mono ?_);(case side1=>repeat (first|exact HR0.out|(with_reducible refine Kd.C_alloc ?_ _)|(with_reducible refine Kd.C_drewN ?_ _)|(with_reducible refine Kd.C_drew ?_)));(case side2=>exact HC0.out);rintro e w7 ⟨rfl,hb⟩;refine ⟨_,rfl,?_⟩;have n0_:=Aside0.mk (below_step (by repeat (first|(with_reducible first|exact HB.out|apply below_alloc|apply pw_below_drewN|apply below_drew1)|exact HB.out)) hb);clear HB;have HB:=n0_;clear n0_;(try clear hb);(try clear hb2);(try clear hk);(try clear hi)))
  go_ret
  exact ⟨by first|rfl|(simp [errW_none,errW_some] <;> rfl)|(simp [*,errW_none,errW_some] <;> rfl),by repeat (first|(with_reducible first|exact HB.out|apply below_alloc|apply pw_below_drewN|apply below_drew1)|exact HB.out)⟩


/-! ### impl_areSets_1: function 196 -/
def impl_areSets_1.f (k:Nat) (l0:List Int) (a1:Int):Option (Bool):=if (l0.length:Int) = 0 then (some true) else ((impl_isSet.f k l0 a1).bind fun t738=>(some (!t738)))
theorem impl_areSets_1.mono:∀ a0 a1 k,LeO (impl_areSets_1.f k a0 a1) (impl_areSets_1.f (k + 1) a0 a1):=by
 intro a0 a1 k
 unfold impl_areSets_1.f
 repeat' first
   | (with_reducible exact impl_isSet.mono _ _ _)
   | (with_reducible exact LeO.refl _)
   | (with_reducible exact LeO.none _)
   | (with_reducible refine LeO.ite ?_ ?_)
   | (with_reducible refine LeO.bind ?_ (fun _=>?_))
   | exact impl_isSet.mono _ _ _
   | exact LeO.none _
   | refine LeO.ite ?_ ?_
   | refine LeO.bind ?_ (fun _=>?_)
set_option maxHeartbeats 8000000 in
set_option maxRecDepth 100000 in
theorem impl_areSets_1.calls (k:Nat) (A0:Option Addr) (c0:Nat) (l0:List Int) (gc1:Nat) (a1:Int) (r:Bool) (w:World) (hr0:Kd.C (Kd.int .i64) w A0 l0.length l0) (hc0:l0.length ≤ c0) (hb1:w.heap[gc1]? = some (.cells #[.int .i64 a1] 3 (0,0))) (h:impl_areSets_1.f k l0 a1 = some r) :
  Calls Try.prog 196 #[.slice A0 l0.length c0,.pointer (some ⟨gc1,0,none⟩)] w fun e w'=>e = .returned (.bool r) ∧ Below w.heap.size w w':=by
 have HR0:=Aside0.mk hr0
 have HC0:=Aside0.mk hc0
 clear hr0 hc0
 have BK1:=Aside0.mk hb1
 clear hb1
 have HB:=Aside0.mk (Below.refl w.heap.size w)
 have H:(if (l0.length:Int) = 0 then (some true) else ((impl_isSet.f k l0 a1).bind fun t738=>(some (!t738)))) = some r:=h
 clear h
 by_cases c3:(l0.length:Int) = 0
 ·rw [if_pos c3] at H
  have c3b0:((l0.length:Int) == 0) = true:=beq_iff_eq.mpr c3
  have c3b1:((l0.length:Int) != 0) = false:=bne_eq_false_iff_eq.mpr c3
  clear c3
  obtain rfl:=Option.some.inj H
  go_enter Try.func196,Try.ntmps196
  go_wp2
  go_ret
  exact ⟨by first|rfl|(simp [errW_none,errW_some] <;> rfl)|(simp [*,errW_none,errW_some] <;> rfl),by repeat (first|(with_reducible first|exact HB.out|apply below_alloc|apply pw_below_drewN|apply below_drew1|refine below_set ?_ GE1.out)|exact HB.out)⟩
 ·rw [if_neg c3] at H
  have c3b0:((l0.length:Int) == 0) = false:=beq_eq_false_iff_ne.mpr c3
  have c3b1:((l0.length:Int) != 0) = true:=bne_iff_ne.mpr c3
  have c3b2:¬ (l0 = []):=fun h_=>c3 (by rw [h_];rfl)
  replace H:=Option.bind_eq_some_iff.mp H
  obtain ⟨t738,A40,H⟩:=H
  replace H:(some (!t738)) = some r:=H
  have A4:=Aside0.mk A40
  clear A40
  obtain rfl:=Option.some.inj H
  have hcz5_0:w.cell? ⟨gc1,0,none⟩ = some (.int .i64 a1):=(blk_cell BK1.out 0).trans rfl
  have hfz5_0:=blk_frozen BK1.out 0
  go_enter Try.func196,Try.ntmps196
  go_wp2_with (first|(go_at_call 176;(with_reducible refine (impl_isSet.calls k _ _ l0 a1 t738 _ ?side1 ?side2 A4.out).mono ?_);(case side1=>repeat (first|exact HR0.out|(with_reducible refine Kd.C_alloc ?_ _)|(with_reducible refine Kd.C_drewN ?_ _)|(with_reducible refine Kd.C_drew ?_)));(case side2=>exact HC0.out);rintro e w6 ⟨rfl,hb⟩;have n0_:=Aside0.mk (blk_below (g:=gc1) (o:=.cells #[.int .i64 a1] 3 (0,0)) (by (with_reducible repeat (first|refine blk_drewN ?_ _|refine blk_drew ?_|refine blk_alloc ?_ _));exact BK1.out) hb);have n1_:=Aside0.mk (below_step (by repeat (first|(with_reducible first|exact HB.out|apply below_alloc|apply pw_below_drewN|apply below_drew1|refine below_set ?_ GE1.out)|exact HB.out)) hb);clear BK1;clear HB;have BK1:=n0_;have HB:=n1_;clear n0_ n1_;(try clear hb);(try clear hb2);(try clear hk);(try clear hi)))
  go_ret
  exact ⟨by first|rfl|(simp [errW_none,errW_some] <;> rfl)|(simp [*,errW_none,errW_some] <;> rfl),by repeat (first|(with_reducible first|exact HB.out|apply below_alloc|apply pw_below_drewN|apply below_drew1|refine below_set ?_ GE1.out)|exact HB.out)⟩
theorem impl_areSets_1.enters:∀ (args:Array Value) (w:World),(callFunc 196 args).run Try.prog w = .ok (.enter 196 args) w:=enters_of Try.func196 (by kernel_rfl) rfl


/-! ### impl_areSets: function 168 -/
def impl_areSets.f (k:Nat) (l0:List (List Int)) (a1:Int):Option (Bool):=(slices_ContainsFunc_LLint_int.f k l0 (fun y0_=>impl_areSets_1.f k y0_ a1)).bind fun t740=>(some (!t740))
theorem impl_areSets.mono:∀ a0 a1 k,LeO (impl_areSets.f k a0 a1) (impl_areSets.f (k + 1) a0 a1):=by
 intro a0 a1 k
 unfold impl_areSets.f
 repeat' first
   | (with_reducible exact impl_areSets_1.mono _ _ _)
   | (with_reducible exact slices_ContainsFunc_LLint_int.mono _ _ _)
   | (with_reducible exact LeO.refl _)
   | (with_reducible exact LeO.none _)
   | (with_reducible refine LeO.trans (slices_ContainsFunc_LLint_int.mono _ _ _) (slices_ContainsFunc_LLint_int.mono_p (fun _=>?_) _ _))
   | (with_reducible refine LeO.ite ?_ ?_)
   | (with_reducible refine LeO.bind ?_ (fun _=>?_))
   | exact impl_areSets_1.mono _ _ _
   | exact slices_ContainsFunc_LLint_int.mono _ _ _
   | exact LeO.none _
   | refine LeO.ite ?_ ?_
   | refine LeO.bind ?_ (fun _=>?_)
set_option maxHeartbeats 8000000 in
set_option maxRecDepth 100000 in
theorem impl_areSets.calls (k:Nat) (A0:Option Addr) (c0:Nat) (l0:List (List Int)) (a1:Int) (r:Bool) (w:World) (hr0:Kd.C (Kd.slice 3 (Kd.int .i64)) w A0 l0.length l0) (hc0:l0.length ≤ c0) (h:impl_areSets.f k l0 a1 = some r) :
  Calls Try.prog 168 #[.slice A0 l0.length c0,.int .i64 a1] w fun e w'=>e = .returned (.bool r) ∧ Below w.heap.size w w':=by
 have hmf:∀ (fn:Fn) (first cap:Array Value) (w:World),(Instr.makeFunc fn first cap).run Try.prog w = .ok (.func fn first cap) w:=fun _ _ _ _=>rfl
 have HR0:=Aside0.mk hr0
 have HC0:=Aside0.mk hc0
 clear hr0 hc0
 have HB:=Aside0.mk (Below.refl w.heap.size w)
 have H:((slices_ContainsFunc_LLint_int.f k l0 (fun y0_=>impl_areSets_1.f k y0_ a1)).bind fun t740=>(some (!t740))) = some r:=h
 clear h
 replace H:=Option.bind_eq_some_iff.mp H
 obtain ⟨t740,A30,H⟩:=H
 replace H:(some (!t740)) = some r:=H
 have A3:=Aside0.mk A30
 clear A30
 obtain rfl:=Option.some.inj H
 go_enter Try.func168,Try.ntmps168
 go_wp2_with (first|((with_reducible refine gate_dst (N:=3) rfl ?_);refine box_event ?hg (N:=3) ?hd (cs:=#[.int .i64 a1]) (t:=3) ?hr ?_;(case hd=>rfl);(case hg=>rfl);(case hr=>first|(go_simp;done)|(go_simp;rfl));intro gb739 hg w4 hbox hb;have n0_:=Aside0.mk (below_step (by repeat (first|(with_reducible first|exact HB.out|apply below_alloc|apply pw_below_drewN|apply below_drew1)|exact HB.out)) hb);have n1_:=Aside0.mk (hbox);have n2_:=Aside0.mk ((by rw [hg];exact (below_size (by repeat (first|(with_reducible first|exact HB.out|apply below_alloc|apply pw_below_drewN|apply below_drew1)|exact HB.out))):w.heap.size ≤ gb739));have n3_:=Aside0.mk ((by rw [hg];exact (below_size (by repeat (first|(with_reducible first|exact HB.out|apply below_alloc|apply pw_below_drewN|apply below_drew1)|exact HB.out))):w.heap.size ≤ gb739));clear HB;have HB:=n0_;have BK739:=n1_;have GW739:=n2_;have GE739:=n3_;clear n0_ n1_ n2_ n3_;clear hb hbox hg)|((with_reducible refine gate_callee (f:=195) rfl ?_);refine goesL_ (some 7) rfl rfl Try.func195 (by kernel_rfl) rfl #[.slice A0 l0.length c0,.func (.func 196) #[] #[.pointer (some ⟨gb739,0,none⟩)]] rfl (by (try simp only [List.map_toArray,List.map_cons,List.map_nil]);first|done|rfl|(simp only [List.length_drop,List.length_take];rfl)) ?_;(with_reducible refine (slices_ContainsFunc_LLint_int.calls k _ _ l0 (fun y0_=>impl_areSets_1.f k y0_ a1) 196 #[.pointer (some ⟨gb739,0,none⟩)] impl_areSets_1.enters t740 _ ?side1 ?side2 ?side3 A3.out).mono ?_);(case side1=>repeat (first|exact (Kd.C_below HR0.out HB.out)|(with_reducible refine Kd.C_alloc ?_ _)|(with_reducible refine Kd.C_drewN ?_ _)|(with_reducible refine Kd.C_drew ?_)));(case side2=>exact HC0.out);(case side3=>exact (fun W_ A0_ c0_ l0_ r0_ hx_ hb_ hr0_ hc0_=>(impl_areSets_1.calls k A0_ c0_ l0_ gb739 a1 r0_ W_ hr0_ hc0_ (box_later (by (with_reducible repeat (first|refine blk_drewN ?_ _|refine blk_drew ?_|refine blk_alloc ?_ _));exact BK739.out) hb_) hx_).mono (fun _ _ h_=>h_)));rintro e w5 ⟨rfl,hb⟩;refine ⟨_,rfl,?_⟩;have n0_:=Aside0.mk (blk_below (g:=gb739) (o:=.cells #[.int .i64 a1] 3 (0,0)) (by (with_reducible repeat (first|refine blk_drewN ?_ _|refine blk_drew ?_|refine blk_alloc ?_ _));exact BK739.out) hb);have n1_:=Aside0.mk (below_step (by repeat (first|(with_reducible first|exact HB.out|apply below_alloc|apply pw_below_drewN|apply below_drew1|refine below_set ?_ GE739.out)|exact HB.out)) hb);clear BK739;clear HB;have BK739:=n0_;have HB:=n1_;clear n0_ n1_;(try clear hb);(try clear hb2);(try clear hk);(try clear hi)))
 go_ret
 exact ⟨by first|rfl|(simp [errW_none,errW_some] <;> rfl)|(simp [*,errW_none,errW_some] <;> rfl),by repeat (first|(with_reducible first|exact HB.out|apply below_alloc|apply pw_below_drewN|apply below_drew1|refine below_set ?_ GE739.out)|exact HB.out)⟩


/-! ### cmp_isNaN_int: function 202 -/
def cmp_isNaN_int.f (a0:Int):Option (Bool):=some (a0 != a0)
set_option maxHeartbeats 8000000 in
set_option maxRecDepth 100000 in
theorem cmp_isNaN_int.calls (a0:Int) (r:Bool) (w:World) (h:cmp_isNaN_int.f a0 = some r) :
  Calls Try.prog 202 #[.int .i64 a0] w fun e w'=>e = .returned (.bool r) ∧ Drawn0 w w':=by
 have H:(some (a0 != a0)) = some r:=h
 clear h
 obtain rfl:=Option.some.inj H
 go_enter Try.func202,Try.ntmps202
 go_wp2
 go_ret
 exact ⟨by first|rfl|(simp;done)|(simp [*];done),by repeat (first|exact Drawn0.refl _|apply Drawn0.step)⟩


/-! ### cmp_Compare_int: function 179 -/
def cmp_Compare_int.f (a0:Int) (a1:Int):Option (Int):=(cmp_isNaN_int.f a0).bind fun t741=>((cmp_isNaN_int.f a1).bind fun t742=>(if t741 = true then (if t742 = true then (some 0) else (some (-1))) else (if t742 = true then (some 1) else (if a0 < a1 then (some (-1)) else (if a0 > a1 then (some 1) else (some 0))))))
set_option maxHeartbeats 8000000 in
set_option maxRecDepth 100000 in
theorem cmp_Compare_int.calls (a0:Int) (a1:Int) (r:Int) (w:World) (h:cmp_Compare_int.f a0 a1 = some r) :
  Calls Try.prog 179 #[.int .i64 a0,.int .i64 a1] w fun e w'=>e = .returned (.int .i64 r) ∧ Drawn0 w w':=by
 have H:((cmp_isNaN_int.f a0).bind fun t741=>((cmp_isNaN_int.f a1).bind fun t742=>(if t741 = true then (if t742 = true then (some 0) else (some (-1))) else (if t742 = true then (some 1) else (if a0 < a1 then (some (-1)) else (if a0 > a1 then (some 1) else (some 0))))))) = some r:=h
 clear h
 replace H:=Option.bind_eq_some_iff.mp H
 obtain ⟨t741,A30,H⟩:=H
 replace H:((cmp_isNaN_int.f a1).bind fun t742=>(if t741 = true then (if t742 = true then (some 0) else (some (-1))) else (if t742 = true then (some 1) else (if a0 < a1 then (some (-1)) else (if a0 > a1 then (some 1) else (some 0)))))) = some r:=H
 have A3:=Aside0.mk A30
 clear A30
 replace H:=Option.bind_eq_some_iff.mp H
 obtain ⟨t742,A40,H⟩:=H
 replace H:(if t741 = true then (if t742 = true then (some 0) else (some (-1))) else (if t742 = true then (some 1) else (if a0 < a1 then (some (-1)) else (if a0 > a1 then (some 1) else (some 0))))) = some r:=H
 have A4:=Aside0.mk A40
 clear A40
 by_cases c5:t741 = true
 ·subst c5
  have H1:(if t742 = true then (some 0) else (some (-1))) = some r:=by rw [if_pos rfl] at H;exact H
  clear H
  have H:=H1
  clear H1
  by_cases c6:t742 = true
  ·subst c6
   have H1:(some 0) = some r:=by rw [if_pos rfl] at H;exact H
   clear H
   have H:=H1
   clear H1
   obtain rfl:=Option.some.inj H
   go_enter Try.func179,Try.ntmps179
   go_wp2_with (first|((with_reducible refine gate_callee (f:=202) rfl ?_);refine goesL_ (some 8) rfl rfl Try.func202 (by kernel_rfl) rfl #[.int .i64 a0] rfl (by (try simp only [List.map_toArray,List.map_cons,List.map_nil]);first|done|rfl|(simp only [List.length_drop,List.length_take];rfl)) ?_;(with_reducible refine (cmp_isNaN_int.calls a0 true _ A3.out).mono ?_);rintro e w' ⟨rfl,⟨nd,rfl⟩⟩;refine ⟨_,rfl,?_⟩)|((with_reducible refine gate_callee (f:=202) rfl ?_);refine goesL_ (some 10) rfl rfl Try.func202 (by kernel_rfl) rfl #[.int .i64 a1] rfl (by (try simp only [List.map_toArray,List.map_cons,List.map_nil]);first|done|rfl|(simp only [List.length_drop,List.length_take];rfl)) ?_;(with_reducible refine (cmp_isNaN_int.calls a1 true _ A4.out).mono ?_);rintro e w' ⟨rfl,⟨nd,rfl⟩⟩;refine ⟨_,rfl,?_⟩))
   go_ret
   exact ⟨by first|rfl|(simp;done)|(simp [*];done),by repeat (first|exact Drawn0.refl _|apply Drawn0.step)⟩
  ·replace c6:=Bool.eq_false_iff.mpr c6
   subst c6
   have H1:(some (-1)) = some r:=by rw [if_neg (show ¬ (false = true) by decide)] at H;exact H
   clear H
   have H:=H1
   clear H1
   obtain rfl:=Option.some.inj H
   go_enter Try.func179,Try.ntmps179
   go_wp2_with (first|((with_reducible refine gate_callee (f:=202) rfl ?_);refine goesL_ (some 8) rfl rfl Try.func202 (by kernel_rfl) rfl #[.int .i64 a0] rfl (by (try simp only [List.map_toArray,List.map_cons,List.map_nil]);first|done|rfl|(simp only [List.length_drop,List.length_take];rfl)) ?_;(with_reducible refine (cmp_isNaN_int.calls a0 true _ A3.out).mono ?_);rintro e w' ⟨rfl,⟨nd,rfl⟩⟩;refine ⟨_,rfl,?_⟩)|((with_reducible refine gate_callee (f:=202) rfl ?_);refine goesL_ (some 10) rfl rfl Try.func202 (by kernel_rfl) rfl #[.int .i64 a1] rfl (by (try simp only [List.map_toArray,List.map_cons,List.map_nil]);first|done|rfl|(simp only [List.length_drop,List.length_take];rfl)) ?_;(with_reducible refine (cmp_isNaN_int.calls a1 false _ A4.out).mono ?_);rintro e w' ⟨rfl,⟨nd,rfl⟩⟩;refine ⟨_,rfl,?_⟩))
   go_ret
   exact ⟨by first|rfl|(simp;done)|(simp [*];done),by repeat (first|exact Drawn0.refl _|apply Drawn0.step)⟩
 ·replace c5:=Bool.eq_false_iff.mpr c5
  subst c5
  have H1:(if t742 = true then (some 1) else (if a0 < a1 then (some (-1)) else (if a0 > a1 then (some 1) else (some 0)))) = some r:=by rw [if_neg (show ¬ (false = true) by decide)] at H;exact H
  clear H
  have H:=H1
  clear H1
  by_cases c7:t742 = true
  ·subst c7
   have H1:(some 1) = some r:=by rw [if_pos rfl] at H;exact H
   clear H
   have H:=H1
   clear H1
   obtain rfl:=Option.some.inj H
   go_enter Try.func179,Try.ntmps179
   go_wp2_with (first|((with_reducible refine gate_callee (f:=202) rfl ?_);refine goesL_ (some 8) rfl rfl Try.func202 (by kernel_rfl) rfl #[.int .i64 a0] rfl (by (try simp only [List.map_toArray,List.map_cons,List.map_nil]);first|done|rfl|(simp only [List.length_drop,List.length_take];rfl)) ?_;(with_reducible refine (cmp_isNaN_int.calls a0 false _ A3.out).mono ?_);rintro e w' ⟨rfl,⟨nd,rfl⟩⟩;refine ⟨_,rfl,?_⟩)|((with_reducible refine gate_callee (f:=202) rfl ?_);refine goesL_ (some 10) rfl rfl Try.func202 (by kernel_rfl) rfl #[.int .i64 a1] rfl (by (try simp only [List.map_toArray,List.map_cons,List.map_nil]);first|done|rfl|(simp only [List.length_drop,List.length_take];rfl)) ?_;(with_reducible refine (cmp_isNaN_int.calls a1 true _ A4.out).mono ?_);rintro e w' ⟨rfl,⟨nd,rfl⟩⟩;refine ⟨_,rfl,?_⟩))
   go_ret
   exact ⟨by first|rfl|(simp;done)|(simp [*];done),by repeat (first|exact Drawn0.refl _|apply Drawn0.step)⟩
  ·replace c7:=Bool.eq_false_iff.mpr c7
   subst c7
   have H1:(if a0 < a1 then (some (-1)) else (if a0 > a1 then (some 1) else (some 0))) = some r:=by rw [if_neg (show ¬ (false = true) by decide)] at H;exact H
   clear H
   have H:=H1
   clear H1
   by_cases c8:a0 < a1
   ·rw [if_pos c8] at H
    have c8b0:decide (a0 < a1) = true:=decide_eq_true c8
    clear c8
    obtain rfl:=Option.some.inj H
    go_enter Try.func179,Try.ntmps179
    go_wp2_with (first|((with_reducible refine gate_callee (f:=202) rfl ?_);refine goesL_ (some 8) rfl rfl Try.func202 (by kernel_rfl) rfl #[.int .i64 a0] rfl (by (try simp only [List.map_toArray,List.map_cons,List.map_nil]);first|done|rfl|(simp only [List.length_drop,List.length_take];rfl)) ?_;(with_reducible refine (cmp_isNaN_int.calls a0 false _ A3.out).mono ?_);rintro e w' ⟨rfl,⟨nd,rfl⟩⟩;refine ⟨_,rfl,?_⟩)|((with_reducible refine gate_callee (f:=202) rfl ?_);refine goesL_ (some 10) rfl rfl Try.func202 (by kernel_rfl) rfl #[.int .i64 a1] rfl (by (try simp only [List.map_toArray,List.map_cons,List.map_nil]);first|done|rfl|(simp only [List.length_drop,List.length_take];rfl)) ?_;(with_reducible refine (cmp_isNaN_int.calls a1 false _ A4.out).mono ?_);rintro e w' ⟨rfl,⟨nd,rfl⟩⟩;refine ⟨_,rfl,?_⟩))
    go_ret
    exact ⟨by first|rfl|(simp;done)|(simp [*];done),by repeat (first|exact Drawn0.refl _|apply Drawn0.step)⟩
   ·rw [if_neg c8] at H
    have c8b0:decide (a0 < a1) = false:=decide_eq_false c8
    clear c8
    by_cases c9:a0 > a1
    ·rw [if_pos c9] at H
     have c9b0:decide (a1 < a0) = true:=decide_eq_true c9
     clear c9
     obtain rfl:=Option.some.inj H
     go_enter Try.func179,Try.ntmps179
     go_wp2_with (first|((with_reducible refine gate_callee (f:=202) rfl ?_);refine goesL_ (some 8) rfl rfl Try.func202 (by kernel_rfl) rfl #[.int .i64 a0] rfl (by (try simp only [List.map_toArray,List.map_cons,List.map_nil]);first|done|rfl|(simp only [List.length_drop,List.length_take];rfl)) ?_;(with_reducible refine (cmp_isNaN_int.calls a0 false _ A3.out).mono ?_);rintro e w' ⟨rfl,⟨nd,rfl⟩⟩;refine ⟨_,rfl,?_⟩)|((with_reducible refine gate_callee (f:=202) rfl ?_);refine goesL_ (some 10) rfl rfl Try.func202 (by kernel_rfl) rfl #[.int .i64 a1] rfl (by (try simp only [List.map_toArray,List.map_cons,List.map_nil]);first|done|rfl|(simp only [List.length_drop,List.length_take];rfl)) ?_;(with_reducible refine (cmp_isNaN_int.calls a1 false _ A4.out).mono ?_);rintro e w' ⟨rfl,⟨nd,rfl⟩⟩;refine ⟨_,rfl,?_⟩))
     go_ret
     exact ⟨by first|rfl|(simp;done)|(simp [*];done),by repeat (first|exact Drawn0.refl _|apply Drawn0.step)⟩
    ·rw [if_neg c9] at H
     have c9b0:decide (a1 < a0) = false:=decide_eq_false c9
     clear c9
     obtain rfl:=Option.some.inj H
     go_enter Try.func179,Try.ntmps179
     go_wp2_with (first|((with_reducible refine gate_callee (f:=202) rfl ?_);refine goesL_ (some 8) rfl rfl Try.func202 (by kernel_rfl) rfl #[.int .i64 a0] rfl (by (try simp only [List.map_toArray,List.map_cons,List.map_nil]);first|done|rfl|(simp only [List.length_drop,List.length_take];rfl)) ?_;(with_reducible refine (cmp_isNaN_int.calls a0 false _ A3.out).mono ?_);rintro e w' ⟨rfl,⟨nd,rfl⟩⟩;refine ⟨_,rfl,?_⟩)|((with_reducible refine gate_callee (f:=202) rfl ?_);refine goesL_ (some 10) rfl rfl Try.func202 (by kernel_rfl) rfl #[.int .i64 a1] rfl (by (try simp only [List.map_toArray,List.map_cons,List.map_nil]);first|done|rfl|(simp only [List.length_drop,List.length_take];rfl)) ?_;(with_reducible refine (cmp_isNaN_int.calls a1 false _ A4.out).mono ?_);rintro e w' ⟨rfl,⟨nd,rfl⟩⟩;refine ⟨_,rfl,?_⟩))
     go_ret
     exact ⟨by first|rfl|(simp;done)|(simp [*];done),by repeat (first|exact Drawn0.refl _|apply Drawn0.step)⟩


/-! ### slices_Compare_int_int: function 169 -/
def slices_Compare_int_int.l0:Nat → List Int → List Int → List Int → Int → Int → Option (Int)
 | 0,_,_,_,_,_=>none
 | k + 1,x0,x1,x9,x10,x11=>if x11 < x10 then (if 0 ≤ x11 then (if x11 < (x9.length:Int) then (if x11 ≥ (x1.length:Int) then (some 1) else (if x11 < (x1.length:Int) then ((cmp_Compare_int.f (rd x9 x11) (rd x1 x11)).bind fun t745=>(if t745 = 0 then (slices_Compare_int_int.l0 k x0 x1 x9 x10 (wrap64 (x11 + 1))) else (some t745))) else (none))) else (none)) else (none)) else (if (x0.length:Int) < (x1.length:Int) then (some (-1)) else (some 0))
def slices_Compare_int_int.f (k:Nat) (l0:List Int) (l1:List Int):Option (Int):=slices_Compare_int_int.l0 k l0 l1 l0 (l0.length:Int) 0
theorem slices_Compare_int_int.mono_l:∀ k,(∀ y0 y1 y2 y3 y4,LeO (slices_Compare_int_int.l0 k y0 y1 y2 y3 y4) (slices_Compare_int_int.l0 (k + 1) y0 y1 y2 y3 y4))
 | 0=>fun _ _ _ _ _ r h=>by simp [slices_Compare_int_int.l0] at h
 | k + 1=>by
  have ih0:=slices_Compare_int_int.mono_l k
  ·intro y0 y1 y2 y3 y4
   unfold slices_Compare_int_int.l0
   repeat' first
   | (with_reducible exact ih0 _ _ _ _ _)
   | (with_reducible exact LeO.refl _)
   | (with_reducible exact LeO.none _)
   | (with_reducible refine LeO.ite ?_ ?_)
   | (with_reducible refine LeO.bind ?_ (fun _=>?_))
   | exact ih0 _ _ _ _ _
   | exact LeO.none _
   | refine LeO.ite ?_ ?_
   | refine LeO.bind ?_ (fun _=>?_)
theorem slices_Compare_int_int.mono:∀ a0 a1 k,LeO (slices_Compare_int_int.f k a0 a1) (slices_Compare_int_int.f (k + 1) a0 a1):=by
 intro a0 a1 k
 have ih0:=slices_Compare_int_int.mono_l k
 unfold slices_Compare_int_int.f
 repeat' first
   | (with_reducible exact ih0 _ _ _ _ _)
   | (with_reducible exact LeO.refl _)
   | (with_reducible exact LeO.none _)
   | (with_reducible refine LeO.ite ?_ ?_)
   | (with_reducible refine LeO.bind ?_ (fun _=>?_))
   | exact ih0 _ _ _ _ _
   | exact LeO.none _
   | refine LeO.ite ?_ ?_
   | refine LeO.bind ?_ (fun _=>?_)
set_option maxHeartbeats 8000000 in
set_option maxRecDepth 100000 in
theorem slices_Compare_int_int.calls (k:Nat) (A0:Option Addr) (c0:Nat) (l0:List Int) (A1:Option Addr) (c1:Nat) (l1:List Int) (r:Int) (w:World) (hr0:Kd.C (Kd.int .i64) w A0 l0.length l0) (hc0:l0.length ≤ c0) (hr1:Kd.C (Kd.int .i64) w A1 l1.length l1) (hc1:l1.length ≤ c1) (h:slices_Compare_int_int.f k l0 l1 = some r) :
  Calls Try.prog 169 #[.slice A0 l0.length c0,.slice A1 l1.length c1] w fun e w'=>e = .returned (.int .i64 r) ∧ Drawn0 w w':=by
 have HR0:=Aside0.mk hr0
 have HC0:=Aside0.mk hc0
 clear hr0 hc0
 have HR1:=Aside0.mk hr1
 have HC1:=Aside0.mk hc1
 clear hr1 hc1
 have H:(slices_Compare_int_int.l0 k l0 l1 l0 (l0.length:Int) 0) = some r:=h
 clear h
 have H':=Aside0.mk H
 clear H
 go_enter Try.func169,Try.ntmps169
 go_wp2
 go_loopg [11] k (fun kq v11 w'=>∃ (x11_1:Int),v11 = .int .i64 x11_1 ∧ Aside0 (slices_Compare_int_int.l0 kq l0 l1 l0 (l0.length:Int) x11_1 = some r) ∧ Aside0 (kq ≤ k) ∧ Drawn0 w w')
 case atStart=>exact ⟨(0),(by first|rfl|(simp;done)|(simp [*];done)),H',⟨Nat.le_refl _⟩,by repeat (first|exact Drawn0.refl _|apply Drawn0.step)⟩
 case round =>
  clear H'
  try clear c1
  try clear p2
  obtain ⟨x11_1,rfl,HA,HK1,⟨m1,rfl⟩⟩:=hrel
  cases gk with
  | zero=>exact absurd HA.out (by simp [slices_Compare_int_int.l0])
  | succ k1 =>
   have H:=HA.out
   clear HA
   simp only [slices_Compare_int_int.l0] at H
   by_cases c3:x11_1 < (l0.length:Int)
   ·rw [if_pos c3] at H
    have c3b0:decide (x11_1 < (l0.length:Int)) = true:=decide_eq_true c3
    clear c3
    by_cases c4:0 ≤ x11_1
    ·rw [if_pos c4] at H
     have c4b0:decide (0 ≤ x11_1) = true:=decide_eq_true c4
     clear c4
     by_cases c5:x11_1 < (l0.length:Int)
     ·rw [if_pos c5] at H
      have c5b0:decide (x11_1 < (l0.length:Int)) = true:=decide_eq_true c5
      clear c5
      by_cases c6:x11_1 ≥ (l1.length:Int)
      ·rw [if_pos c6] at H
       have c6b0:decide ((l1.length:Int) ≤ x11_1) = true:=decide_eq_true c6
       clear c6
       obtain rfl:=Option.some.inj H
       have p743:0 ≤ (x11_1:Int):=of_decide_eq_true (by first|(with_reducible assumption)|assumption)
       have q743:x11_1 < (l0.length:Int):=of_decide_eq_true (by first|(with_reducible assumption)|assumption)
       obtain ⟨ad743,e743,hx743_0⟩:=Kd.at_int HR0.out x11_1 p743 q743
       cases e743
       replace p743:=eq_true p743
       replace q743:=eq_true q743
       go_wp2
       go_ret
       exact ⟨by first|rfl|(simp;done)|(simp [*];done),by repeat (first|exact Drawn0.refl _|apply Drawn0.step)⟩
      ·rw [if_neg c6] at H
       have c6b0:decide ((l1.length:Int) ≤ x11_1) = false:=decide_eq_false c6
       clear c6
       by_cases c7:x11_1 < (l1.length:Int)
       ·rw [if_pos c7] at H
        have c7b0:decide (x11_1 < (l1.length:Int)) = true:=decide_eq_true c7
        clear c7
        replace H:=Option.bind_eq_some_iff.mp H
        obtain ⟨t745,A80,H⟩:=H
        replace H:(if t745 = 0 then (slices_Compare_int_int.l0 k1 l0 l1 l0 (l0.length:Int) (wrap64 (x11_1 + 1))) else (some t745)) = some r:=H
        have A8:=Aside0.mk A80
        clear A80
        by_cases c9:t745 = 0
        ·rw [if_pos c9] at H
         have c9b0:(t745 == 0) = true:=beq_iff_eq.mpr c9
         have c9b1:(t745 != 0) = false:=bne_eq_false_iff_eq.mpr c9
         clear c9
         have H':=Aside0.mk H
         clear H
         have p743:0 ≤ (x11_1:Int):=of_decide_eq_true (by first|(with_reducible assumption)|assumption)
         have q743:x11_1 < (l0.length:Int):=of_decide_eq_true (by first|(with_reducible assumption)|assumption)
         obtain ⟨ad743,e743,hx743_0⟩:=Kd.at_int HR0.out x11_1 p743 q743
         cases e743
         replace p743:=eq_true p743
         replace q743:=eq_true q743
         have p744:0 ≤ (x11_1:Int):=of_decide_eq_true (by first|(with_reducible assumption)|assumption)
         have q744:x11_1 < (l1.length:Int):=of_decide_eq_true (by first|(with_reducible assumption)|assumption)
         obtain ⟨ad744,e744,hx744_0⟩:=Kd.at_int HR1.out x11_1 p744 q744
         cases e744
         replace p744:=eq_true p744
         replace q744:=eq_true q744
         go_wp2_with (first|((with_reducible refine gate_callee (f:=179) rfl ?_);refine goesL_ (some 26) rfl rfl Try.func179 (by kernel_rfl) rfl #[.int .i64 (rd l0 x11_1),.int .i64 (rd l1 x11_1)] rfl (by (try simp only [List.map_toArray,List.map_cons,List.map_nil]);first|done|rfl|(simp only [List.length_drop,List.length_take];rfl)) ?_;(with_reducible refine (cmp_Compare_int.calls (rd l0 x11_1) (rd l1 x11_1) t745 _ A8.out).mono ?_);rintro e w' ⟨rfl,⟨nd,rfl⟩⟩;refine ⟨_,rfl,?_⟩))
         go_roundg k1
         case measure=>have:=HK1.out;omega
         case rel=>exact ⟨(wrap64 (x11_1 + 1)),(by first|rfl|(simp;done)|(simp [*];done)),H',⟨by have:=HK1.out;omega⟩,by repeat (first|exact Drawn0.refl _|apply Drawn0.step)⟩
        ·rw [if_neg c9] at H
         have c9b0:(t745 == 0) = false:=beq_eq_false_iff_ne.mpr c9
         have c9b1:(t745 != 0) = true:=bne_iff_ne.mpr c9
         obtain rfl:=Option.some.inj H
         have p743:0 ≤ (x11_1:Int):=of_decide_eq_true (by first|(with_reducible assumption)|assumption)
         have q743:x11_1 < (l0.length:Int):=of_decide_eq_true (by first|(with_reducible assumption)|assumption)
         obtain ⟨ad743,e743,hx743_0⟩:=Kd.at_int HR0.out x11_1 p743 q743
         cases e743
         replace p743:=eq_true p743
         replace q743:=eq_true q743
         have p744:0 ≤ (x11_1:Int):=of_decide_eq_true (by first|(with_reducible assumption)|assumption)
         have q744:x11_1 < (l1.length:Int):=of_decide_eq_true (by first|(with_reducible assumption)|assumption)
         obtain ⟨ad744,e744,hx744_0⟩:=Kd.at_int HR1.out x11_1 p744 q744
         cases e744
         replace p744:=eq_true p744
         replace q744:=eq_true q744
         go_wp2_with (first|((with_reducible refine gate_callee (f:=179) rfl ?_);refine goesL_ (some 26) rfl rfl Try.func179 (by kernel_rfl) rfl #[.int .i64 (rd l0 x11_1),.int .i64 (rd l1 x11_1)] rfl (by (try simp only [List.map_toArray,List.map_cons,List.map_nil]);first|done|rfl|(simp only [List.length_drop,List.length_take];rfl)) ?_;(with_reducible refine (cmp_Compare_int.calls (rd l0 x11_1) (rd l1 x11_1) t745 _ A8.out).mono ?_);rintro e w' ⟨rfl,⟨nd,rfl⟩⟩;refine ⟨_,rfl,?_⟩))
         go_ret
         exact ⟨by first|rfl|(simp;done)|(simp [*];done),by repeat (first|exact Drawn0.refl _|apply Drawn0.step)⟩
       ·rw [if_neg c7] at H
        exact absurd H (by simp)
     ·rw [if_neg c5] at H
      exact absurd H (by simp)
    ·rw [if_neg c4] at H
     exact absurd H (by simp)
   ·rw [if_neg c3] at H
    have c3b0:decide (x11_1 < (l0.length:Int)) = false:=decide_eq_false c3
    clear c3
    by_cases c10:(l0.length:Int) < (l1.length:Int)
    ·rw [if_pos c10] at H
     have c10b0:decide ((l0.length:Int) < (l1.length:Int)) = true:=decide_eq_true c10
     have c10b1:decide (l0.length < l1.length) = true:=decide_eq_true (Int.ofNat_lt.mp c10)
     clear c10
     obtain rfl:=Option.some.inj H
     go_wp2
     go_ret
     exact ⟨by first|rfl|(simp;done)|(simp [*];done),by repeat (first|exact Drawn0.refl _|apply Drawn0.step)⟩
    ·rw [if_neg c10] at H
     have c10b0:decide ((l0.length:Int) < (l1.length:Int)) = false:=decide_eq_false c10
     have c10b1:decide (l0.length < l1.length) = false:=decide_eq_false (fun h=>c10 (Int.ofNat_lt.mpr h))
     clear c10
     obtain rfl:=Option.some.inj H
     go_wp2
     go_ret
     exact ⟨by first|rfl|(simp;done)|(simp [*];done),by repeat (first|exact Drawn0.refl _|apply Drawn0.step)⟩


/-! ### impl_maskOf: function 170 -/
def impl_maskOf.l0:Nat → Int → List Int → Int → Int → Option (Int)
 | 0,_,_,_,_=>none
 | k + 1,x3,x6,x7,x8=>if x8 < x7 then (if 0 ≤ x8 then (if x8 < (x6.length:Int) then (if 0 ≤ (rd x6 x8) then (impl_maskOf.l0 k (Go.bits .or .i64 x3 (shl .i64 1 (rd x6 x8))) x6 x7 (wrap64 (x8 + 1))) else (none)) else (none)) else (none)) else (some x3)
def impl_maskOf.f (k:Nat) (l0:List Int):Option (Int):=impl_maskOf.l0 k 0 l0 (l0.length:Int) 0
theorem impl_maskOf.mono_l:∀ k,(∀ y0 y1 y2 y3,LeO (impl_maskOf.l0 k y0 y1 y2 y3) (impl_maskOf.l0 (k + 1) y0 y1 y2 y3))
 | 0=>fun _ _ _ _ r h=>by simp [impl_maskOf.l0] at h
 | k + 1=>by
  have ih0:=impl_maskOf.mono_l k
  ·intro y0 y1 y2 y3
   unfold impl_maskOf.l0
   repeat' first
   | (with_reducible exact ih0 _ _ _ _)
   | (with_reducible exact LeO.refl _)
   | (with_reducible exact LeO.none _)
   | (with_reducible refine LeO.ite ?_ ?_)
   | (with_reducible refine LeO.bind ?_ (fun _=>?_))
   | exact ih0 _ _ _ _
   | exact LeO.none _
   | refine LeO.ite ?_ ?_
   | refine LeO.bind ?_ (fun _=>?_)
theorem impl_maskOf.mono:∀ a0 k,LeO (impl_maskOf.f k a0) (impl_maskOf.f (k + 1) a0):=by
 intro a0 k
 have ih0:=impl_maskOf.mono_l k
 unfold impl_maskOf.f
 repeat' first
   | (with_reducible exact ih0 _ _ _ _)
   | (with_reducible exact LeO.refl _)
   | (with_reducible exact LeO.none _)
   | (with_reducible refine LeO.ite ?_ ?_)
   | (with_reducible refine LeO.bind ?_ (fun _=>?_))
   | exact ih0 _ _ _ _
   | exact LeO.none _
   | refine LeO.ite ?_ ?_
   | refine LeO.bind ?_ (fun _=>?_)
set_option maxHeartbeats 8000000 in
set_option maxRecDepth 100000 in
theorem impl_maskOf.calls (k:Nat) (A0:Option Addr) (c0:Nat) (l0:List Int) (r:Int) (w:World) (hr0:Kd.C (Kd.int .i64) w A0 l0.length l0) (hc0:l0.length ≤ c0) (h:impl_maskOf.f k l0 = some r) :
  Calls Try.prog 170 #[.slice A0 l0.length c0] w fun e w'=>e = .returned (.int .i64 r) ∧ Drawn0 w w':=by
 have HR0:=Aside0.mk hr0
 have HC0:=Aside0.mk hc0
 clear hr0 hc0
 have H:(impl_maskOf.l0 k 0 l0 (l0.length:Int) 0) = some r:=h
 clear h
 have H':=Aside0.mk H
 clear H
 go_enter Try.func170,Try.ntmps170
 go_wp2
 go_loopg [3,8] k (fun kq v3 v8 w'=>∃ (x3_1:Int) (x8_1:Int),v3 = .int .i64 x3_1 ∧ v8 = .int .i64 x8_1 ∧ Aside0 (impl_maskOf.l0 kq x3_1 l0 (l0.length:Int) x8_1 = some r) ∧ Aside0 (kq ≤ k) ∧ Drawn0 w w')
 case atStart=>exact ⟨(0),(0),(by first|rfl|(simp;done)|(simp [*];done)),(by first|rfl|(simp;done)|(simp [*];done)),H',⟨Nat.le_refl _⟩,by repeat (first|exact Drawn0.refl _|apply Drawn0.step)⟩
 case round =>
  clear H'
  try clear c1
  obtain ⟨x3_1,x8_1,rfl,rfl,HA,HK1,⟨m1,rfl⟩⟩:=hrel
  cases gk with
  | zero=>exact absurd HA.out (by simp [impl_maskOf.l0])
  | succ k1 =>
   have H:=HA.out
   clear HA
   simp only [impl_maskOf.l0] at H
   by_cases c2:x8_1 < (l0.length:Int)
   ·rw [if_pos c2] at H
    have c2b0:decide (x8_1 < (l0.length:Int)) = true:=decide_eq_true c2
    clear c2
    by_cases c3:0 ≤ x8_1
    ·rw [if_pos c3] at H
     have c3b0:decide (0 ≤ x8_1) = true:=decide_eq_true c3
     clear c3
     by_cases c4:x8_1 < (l0.length:Int)
     ·rw [if_pos c4] at H
      have c4b0:decide (x8_1 < (l0.length:Int)) = true:=decide_eq_true c4
      clear c4
      by_cases c5:0 ≤ (rd l0 x8_1)
      ·rw [if_pos c5] at H
       have c5b0:=eq_true c5
       have c5b1:decide (0 ≤ (rd l0 x8_1)) = true:=decide_eq_true c5
       clear c5
       obtain ⟨ji6,hji6⟩:∃ j_:Int,(shl .i64 1 (rd l0 x8_1)) = j_:=⟨_,rfl⟩
       replace H:(impl_maskOf.l0 k1 (Go.bits .or .i64 x3_1 (ji6)) l0 (l0.length:Int) (wrap64 (x8_1 + 1))) = some r:=by first|(rw [hji6] at H;exact H)|(simp only [hji6] at H ⊢;exact H)
       have hji6_:(IntKind.i64.wrap (1 * 2 ^ min (rd l0 x8_1).toNat 64)) = ji6:=hji6
       have hji6z:(rd l0 x8_1) ≤ 64 → (IntKind.i64.wrap (1 * 2 ^ (rd l0 x8_1).toNat)) = ji6:=shl_small hji6
       have hji6u:(IntKind.i64.wrap (2 ^ min (rd l0 x8_1).toNat 64)) = ji6:=by have h_:=hji6_;rw [Int.one_mul] at h_;exact h_
       have hji6v:(rd l0 x8_1) ≤ 64 → (IntKind.i64.wrap (2 ^ (rd l0 x8_1).toNat)) = ji6:=fun hle_=>by have h_:=hji6z hle_;rw [Int.one_mul] at h_;exact h_
       have hji6y:(wrap64 (1 * 2 ^ min (rd l0 x8_1).toNat 64)) = ji6:=(i64_w _).symm.trans hji6_
       have hji6x:(rd l0 x8_1) ≤ 64 → (wrap64 (1 * 2 ^ (rd l0 x8_1).toNat)) = ji6:=fun h_=>(i64_w _).symm.trans (hji6z h_)
       have H':=Aside0.mk H
       clear H
       have p746:0 ≤ (x8_1:Int):=of_decide_eq_true (by first|(with_reducible assumption)|assumption)
       have q746:x8_1 < (l0.length:Int):=of_decide_eq_true (by first|(with_reducible assumption)|assumption)
       obtain ⟨ad746,e746,hx746_0⟩:=Kd.at_int HR0.out x8_1 p746 q746
       cases e746
       replace p746:=eq_true p746
       replace q746:=eq_true q746
       go_wp2
       go_roundg k1
       case measure=>have:=HK1.out;omega
       case rel=>exact ⟨(Go.bits .or .i64 x3_1 (ji6)),(wrap64 (x8_1 + 1)),(by first|rfl|(simp;done)|(simp only [← hji6] <;> (first|rfl|simp))|(simp [*];done)),(by first|rfl|(simp;done)|(simp [*];done)),H',⟨by have:=HK1.out;omega⟩,by repeat (first|exact Drawn0.refl _|apply Drawn0.step)⟩
      ·rw [if_neg c5] at H
       exact absurd H (by simp)
     ·rw [if_neg c4] at H
      exact absurd H (by simp)
    ·rw [if_neg c3] at H
     exact absurd H (by simp)
   ·rw [if_neg c2] at H
    have c2b0:decide (x8_1 < (l0.length:Int)) = false:=decide_eq_false c2
    clear c2
    obtain rfl:=Option.some.inj H
    go_wp2
    go_ret
    exact ⟨by first|rfl|(simp;done)|(simp [*];done),by repeat (first|exact Drawn0.refl _|apply Drawn0.step)⟩


/-! ### impl_IsGame: function 104 -/
mutual
def impl_IsGame.j0:Nat → Bool → Int → List (List Int) → Option (Bool)
 | 0,_,_,_=>none
 | k + 1,x24,x748000,x748001=>if x24 = true then (some false) else (impl_IsGame.l0 k x748001 (x748001.length:Int) 0 x748000 x748001)
def impl_IsGame.l0:Nat → List (List Int) → Int → Int → Int → List (List Int) → Option (Bool)
 | 0,_,_,_,_,_=>none
 | k + 1,x26,x27,x28,x748000,x748001=>if x28 < x27 then (if 0 ≤ x28 then (if x28 < (x26.length:Int) then (if x28 > 0 then (if 0 ≤ (wrap64 (x28 - 1)) then (if (wrap64 (x28 - 1)) < (x748001.length:Int) then ((slices_Compare_int_int.f k (rd_LI x748001 (wrap64 (x28 - 1))) (rd_LI x26 x28)).bind fun t752=>(impl_IsGame.j2 k x28 (rd_LI x26 x28) x26 x27 x28 (decide (t752 ≥ 0)) x748000 x748001)) else (none)) else (none)) else (impl_IsGame.j2 k x28 (rd_LI x26 x28) x26 x27 x28 false x748000 x748001)) else (none)) else (none)) else (some true)
def impl_IsGame.j2:Nat → Int → List Int → List (List Int) → Int → Int → Bool → Int → List (List Int) → Option (Bool)
 | 0,_,_,_,_,_,_,_,_=>none
 | k + 1,x3,x4,x26,x27,x28,x45,x748000,x748001=>if x45 = true then (some false) else (impl_IsGame.l1 k x3 x4 x26 x27 x28 x748001 (x748001.length:Int) 0 x748000 x748001)
def impl_IsGame.l1:Nat → Int → List Int → List (List Int) → Int → Int → List (List Int) → Int → Int → Int → List (List Int) → Option (Bool)
 | 0,_,_,_,_,_,_,_,_,_,_=>none
 | k + 1,x3,x4,x26,x27,x28,x47,x48,x49,x748000,x748001=>if x49 < x48 then (if 0 ≤ x49 then (if x49 < (x47.length:Int) then (if x49 = x3 then (impl_IsGame.l1 k x3 x4 x26 x27 x28 x47 x48 (wrap64 (x49 + 1)) x748000 x748001) else ((impl_maskOf.f k x4).bind fun t754=>((impl_maskOf.f k (rd_LI x47 x49)).bind fun t755=>((impl_maskOf.f k (rd_LI x47 x49)).bind fun t756=>(if (Go.bits .and .i64 t754 t755) = t756 then (some false) else (impl_IsGame.l1 k x3 x4 x26 x27 x28 x47 x48 (wrap64 (x49 + 1)) x748000 x748001)))))) else (none)) else (none)) else (impl_IsGame.l0 k x26 x27 (wrap64 (x28 + 1)) x748000 x748001)
end
def impl_IsGame.f (k:Nat) (a0_0:Int) (l0_1:List (List Int)):Option (Bool):=(impl_within.f a0_0 1 9).bind fun t748=>(if t748 = true then (if (l0_1.length:Int) = 0 then (impl_IsGame.j0 k true a0_0 l0_1) else ((impl_areSets.f k l0_1 a0_0).bind fun t749=>(impl_IsGame.j0 k (!t749) a0_0 l0_1))) else (impl_IsGame.j0 k true a0_0 l0_1))
theorem impl_IsGame.mono_l:∀ k,(∀ y0 y1 y2,LeO (impl_IsGame.j0 k y0 y1 y2) (impl_IsGame.j0 (k + 1) y0 y1 y2)) ∧ (∀ y0 y1 y2 y3 y4,LeO (impl_IsGame.l0 k y0 y1 y2 y3 y4) (impl_IsGame.l0 (k + 1) y0 y1 y2 y3 y4)) ∧ (∀ y0 y1 y2 y3 y4 y5 y6 y7,LeO (impl_IsGame.j2 k y0 y1 y2 y3 y4 y5 y6 y7) (impl_IsGame.j2 (k + 1) y0 y1 y2 y3 y4 y5 y6 y7)) ∧ (∀ y0 y1 y2 y3 y4 y5 y6 y7 y8 y9,LeO (impl_IsGame.l1 k y0 y1 y2 y3 y4 y5 y6 y7 y8 y9) (impl_IsGame.l1 (k + 1) y0 y1 y2 y3 y4 y5 y6 y7 y8 y9))
 | 0=>⟨fun _ _ _ r h=>by simp [impl_IsGame.j0] at h,fun _ _ _ _ _ r h=>by simp [impl_IsGame.l0] at h,fun _ _ _ _ _ _ _ _ r h=>by simp [impl_IsGame.j2] at h,fun _ _ _ _ _ _ _ _ _ _ r h=>by simp [impl_IsGame.l1] at h⟩
 | k + 1=>by
  obtain ⟨ih0,ih1,ih2,ih3⟩:=impl_IsGame.mono_l k
  refine ⟨?_,?_,?_,?_⟩
  ·intro y0 y1 y2
   unfold impl_IsGame.j0
   repeat' first
   | (with_reducible exact ih0 _ _ _)
   | (with_reducible exact ih1 _ _ _ _ _)
   | (with_reducible exact ih2 _ _ _ _ _ _ _ _)
   | (with_reducible exact ih3 _ _ _ _ _ _ _ _ _ _)
   | (with_reducible exact impl_areSets.mono _ _ _)
   | (with_reducible exact impl_maskOf.mono _ _)
   | (with_reducible exact slices_Compare_int_int.mono _ _ _)
   | (with_reducible exact LeO.refl _)
   | (with_reducible exact LeO.none _)
   | (with_reducible refine LeO.ite ?_ ?_)
   | (with_reducible refine LeO.bind ?_ (fun _=>?_))
   | exact ih0 _ _ _
   | exact ih1 _ _ _ _ _
   | exact ih2 _ _ _ _ _ _ _ _
   | exact ih3 _ _ _ _ _ _ _ _ _ _
   | exact impl_areSets.mono _ _ _
   | exact impl_maskOf.mono _ _
   | exact slices_Compare_int_int.mono _ _ _
   | exact LeO.none _
   | refine LeO.ite ?_ ?_
   | refine LeO.bind ?_ (fun _=>?_)
  ·intro y0 y1 y2 y3 y4
   unfold impl_IsGame.l0
   repeat' first
   | (with_reducible exact ih0 _ _ _)
   | (with_reducible exact ih1 _ _ _ _ _)
   | (with_reducible exact ih2 _ _ _ _ _ _ _ _)
   | (with_reducible exact ih3 _ _ _ _ _ _ _ _ _ _)
   | (with_reducible exact impl_areSets.mono _ _ _)
   | (with_reducible exact impl_maskOf.mono _ _)
   | (with_reducible exact slices_Compare_int_int.mono _ _ _)
   | (with_reducible exact LeO.refl _)
   | (with_reducible exact LeO.none _)
   | (with_reducible refine LeO.ite ?_ ?_)
   | (with_reducible refine LeO.bind ?_ (fun _=>?_))
   | exact ih0 _ _ _
   | exact ih1 _ _ _ _ _
   | exact ih2 _ _ _ _ _ _ _ _
   | exact ih3 _ _ _ _ _ _ _ _ _ _
   | exact impl_areSets.mono _ _ _
   | exact impl_maskOf.mono _ _
   | exact slices_Compare_int_int.mono _ _ _
   | exact LeO.none _
   | refine LeO.ite ?_ ?_
   | refine LeO.bind ?_ (fun _=>?_)
  ·intro y0 y1 y2 y3 y4 y5 y6 y7
   unfold impl_IsGame.j2
   repeat' first
   | (with_reducible exact ih0 _ _ _)
   | (with_reducible exact ih1 _ _ _ _ _)
   | (with_reducible exact ih2 _ _ _ _ _ _ _ _)
   | (with_reducible exact ih3 _ _ _ _ _ _ _ _ _ _)
   | (with_reducible exact impl_areSets.mono _ _ _)
   | (with_reducible exact impl_maskOf.mono _ _)
   | (with_reducible exact slices_Compare_int_int.mono _ _ _)
   | (with_reducible exact LeO.refl _)
   | (with_reducible exact LeO.none _)
   | (with_reducible refine LeO.ite ?_ ?_)
   | (with_reducible refine LeO.bind ?_ (fun _=>?_))
   | exact ih0 _ _ _
   | exact ih1 _ _ _ _ _
   | exact ih2 _ _ _ _ _ _ _ _
   | exact ih3 _ _ _ _ _ _ _ _ _ _
   | exact impl_areSets.mono _ _ _
   | exact impl_maskOf.mono _ _
   | exact slices_Compare_int_int.mono _ _ _
   | exact LeO.none _
   | refine LeO.ite ?_ ?_
   | refine LeO.bind ?_ (fun _=>?_)
  ·intro y0 y1 y2 y3 y4 y5 y6 y7 y8 y9
   unfold impl_IsGame.l1
   repeat' first
   | (with_reducible exact ih0 _ _ _)
   | (with_reducible exact ih1 _ _ _ _ _)
   | (with_reducible exact ih2 _ _ _ _ _ _ _ _)
   | (with_reducible exact ih3 _ _ _ _ _ _ _ _ _ _)
   | (with_reducible exact impl_areSets.mono _ _ _)
   | (with_reducible exact impl_maskOf.mono _ _)
   | (with_reducible exact slices_Compare_int_int.mono _ _ _)
   | (with_reducible exact LeO.refl _)
   | (with_reducible exact LeO.none _)
   | (with_reducible refine LeO.ite ?_ ?_)
   | (with_reducible refine LeO.bind ?_ (fun _=>?_))
   | exact ih0 _ _ _
   | exact ih1 _ _ _ _ _
   | exact ih2 _ _ _ _ _ _ _ _
   | exact ih3 _ _ _ _ _ _ _ _ _ _
   | exact impl_areSets.mono _ _ _
   | exact impl_maskOf.mono _ _
   | exact slices_Compare_int_int.mono _ _ _
   | exact LeO.none _
   | refine LeO.ite ?_ ?_
   | refine LeO.bind ?_ (fun _=>?_)
theorem impl_IsGame.mono:∀ a0 a1 k,LeO (impl_IsGame.f k a0 a1) (impl_IsGame.f (k + 1) a0 a1):=by
 intro a0 a1 k
 obtain ⟨ih0,ih1,ih2,ih3⟩:=impl_IsGame.mono_l k
 unfold impl_IsGame.f
 repeat' first
   | (with_reducible exact ih0 _ _ _)
   | (with_reducible exact ih1 _ _ _ _ _)
   | (with_reducible exact ih2 _ _ _ _ _ _ _ _)
   | (with_reducible exact ih3 _ _ _ _ _ _ _ _ _ _)
   | (with_reducible exact impl_areSets.mono _ _ _)
   | (with_reducible exact impl_maskOf.mono _ _)
   | (with_reducible exact slices_Compare_int_int.mono _ _ _)
   | (with_reducible exact LeO.refl _)
   | (with_reducible exact LeO.none _)
   | (with_reducible refine LeO.ite ?_ ?_)
   | (with_reducible refine LeO.bind ?_ (fun _=>?_))
   | exact ih0 _ _ _
   | exact ih1 _ _ _ _ _
   | exact ih2 _ _ _ _ _ _ _ _
   | exact ih3 _ _ _ _ _ _ _ _ _ _
   | exact impl_areSets.mono _ _ _
   | exact impl_maskOf.mono _ _
   | exact slices_Compare_int_int.mono _ _ _
   | exact LeO.none _
   | refine LeO.ite ?_ ?_
   | refine LeO.bind ?_ (fun _=>?_)
set_option maxHeartbeats 8000000 in
set_option maxRecDepth 100000 in
theorem impl_IsGame.calls (k:Nat) (a0_0:Int) (A0_1:Option Addr) (c0_1:Nat) (l0_1:List (List Int)) (r:Bool) (w:World) (hr0_1:Kd.C (Kd.slice 3 (Kd.int .i64)) w A0_1 l0_1.length l0_1) (hc0_1:l0_1.length ≤ c0_1) (h:impl_IsGame.f k a0_0 l0_1 = some r) :
  Calls Try.prog 104 #[.agg #[.int .i64 a0_0,.slice A0_1 l0_1.length c0_1]] w fun e w'=>e = .returned (.bool r) ∧ Below w.heap.size w w':=by
 have hu57:=Try.underlying57
 have HR0_1:=Aside0.mk hr0_1
 have HC0_1:=Aside0.mk hc0_1
 clear hr0_1 hc0_1
 have HB:=Aside0.mk (Below.refl w.heap.size w)
 have H:((impl_within.f a0_0 1 9).bind fun t748=>(if t748 = true then (if (l0_1.length:Int) = 0 then (impl_IsGame.j0 k true a0_0 l0_1) else ((impl_areSets.f k l0_1 a0_0).bind fun t749=>(impl_IsGame.j0 k (!t749) a0_0 l0_1))) else (impl_IsGame.j0 k true a0_0 l0_1))) = some r:=h
 clear h
 have HC2:=Aside0.mk H
 clear H
 go_enter Try.func104,Try.ntmps104
 go_upto_region 1 with (first|((with_reducible refine gate_dst (N:=1) rfl ?_);(try (refine gate_guard (by rfl) ?_;dsimp only));refine box_event ?hg (N:=1) ?hd (cs:=#[.int .i64 a0_0,.slice A0_1 l0_1.length c0_1]) (t:=57) ?hr ?_;(case hd=>rfl);(case hg=>rfl);(case hr=>first|(go_simp;done)|(go_simp;rfl));intro gb747 hg w3 hbox hb;have n0_:=Aside0.mk (below_step (by repeat (first|(with_reducible first|exact HB.out|apply below_alloc|apply pw_below_drewN|apply below_drew1)|exact HB.out)) hb);have n1_:=Aside0.mk (hbox);have n2_:=Aside0.mk ((by rw [hg];exact (below_size (by repeat (first|(with_reducible first|exact HB.out|apply below_alloc|apply pw_below_drewN|apply below_drew1)|exact HB.out))):w.heap.size ≤ gb747));have n3_:=Aside0.mk ((by rw [hg];exact (below_size (by repeat (first|(with_reducible first|exact HB.out|apply below_alloc|apply pw_below_drewN|apply below_drew1)|exact HB.out))):w.heap.size ≤ gb747));clear HB;have HB:=n0_;have BK747:=n1_;have GW747:=n2_;have GE747:=n3_;clear n0_ n1_ n2_ n3_;clear hb hbox hg))
 (try simp only [Act.put,List.setIfInBounds_toArray,List.set_cons_zero,List.set_cons_succ])
 go_cut [24] (fun v24 wc=>∃ (kq:Nat) (x24_1:Bool),v24 = .bool x24_1 ∧ Aside0 (impl_IsGame.j0 kq x24_1 a0_0 l0_1 = some r) ∧ Aside0 (kq ≤ k) ∧ Aside0 (wc.heap[gb747]? = some (.cells #[.int .i64 a0_0,(.slice A0_1 l0_1.length c0_1)] 57 (0,0))) ∧ Aside0 (Below w.heap.size w wc))
 case first =>
  have H:=HC2.out
  clear HC2
  replace H:=Option.bind_eq_some_iff.mp H
  obtain ⟨t748,A40,H⟩:=H
  replace H:(if t748 = true then (if (l0_1.length:Int) = 0 then (impl_IsGame.j0 k true a0_0 l0_1) else ((impl_areSets.f k l0_1 a0_0).bind fun t749=>(impl_IsGame.j0 k (!t749) a0_0 l0_1))) else (impl_IsGame.j0 k true a0_0 l0_1)) = some r:=H
  have A4:=Aside0.mk A40
  clear A40
  by_cases c5:t748 = true
  ·subst c5
   have H1:(if (l0_1.length:Int) = 0 then (impl_IsGame.j0 k true a0_0 l0_1) else ((impl_areSets.f k l0_1 a0_0).bind fun t749=>(impl_IsGame.j0 k (!t749) a0_0 l0_1))) = some r:=by rw [if_pos rfl] at H;exact H
   clear H
   have H:=H1
   clear H1
   by_cases c6:(l0_1.length:Int) = 0
   ·rw [if_pos c6] at H
    have c6b0:((l0_1.length:Int) == 0) = true:=beq_iff_eq.mpr c6
    have c6b1:((l0_1.length:Int) != 0) = false:=bne_eq_false_iff_eq.mpr c6
    clear c6
    (first|rw [c6b0]|(simp only [i64_w,i32_w];rw [c6b0])|skip)
    have H':=Aside0.mk H
    clear H
    have hcz7_0:w3.cell? ⟨gb747,0,none⟩ = some (.int .i64 a0_0):=(blk_cell BK747.out 0).trans rfl
    have hcz7_1:w3.cell? ⟨gb747,1,none⟩ = some (.slice A0_1 l0_1.length c0_1):=(blk_cell BK747.out 1).trans rfl
    have hfz7_0:=blk_frozen BK747.out 0
    have hfz7_1:=blk_frozen BK747.out 1
    go_wp2_with (first|((with_reducible refine gate_callee (f:=69) rfl ?_);refine goesL_ (some 9) rfl rfl Try.func69 (by kernel_rfl) rfl #[.int .i64 a0_0,.int .i64 1,.int .i64 9] rfl (by (try simp only [List.map_toArray,List.map_cons,List.map_nil]);first|done|rfl|(simp only [List.length_drop,List.length_take];rfl)) ?_;(with_reducible refine (impl_within.calls a0_0 1 9 true _ A4.out).mono ?_);rintro e w' ⟨rfl,⟨nd,rfl⟩⟩;refine ⟨_,rfl,?_⟩))
    go_meet
    case rel=>exact ⟨_,(true),(by first|rfl|(simp;done)|(simp [*];done)),H',⟨by first|omega|exact Nat.le_refl _⟩,⟨by (with_reducible repeat (first|refine blk_drewN ?_ _|refine blk_drew ?_|refine blk_alloc ?_ _));exact BK747.out⟩,⟨by repeat (first|(with_reducible first|exact HB.out|apply below_alloc|apply pw_below_drewN|apply below_drew1|refine below_set ?_ GE747.out)|exact HB.out)⟩⟩
   ·rw [if_neg c6] at H
    have c6b0:((l0_1.length:Int) == 0) = false:=beq_eq_false_iff_ne.mpr c6
    have c6b1:((l0_1.length:Int) != 0) = true:=bne_iff_ne.mpr c6
    have c6b2:¬ (l0_1 = []):=fun h_=>c6 (by rw [h_];rfl)
    (first|rw [c6b0]|(simp only [i64_w,i32_w];rw [c6b0])|skip)
    replace H:=Option.bind_eq_some_iff.mp H
    obtain ⟨t749,A80,H⟩:=H
    replace H:(impl_IsGame.j0 k (!t749) a0_0 l0_1) = some r:=H
    have A8:=Aside0.mk A80
    clear A80
    have H':=Aside0.mk H
    clear H
    have hcz9_0:w3.cell? ⟨gb747,0,none⟩ = some (.int .i64 a0_0):=(blk_cell BK747.out 0).trans rfl
    have hcz9_1:w3.cell? ⟨gb747,1,none⟩ = some (.slice A0_1 l0_1.length c0_1):=(blk_cell BK747.out 1).trans rfl
    have hfz9_0:=blk_frozen BK747.out 0
    have hfz9_1:=blk_frozen BK747.out 1
    go_wp2_with (first|((with_reducible refine gate_callee (f:=69) rfl ?_);refine goesL_ (some 9) rfl rfl Try.func69 (by kernel_rfl) rfl #[.int .i64 a0_0,.int .i64 1,.int .i64 9] rfl (by (try simp only [List.map_toArray,List.map_cons,List.map_nil]);first|done|rfl|(simp only [List.length_drop,List.length_take];rfl)) ?_;(with_reducible refine (impl_within.calls a0_0 1 9 true _ A4.out).mono ?_);rintro e w' ⟨rfl,⟨nd,rfl⟩⟩;refine ⟨_,rfl,?_⟩)|(go_at_call 168;(with_reducible refine (impl_areSets.calls k _ _ l0_1 a0_0 t749 _ ?side1 ?side2 A8.out).mono ?_);(case side1=>repeat (first|exact (Kd.C_below HR0_1.out (by repeat (first|(with_reducible first|exact HB.out|apply below_alloc|apply pw_below_drewN|apply below_drew1|refine below_set ?_ GE747.out)|exact HB.out)))|(with_reducible refine Kd.C_alloc ?_ _)|(with_reducible refine Kd.C_drewN ?_ _)|(with_reducible refine Kd.C_drew ?_)));(case side2=>exact HC0_1.out);rintro e w10 ⟨rfl,hb⟩;have n0_:=Aside0.mk (blk_below (g:=gb747) (o:=.cells #[.int .i64 a0_0,.slice A0_1 l0_1.length c0_1] 57 (0,0)) (by (with_reducible repeat (first|refine blk_drewN ?_ _|refine blk_drew ?_|refine blk_alloc ?_ _));exact BK747.out) hb);have n1_:=Aside0.mk (below_step (by repeat (first|(with_reducible first|exact HB.out|apply below_alloc|apply pw_below_drewN|apply below_drew1|refine below_set ?_ GE747.out)|exact HB.out)) hb);clear BK747;clear HB;have BK747:=n0_;have HB:=n1_;clear n0_ n1_;(try clear hb);(try clear hb2);(try clear hk);(try clear hi)))
    go_meet
    case rel=>exact ⟨_,(!t749),(by first|rfl|(simp;done)|(simp [*];done)),H',⟨by first|omega|exact Nat.le_refl _⟩,⟨by (with_reducible repeat (first|refine blk_drewN ?_ _|refine blk_drew ?_|refine blk_alloc ?_ _));exact BK747.out⟩,⟨by repeat (first|(with_reducible first|exact HB.out|apply below_alloc|apply pw_below_drewN|apply below_drew1|refine below_set ?_ GE747.out)|exact HB.out)⟩⟩
  ·replace c5:=Bool.eq_false_iff.mpr c5
   subst c5
   have H1:(impl_IsGame.j0 k true a0_0 l0_1) = some r:=by rw [if_neg (show ¬ (false = true) by decide)] at H;exact H
   clear H
   have H:=H1
   clear H1
   have H':=Aside0.mk H
   clear H
   have hcz11_0:w3.cell? ⟨gb747,0,none⟩ = some (.int .i64 a0_0):=(blk_cell BK747.out 0).trans rfl
   have hcz11_1:w3.cell? ⟨gb747,1,none⟩ = some (.slice A0_1 l0_1.length c0_1):=(blk_cell BK747.out 1).trans rfl
   have hfz11_0:=blk_frozen BK747.out 0
   have hfz11_1:=blk_frozen BK747.out 1
   go_wp2_with (first|((with_reducible refine gate_callee (f:=69) rfl ?_);refine goesL_ (some 9) rfl rfl Try.func69 (by kernel_rfl) rfl #[.int .i64 a0_0,.int .i64 1,.int .i64 9] rfl (by (try simp only [List.map_toArray,List.map_cons,List.map_nil]);first|done|rfl|(simp only [List.length_drop,List.length_take];rfl)) ?_;(with_reducible refine (impl_within.calls a0_0 1 9 false _ A4.out).mono ?_);rintro e w' ⟨rfl,⟨nd,rfl⟩⟩;refine ⟨_,rfl,?_⟩))
   go_meet
   case rel=>exact ⟨_,(true),(by first|rfl|(simp;done)|(simp [*];done)),H',⟨by first|omega|exact Nat.le_refl _⟩,⟨by (with_reducible repeat (first|refine blk_drewN ?_ _|refine blk_drew ?_|refine blk_alloc ?_ _));exact BK747.out⟩,⟨by repeat (first|(with_reducible first|exact HB.out|apply below_alloc|apply pw_below_drewN|apply below_drew1|refine below_set ?_ GE747.out)|exact HB.out)⟩⟩
 case rest =>
  clear HC2
  try clear c1
  try clear p2
  try clear c5
  try clear c6
  try clear c6b0
  try clear c6b1
  try clear c6b2
  try clear c10
  try clear hcz11_0
  try clear hcz11_1
  try clear hcz7_0
  try clear hcz7_1
  try clear hcz9_0
  try clear hcz9_1
  try clear hfz11_0
  try clear hfz11_1
  try clear hfz7_0
  try clear hfz7_1
  try clear hfz9_0
  try clear hfz9_1
  obtain ⟨kq,x24_1,rfl,HA,HJ1,BK747,HB⟩:=hcut
  cases kq with
  | zero=>exact absurd HA.out (by simp [impl_IsGame.j0])
  | succ kj1 =>
   have H:=HA.out
   clear HA
   simp only [impl_IsGame.j0] at H
   by_cases c12:x24_1 = true
   ·subst c12
    have H1:(some false) = some r:=by rw [if_pos rfl] at H;exact H
    clear H
    have H:=H1
    clear H1
    obtain rfl:=Option.some.inj H
    go_wp2
    go_ret
    exact ⟨by first|rfl|(simp [errW_none,errW_some] <;> rfl)|(simp [*,errW_none,errW_some] <;> rfl),by repeat (first|(with_reducible first|exact HB.out|apply below_alloc|apply pw_below_drewN|apply below_drew1|refine below_set ?_ GE747.out)|exact HB.out)⟩
   ·replace c12:=Bool.eq_false_iff.mpr c12
    subst c12
    have H1:(impl_IsGame.l0 kj1 l0_1 (l0_1.length:Int) 0 a0_0 l0_1) = some r:=by rw [if_neg (show ¬ (false = true) by decide)] at H;exact H
    clear H
    have H:=H1
    clear H1
    have H':=Aside0.mk H
    clear H
    have hcz13_0:wc.cell? ⟨gb747,0,none⟩ = some (.int .i64 a0_0):=(blk_cell BK747.out 0).trans rfl
    have hcz13_1:wc.cell? ⟨gb747,1,none⟩ = some (.slice A0_1 l0_1.length c0_1):=(blk_cell BK747.out 1).trans rfl
    have hfz13_0:=blk_frozen BK747.out 0
    have hfz13_1:=blk_frozen BK747.out 1
    go_wp2
    go_loopg [28] kj1 (fun kq v28 w'=>∃ (x28_2:Int),v28 = .int .i64 x28_2 ∧ Aside0 (impl_IsGame.l0 kq l0_1 (l0_1.length:Int) x28_2 a0_0 l0_1 = some r) ∧ Aside0 (kq ≤ kj1) ∧ Aside0 (w'.heap[gb747]? = some (.cells #[.int .i64 a0_0,(.slice A0_1 l0_1.length c0_1)] 57 (0,0))) ∧ Aside0 (Below w.heap.size w w'))
    case atStart=>exact ⟨(0),(by first|rfl|(simp;done)|(simp [*];done)),H',⟨Nat.le_refl _⟩,⟨by (with_reducible repeat (first|refine blk_drewN ?_ _|refine blk_drew ?_|refine blk_alloc ?_ _));exact BK747.out⟩,⟨by repeat (first|(with_reducible first|exact HB.out|apply below_alloc|apply pw_below_drewN|apply below_drew1|refine below_set ?_ GE747.out)|exact HB.out)⟩⟩
    case round =>
     clear H'
     try clear c1
     try clear p2
     try clear c5
     try clear c6
     try clear c6b0
     try clear c6b1
     try clear c6b2
     try clear c10
     try clear c12
     try clear hcz11_0
     try clear hcz11_1
     try clear hcz13_0
     try clear hcz13_1
     try clear hcz7_0
     try clear hcz7_1
     try clear hcz9_0
     try clear hcz9_1
     try clear hfz11_0
     try clear hfz11_1
     try clear hfz13_0
     try clear hfz13_1
     try clear hfz7_0
     try clear hfz7_1
     try clear hfz9_0
     try clear hfz9_1
     try clear p2
     obtain ⟨x28_2,rfl,HA,HK2,BK747,HB⟩:=hrel
     cases gk with
     | zero=>exact absurd HA.out (by simp [impl_IsGame.l0])
     | succ k2 =>
      have H:=HA.out
      clear HA
      simp only [impl_IsGame.l0] at H
      by_cases c14:x28_2 < (l0_1.length:Int)
      ·rw [if_pos c14] at H
       have c14b0:decide (x28_2 < (l0_1.length:Int)) = true:=decide_eq_true c14
       clear c14
       by_cases c15:0 ≤ x28_2
       ·rw [if_pos c15] at H
        have c15b0:decide (0 ≤ x28_2) = true:=decide_eq_true c15
        clear c15
        by_cases c16:x28_2 < (l0_1.length:Int)
        ·rw [if_pos c16] at H
         have c16b0:decide (x28_2 < (l0_1.length:Int)) = true:=decide_eq_true c16
         clear c16
         have HC17:=Aside0.mk H
         clear H
         have p750:0 ≤ (x28_2:Int):=of_decide_eq_true (by first|(with_reducible assumption)|assumption)
         have q750:x28_2 < (l0_1.length:Int):=of_decide_eq_true (by first|(with_reducible assumption)|assumption)
         obtain ⟨ad750,A750_0,c750_0,e750,hx750_0,hl750_0,hi750_0⟩:=at_LI HR0_1.out x28_2 p750 q750
         cases e750
         replace hx750_0:=(HB.out.cell (World.block_lt_of_cell? w _ hx750_0)).trans hx750_0
         have HR750_0:=Aside0.mk hi750_0
         have HC750_0:=Aside0.mk hl750_0
         clear hi750_0 hl750_0
         replace p750:=eq_true p750
         replace q750:=eq_true q750
         go_upto_region 6 with (fail)
         go_cut [45] (fun v45 wc=>∃ (kq:Nat) (x45_16:Bool),v45 = .bool x45_16 ∧ Aside0 (impl_IsGame.j2 kq x28_2 (rd_LI l0_1 x28_2) l0_1 (l0_1.length:Int) x28_2 x45_16 a0_0 l0_1 = some r) ∧ Aside0 (kq ≤ k2) ∧ Aside0 (wc.heap[gb747]? = some (.cells #[.int .i64 a0_0,(.slice (some ad750) l0_1.length c0_1)] 57 (0,0))) ∧ Aside0 (Below w.heap.size w wc))
         case first =>
          have H:=HC17.out
          clear HC17
          by_cases c18:x28_2 > 0
          ·rw [if_pos c18] at H
           have c18b0:decide (0 < x28_2) = true:=decide_eq_true c18
           clear c18
           (first|rw [c18b0]|(simp only [i64_w,i32_w];rw [c18b0])|skip)
           obtain ⟨ji19,hji19⟩:∃ j_:Int,(wrap64 (x28_2 - 1)) = j_:=⟨_,rfl⟩
           replace H:(if 0 ≤ (ji19) then (if (ji19) < (l0_1.length:Int) then ((slices_Compare_int_int.f k2 (rd_LI l0_1 (ji19)) (rd_LI l0_1 x28_2)).bind fun t752=>(impl_IsGame.j2 k2 x28_2 (rd_LI l0_1 x28_2) l0_1 (l0_1.length:Int) x28_2 (decide (t752 ≥ 0)) a0_0 l0_1)) else (none)) else (none)) = some r:=by first|(rw [hji19] at H;exact H)|(simp only [hji19] at H ⊢;exact H)
           have hji19w:(IntKind.i64.wrap (x28_2 - 1)) = ji19:=(i64_w _).trans hji19
           by_cases c20:0 ≤ (ji19)
           ·rw [if_pos c20] at H
            have c20b0:decide (0 ≤ (ji19)) = true:=decide_eq_true c20
            clear c20
            by_cases c21:(ji19) < (l0_1.length:Int)
            ·rw [if_pos c21] at H
             have c21b0:decide ((ji19) < (l0_1.length:Int)) = true:=decide_eq_true c21
             clear c21
             replace H:=Option.bind_eq_some_iff.mp H
             obtain ⟨t752,A220,H⟩:=H
             replace H:(impl_IsGame.j2 k2 x28_2 (rd_LI l0_1 x28_2) l0_1 (l0_1.length:Int) x28_2 (decide (t752 ≥ 0)) a0_0 l0_1) = some r:=H
             have A22:=Aside0.mk A220
             clear A220
             have H':=Aside0.mk H
             clear H
             have hcz23_0:wr.cell? ⟨gb747,0,none⟩ = some (.int .i64 a0_0):=(blk_cell BK747.out 0).trans rfl
             have hcz23_1:wr.cell? ⟨gb747,1,none⟩ = some (.slice (some ad750) l0_1.length c0_1):=(blk_cell BK747.out 1).trans rfl
             have hfz23_0:=blk_frozen BK747.out 0
             have hfz23_1:=blk_frozen BK747.out 1
             have p751:0 ≤ ((ji19):Int):=of_decide_eq_true (by first|(with_reducible assumption)|assumption)
             have q751:(ji19) < (l0_1.length:Int):=of_decide_eq_true (by first|(with_reducible assumption)|assumption)
             obtain ⟨ad751,A751_0,c751_0,e751,hx751_0,hl751_0,hi751_0⟩:=at_LI HR0_1.out (ji19) p751 q751
             obtain rfl:ad750 = ad751:=(by injection e751)
             replace hx751_0:=(HB.out.cell (World.block_lt_of_cell? w _ hx751_0)).trans hx751_0
             have HR751_0:=Aside0.mk hi751_0
             have HC751_0:=Aside0.mk hl751_0
             clear hi751_0 hl751_0
             replace p751:=eq_true p751
             replace q751:=eq_true q751
             go_wp2_with (first|(go_at_call 169;(with_reducible refine (slices_Compare_int_int.calls k2 _ _ (rd_LI l0_1 (ji19)) _ _ (rd_LI l0_1 x28_2) t752 _ ?side1 ?side2 ?side3 ?side4 A22.out).mono ?_);(case side1=>repeat (first|exact (Kd.C_below HR751_0.out HB.out)|(with_reducible refine Kd.C_alloc ?_ _)|(with_reducible refine Kd.C_drewN ?_ _)|(with_reducible refine Kd.C_drew ?_)));(case side2=>exact HC751_0.out);(case side3=>repeat (first|exact (Kd.C_below HR750_0.out HB.out)|(with_reducible refine Kd.C_alloc ?_ _)|(with_reducible refine Kd.C_drewN ?_ _)|(with_reducible refine Kd.C_drew ?_)));(case side4=>exact HC750_0.out);rintro e w' ⟨rfl,⟨nd,rfl⟩⟩))
             go_meet
             case rel=>exact ⟨_,(decide (t752 ≥ 0)),(by first|rfl|(simp;done)|(simp [*];done)),H',⟨by have:=HJ1.out;have:=HK2.out;first|omega|exact Nat.le_refl _⟩,⟨by (with_reducible repeat (first|refine blk_drewN ?_ _|refine blk_drew ?_|refine blk_alloc ?_ _));exact BK747.out⟩,⟨by repeat (first|(with_reducible first|exact HB.out|apply below_alloc|apply pw_below_drewN|apply below_drew1|refine below_set ?_ GE747.out)|exact HB.out)⟩⟩
            ·rw [if_neg c21] at H
             exact absurd H (by simp)
           ·rw [if_neg c20] at H
            exact absurd H (by simp)
          ·rw [if_neg c18] at H
           have c18b0:decide (0 < x28_2) = false:=decide_eq_false c18
           clear c18
           (first|rw [c18b0]|(simp only [i64_w,i32_w];rw [c18b0])|skip)
           have H':=Aside0.mk H
           clear H
           go_wp2
           go_meet
           case rel=>exact ⟨_,(false),(by first|rfl|(simp;done)|(simp [*];done)),H',⟨by have:=HJ1.out;have:=HK2.out;first|omega|exact Nat.le_refl _⟩,⟨by (with_reducible repeat (first|refine blk_drewN ?_ _|refine blk_drew ?_|refine blk_alloc ?_ _));exact BK747.out⟩,⟨by repeat (first|(with_reducible first|exact HB.out|apply below_alloc|apply pw_below_drewN|apply below_drew1|refine below_set ?_ GE747.out)|exact HB.out)⟩⟩
         case rest =>
          clear HC17
          try clear c1
          try clear c2
          try clear p2
          try clear c5
          try clear c6
          try clear c6b0
          try clear c6b1
          try clear c6b2
          try clear p6
          try clear c7
          try clear p7
          try clear q7
          try clear hx7
          try clear c10
          try clear c12
          try clear c14
          try clear c14b0
          try clear c15
          try clear c15b0
          try clear c16
          try clear c16b0
          try clear c18
          try clear c18b0
          try clear c20
          try clear c20b0
          try clear c21
          try clear c21b0
          try clear hcz11_0
          try clear hcz11_1
          try clear hcz13_0
          try clear hcz13_1
          try clear hcz23_0
          try clear hcz23_1
          try clear hcz7_0
          try clear hcz7_1
          try clear hcz9_0
          try clear hcz9_1
          try clear hfz11_0
          try clear hfz11_1
          try clear hfz13_0
          try clear hfz13_1
          try clear hfz23_0
          try clear hfz23_1
          try clear hfz7_0
          try clear hfz7_1
          try clear hfz9_0
          try clear hfz9_1
          try clear hx750_0
          try clear hx751_0
          try clear p2
          try clear p750
          try clear p751
          try clear q750
          try clear q751
          obtain ⟨kq,x45_16,rfl,HA,HJ16,BK747,HB⟩:=hcut
          cases kq with
          | zero=>exact absurd HA.out (by simp [impl_IsGame.j2])
          | succ kj16 =>
           have H:=HA.out
           clear HA
           simp only [impl_IsGame.j2] at H
           by_cases c24:x45_16 = true
           ·subst c24
            have H1:(some false) = some r:=by rw [if_pos rfl] at H;exact H
            clear H
            have H:=H1
            clear H1
            obtain rfl:=Option.some.inj H
            go_wp2
            go_ret
            exact ⟨by first|rfl|(simp [errW_none,errW_some] <;> rfl)|(simp [*,errW_none,errW_some] <;> rfl),by repeat (first|(with_reducible first|exact HB.out|apply below_alloc|apply pw_below_drewN|apply below_drew1|refine below_set ?_ GE747.out)|exact HB.out)⟩
           ·replace c24:=Bool.eq_false_iff.mpr c24
            subst c24
            have H1:(impl_IsGame.l1 kj16 x28_2 (rd_LI l0_1 x28_2) l0_1 (l0_1.length:Int) x28_2 l0_1 (l0_1.length:Int) 0 a0_0 l0_1) = some r:=by rw [if_neg (show ¬ (false = true) by decide)] at H;exact H
            clear H
            have H:=H1
            clear H1
            have H':=Aside0.mk H
            clear H
            have hcz25_0:wc.cell? ⟨gb747,0,none⟩ = some (.int .i64 a0_0):=(blk_cell BK747.out 0).trans rfl
            have hcz25_1:wc.cell? ⟨gb747,1,none⟩ = some (.slice (some ad750) l0_1.length c0_1):=(blk_cell BK747.out 1).trans rfl
            have hfz25_0:=blk_frozen BK747.out 0
            have hfz25_1:=blk_frozen BK747.out 1
            go_wp2
            go_loopg [49] kj16 (fun kq v49 w'=>∃ (x49_4:Int),v49 = .int .i64 x49_4 ∧ Aside0 (impl_IsGame.l1 kq x28_2 (rd_LI l0_1 x28_2) l0_1 (l0_1.length:Int) x28_2 l0_1 (l0_1.length:Int) x49_4 a0_0 l0_1 = some r) ∧ Aside0 (kq ≤ kj16) ∧ Aside0 (w'.heap[gb747]? = some (.cells #[.int .i64 a0_0,(.slice (some ad750) l0_1.length c0_1)] 57 (0,0))) ∧ Aside0 (Below w.heap.size w w'))
            case atStart=>exact ⟨(0),(by first|rfl|(simp;done)|(simp [*];done)),H',⟨Nat.le_refl _⟩,⟨by (with_reducible repeat (first|refine blk_drewN ?_ _|refine blk_drew ?_|refine blk_alloc ?_ _));exact BK747.out⟩,⟨by repeat (first|(with_reducible first|exact HB.out|apply below_alloc|apply pw_below_drewN|apply below_drew1|refine below_set ?_ GE747.out)|exact HB.out)⟩⟩
            case round =>
             clear H'
             try clear c1
             try clear c2
             try clear p2
             try clear c5
             try clear c6
             try clear c6b0
             try clear c6b1
             try clear c6b2
             try clear p6
             try clear c7
             try clear p7
             try clear q7
             try clear hx7
             try clear c10
             try clear c12
             try clear c14
             try clear c14b0
             try clear c15
             try clear c15b0
             try clear c16
             try clear c16b0
             try clear c18
             try clear c18b0
             try clear c20
             try clear c20b0
             try clear c21
             try clear c21b0
             try clear c24
             try clear hcz11_0
             try clear hcz11_1
             try clear hcz13_0
             try clear hcz13_1
             try clear hcz23_0
             try clear hcz23_1
             try clear hcz25_0
             try clear hcz25_1
             try clear hcz7_0
             try clear hcz7_1
             try clear hcz9_0
             try clear hcz9_1
             try clear hfz11_0
             try clear hfz11_1
             try clear hfz13_0
             try clear hfz13_1
             try clear hfz23_0
             try clear hfz23_1
             try clear hfz25_0
             try clear hfz25_1
             try clear hfz7_0
             try clear hfz7_1
             try clear hfz9_0
             try clear hfz9_1
             try clear hx750_0
             try clear hx751_0
             try clear p2
             try clear p6
             try clear p7
             try clear p750
             try clear p751
             try clear q7
             try clear q750
             try clear q751
             obtain ⟨x49_4,rfl,HA,HK4,BK747,HB⟩:=hrel
             cases gk with
             | zero=>exact absurd HA.out (by simp [impl_IsGame.l1])
             | succ k4 =>
              have H:=HA.out
              clear HA
              simp only [impl_IsGame.l1] at H
              by_cases c26:x49_4 < (l0_1.length:Int)
              ·rw [if_pos c26] at H
               have c26b0:decide (x49_4 < (l0_1.length:Int)) = true:=decide_eq_true c26
               clear c26
               by_cases c27:0 ≤ x49_4
               ·rw [if_pos c27] at H
                have c27b0:decide (0 ≤ x49_4) = true:=decide_eq_true c27
                clear c27
                by_cases c28:x49_4 < (l0_1.length:Int)
                ·rw [if_pos c28] at H
                 have c28b0:decide (x49_4 < (l0_1.length:Int)) = true:=decide_eq_true c28
                 clear c28
                 by_cases c29:x49_4 = x28_2
                 ·rw [if_pos c29] at H
                  have c29b0:(x49_4 == x28_2) = true:=beq_iff_eq.mpr c29
                  have c29b1:(x49_4 != x28_2) = false:=bne_eq_false_iff_eq.mpr c29
                  clear c29
                  have H':=Aside0.mk H
                  clear H
                  have p753:0 ≤ (x49_4:Int):=of_decide_eq_true (by first|(with_reducible assumption)|assumption)
                  have q753:x49_4 < (l0_1.length:Int):=of_decide_eq_true (by first|(with_reducible assumption)|assumption)
                  obtain ⟨ad753,A753_0,c753_0,e753,hx753_0,hl753_0,hi753_0⟩:=at_LI HR0_1.out x49_4 p753 q753
                  obtain rfl:ad750 = ad753:=(by injection e753)
                  replace hx753_0:=(HB.out.cell (World.block_lt_of_cell? w _ hx753_0)).trans hx753_0
                  have HR753_0:=Aside0.mk hi753_0
                  have HC753_0:=Aside0.mk hl753_0
                  clear hi753_0 hl753_0
                  replace p753:=eq_true p753
                  replace q753:=eq_true q753
                  go_wp2
                  go_roundg k4
                  case measure=>have:=HJ1.out;have:=HK2.out;have:=HJ16.out;have:=HK4.out;omega
                  case rel=>exact ⟨(wrap64 (x49_4 + 1)),(by first|rfl|(simp;done)|(simp [*];done)),H',⟨by have:=HJ1.out;have:=HK2.out;have:=HJ16.out;have:=HK4.out;omega⟩,⟨by (with_reducible repeat (first|refine blk_drewN ?_ _|refine blk_drew ?_|refine blk_alloc ?_ _));exact BK747.out⟩,⟨by repeat (first|(with_reducible first|exact HB.out|apply below_alloc|apply pw_below_drewN|apply below_drew1|refine below_set ?_ GE747.out)|exact HB.out)⟩⟩
                 ·rw [if_neg c29] at H
                  have c29b0:(x49_4 == x28_2) = false:=beq_eq_false_iff_ne.mpr c29
                  have c29b1:(x49_4 != x28_2) = true:=bne_iff_ne.mpr c29
                  replace H:=Option.bind_eq_some_iff.mp H
                  obtain ⟨t754,A300,H⟩:=H
                  replace H:((impl_maskOf.f k4 (rd_LI l0_1 x49_4)).bind fun t755=>((impl_maskOf.f k4 (rd_LI l0_1 x49_4)).bind fun t756=>(if (Go.bits .and .i64 t754 t755) = t756 then (some false) else (impl_IsGame.l1 k4 x28_2 (rd_LI l0_1 x28_2) l0_1 (l0_1.length:Int) x28_2 l0_1 (l0_1.length:Int) (wrap64 (x49_4 + 1)) a0_0 l0_1)))) = some r:=H
                  have A30:=Aside0.mk A300
                  clear A300
                  replace H:=Option.bind_eq_some_iff.mp H
                  obtain ⟨t755,A310,H⟩:=H
                  replace H:((impl_maskOf.f k4 (rd_LI l0_1 x49_4)).bind fun t756=>(if (Go.bits .and .i64 t754 t755) = t756 then (some false) else (impl_IsGame.l1 k4 x28_2 (rd_LI l0_1 x28_2) l0_1 (l0_1.length:Int) x28_2 l0_1 (l0_1.length:Int) (wrap64 (x49_4 + 1)) a0_0 l0_1))) = some r:=H
                  have A31:=Aside0.mk A310
                  clear A310
                  replace H:=Option.bind_eq_some_iff.mp H
                  obtain ⟨t756,A320,H⟩:=H
                  replace H:(if (Go.bits .and .i64 t754 t755) = t756 then (some false) else (impl_IsGame.l1 k4 x28_2 (rd_LI l0_1 x28_2) l0_1 (l0_1.length:Int) x28_2 l0_1 (l0_1.length:Int) (wrap64 (x49_4 + 1)) a0_0 l0_1)) = some r:=H
                  have A32:=Aside0.mk A320
                  clear A320
                  obtain rfl:t755 = t756:=Option.some.inj (A31.out.symm.trans A32.out)
                  by_cases c33:(Go.bits .and .i64 t754 t755) = t755
                  ·rw [if_pos c33] at H
                   have c33b0:((Go.bits .and .i64 t754 t755) == t755) = true:=beq_iff_eq.mpr c33
                   have c33b1:((Go.bits .and .i64 t754 t755) != t755) = false:=bne_eq_false_iff_eq.mpr c33
                   clear c33
                   obtain rfl:=Option.some.inj H
                   have p753:0 ≤ (x49_4:Int):=of_decide_eq_true (by first|(with_reducible assumption)|assumption)
                   have q753:x49_4 < (l0_1.length:Int):=of_decide_eq_true (by first|(with_reducible assumption)|assumption)
                   obtain ⟨ad753,A753_0,c753_0,e753,hx753_0,hl753_0,hi753_0⟩:=at_LI HR0_1.out x49_4 p753 q753
                   obtain rfl:ad750 = ad753:=(by injection e753)
                   replace hx753_0:=(HB.out.cell (World.block_lt_of_cell? w _ hx753_0)).trans hx753_0
                   have HR753_0:=Aside0.mk hi753_0
                   have HC753_0:=Aside0.mk hl753_0
                   clear hi753_0 hl753_0
                   replace p753:=eq_true p753
                   replace q753:=eq_true q753
                   go_wp2_with (first|(go_at_call 170;(with_reducible refine (impl_maskOf.calls k4 _ _ (rd_LI l0_1 x28_2) t754 _ ?side1 ?side2 A30.out).mono ?_);(case side1=>repeat (first|exact (Kd.C_below HR750_0.out HB.out)|(with_reducible refine Kd.C_alloc ?_ _)|(with_reducible refine Kd.C_drewN ?_ _)|(with_reducible refine Kd.C_drew ?_)));(case side2=>exact HC750_0.out);rintro e w' ⟨rfl,⟨nd,rfl⟩⟩)|(go_at_call 170;(with_reducible refine (impl_maskOf.calls k4 _ _ (rd_LI l0_1 x49_4) t755 _ ?side1 ?side2 A31.out).mono ?_);(case side1=>repeat (first|exact (Kd.C_below HR753_0.out (by repeat (first|(with_reducible first|exact HB.out|apply below_alloc|apply pw_below_drewN|apply below_drew1|refine below_set ?_ GE747.out)|exact HB.out)))|(with_reducible refine Kd.C_alloc ?_ _)|(with_reducible refine Kd.C_drewN ?_ _)|(with_reducible refine Kd.C_drew ?_)));(case side2=>exact HC753_0.out);rintro e w' ⟨rfl,⟨nd,rfl⟩⟩)|(go_at_call 170;(with_reducible refine (impl_maskOf.calls k4 _ _ (rd_LI l0_1 x49_4) t755 _ ?side1 ?side2 A32.out).mono ?_);(case side1=>repeat (first|exact (Kd.C_below HR753_0.out (by repeat (first|(with_reducible first|exact HB.out|apply below_alloc|apply pw_below_drewN|apply below_drew1|refine below_set ?_ GE747.out)|exact HB.out)))|(with_reducible refine Kd.C_alloc ?_ _)|(with_reducible refine Kd.C_drewN ?_ _)|(with_reducible refine Kd.C_drew ?_)));(case side2=>exact HC753_0.out);rintro e w' ⟨rfl,⟨nd,rfl⟩⟩))
                   go_ret
                   exact ⟨by first|rfl|(simp [errW_none,errW_some] <;> rfl)|(simp [*,errW_none,errW_some] <;> rfl),by repeat (first|(with_reducible first|exact HB.out|apply below_alloc|apply pw_below_drewN|apply below_drew1|refine below_set ?_ GE747.out)|exact HB.out)⟩
                  ·rw [if_neg c33] at H
                   have c33b0:((Go.bits .and .i64 t754 t755) == t755) = false:=beq_eq_false_iff_ne.mpr c33
                   have c33b1:((Go.bits .and .i64 t754 t755) != t755) = true:=bne_iff_ne.mpr c33
                   have H':=Aside0.mk H
                   clear H
                   have p753:0 ≤ (x49_4:Int):=of_decide_eq_true (by first|(with_reducible assumption)|assumption)
                   have q753:x49_4 < (l0_1.length:Int):=of_decide_eq_true (by first|(with_reducible assumption)|assumption)
                   obtain ⟨ad753,A753_0,c753_0,e753,hx753_0,hl753_0,hi753_0⟩:=at_LI HR0_1.out x49_4 p753 q753
                   obtain rfl:ad750 = ad753:=(by injection e753)
                   replace hx753_0:=(HB.out.cell (World.block_lt_of_cell? w _ hx753_0)).trans hx753_0
                   have HR753_0:=Aside0.mk hi753_0
                   have HC753_0:=Aside0.mk hl753_0
                   clear hi753_0 hl753_0
                   replace p753:=eq_true p753
                   replace q753:=eq_true q753
                   go_wp2_with (first|(go_at_call 170;(with_reducible refine (impl_maskOf.calls k4 _ _ (rd_LI l0_1 x28_2) t754 _ ?side1 ?side2 A30.out).mono ?_);(case side1=>repeat (first|exact (Kd.C_below HR750_0.out HB.out)|(with_reducible refine Kd.C_alloc ?_ _)|(with_reducible refine Kd.C_drewN ?_ _)|(with_reducible refine Kd.C_drew ?_)));(case side2=>exact HC750_0.out);rintro e w' ⟨rfl,⟨nd,rfl⟩⟩)|(go_at_call 170;(with_reducible refine (impl_maskOf.calls k4 _ _ (rd_LI l0_1 x49_4) t755 _ ?side1 ?side2 A31.out).mono ?_);(case side1=>repeat (first|exact (Kd.C_below HR753_0.out (by repeat (first|(with_reducible first|exact HB.out|apply below_alloc|apply pw_below_drewN|apply below_drew1|refine below_set ?_ GE747.out)|exact HB.out)))|(with_reducible refine Kd.C_alloc ?_ _)|(with_reducible refine Kd.C_drewN ?_ _)|(with_reducible refine Kd.C_drew ?_)));(case side2=>exact HC753_0.out);rintro e w' ⟨rfl,⟨nd,rfl⟩⟩)|(go_at_call 170;(with_reducible refine (impl_maskOf.calls k4 _ _ (rd_LI l0_1 x49_4) t755 _ ?side1 ?side2 A32.out).mono ?_);(case side1=>repeat (first|exact (Kd.C_below HR753_0.out (by repeat (first|(with_reducible first|exact HB.out|apply below_alloc|apply pw_below_drewN|apply below_drew1|refine below_set ?_ GE747.out)|exact HB.out)))|(with_reducible refine Kd.C_alloc ?_ _)|(with_reducible refine Kd.C_drewN ?_ _)|(with_reducible refine Kd.C_drew ?_)));(case side2=>exact HC753_0.out);rintro e w' ⟨rfl,⟨nd,rfl⟩⟩))
                   go_roundg k4
                   case measure=>have:=HJ1.out;have:=HK2.out;have:=HJ16.out;have:=HK4.out;omega
                   case rel=>exact ⟨(wrap64 (x49_4 + 1)),(by first|rfl|(simp;done)|(simp [*];done)),H',⟨by have:=HJ1.out;have:=HK2.out;have:=HJ16.out;have:=HK4.out;omega⟩,⟨by (with_reducible repeat (first|refine blk_drewN ?_ _|refine blk_drew ?_|refine blk_alloc ?_ _));exact BK747.out⟩,⟨by repeat (first|(with_reducible first|exact HB.out|apply below_alloc|apply pw_below_drewN|apply below_drew1|refine below_set ?_ GE747.out)|exact HB.out)⟩⟩
                ·rw [if_neg c28] at H
                 exact absurd H (by simp)
               ·rw [if_neg c27] at H
                exact absurd H (by simp)
              ·rw [if_neg c26] at H
               have c26b0:decide (x49_4 < (l0_1.length:Int)) = false:=decide_eq_false c26
               clear c26
               have H':=Aside0.mk H
               clear H
               go_wp2
               go_roundg k4
               case measure=>have:=HJ1.out;have:=HK2.out;have:=HJ16.out;have:=HK4.out;omega
               case rel=>exact ⟨(wrap64 (x28_2 + 1)),(by first|rfl|(simp;done)|(simp [*];done)),H',⟨by have:=HJ1.out;have:=HK2.out;have:=HJ16.out;have:=HK4.out;omega⟩,⟨by (with_reducible repeat (first|refine blk_drewN ?_ _|refine blk_drew ?_|refine blk_alloc ?_ _));exact BK747.out⟩,⟨by repeat (first|(with_reducible first|exact HB.out|apply below_alloc|apply pw_below_drewN|apply below_drew1|refine below_set ?_ GE747.out)|exact HB.out)⟩⟩
        ·rw [if_neg c16] at H
         exact absurd H (by simp)
       ·rw [if_neg c15] at H
        exact absurd H (by simp)
      ·rw [if_neg c14] at H
       have c14b0:decide (x28_2 < (l0_1.length:Int)) = false:=decide_eq_false c14
       clear c14
       obtain rfl:=Option.some.inj H
       go_wp2
       go_ret
       exact ⟨by first|rfl|(simp [errW_none,errW_some] <;> rfl)|(simp [*,errW_none,errW_some] <;> rfl),by repeat (first|(with_reducible first|exact HB.out|apply below_alloc|apply pw_below_drewN|apply below_drew1|refine below_set ?_ GE747.out)|exact HB.out)⟩


/-! ### impl_votesOf: function 150 -/
def impl_votesOf.l0:Nat → (Int → Option (Bool)) → Int → Int → Int → List Bool → Option (Int × List Bool)
 | 0,_,_,_,_,_=>none
 | k + 1,x1,x14,x15,x317000,x317001=>if x15 < x14 then ((x1 x15).bind fun t317=>(if 0 ≤ x15 then (if x15 < (x317001.length:Int) then (impl_votesOf.l0 k x1 x14 (wrap64 (x15 + 1)) x317000 (x317001.set (x15:Int).toNat t317)) else (none)) else (none))) else (some (x317000,x317001))
def impl_votesOf.f (k:Nat) (a0:Int) (a1:(Int → Option (Bool))):Option (Int × List Bool):=if 0 ≤ a0 then (if 0 ≤ (shl .i64 1 a0) then (if (shl .i64 1 a0:Int).toNat ≤ 281474976710656 then ((some (List.replicate (shl .i64 1 a0:Int).toNat false:List Bool)).bind fun y313=>(impl_votesOf.l0 k a1 (y313.length:Int) 0 a0 y313)) else (none)) else (none)) else (none)
theorem impl_votesOf.mono_l:∀ k,(∀ y0 y1 y2 y3 y4,LeO (impl_votesOf.l0 k y0 y1 y2 y3 y4) (impl_votesOf.l0 (k + 1) y0 y1 y2 y3 y4))
 | 0=>fun _ _ _ _ _ r h=>by simp [impl_votesOf.l0] at h
 | k + 1=>by
  have ih0:=impl_votesOf.mono_l k
  ·intro y0 y1 y2 y3 y4
   unfold impl_votesOf.l0
   repeat' first
   | (with_reducible exact ih0 _ _ _ _ _)
   | (with_reducible exact LeO.refl _)
   | (with_reducible exact LeO.none _)
   | (with_reducible refine LeO.ite ?_ ?_)
   | (with_reducible refine LeO.bind ?_ (fun _=>?_))
   | exact ih0 _ _ _ _ _
   | exact LeO.none _
   | refine LeO.ite ?_ ?_
   | refine LeO.bind ?_ (fun _=>?_)
theorem impl_votesOf.mono:∀ a0 a1 k,LeO (impl_votesOf.f k a0 a1) (impl_votesOf.f (k + 1) a0 a1):=by
 intro a0 a1 k
 have ih0:=impl_votesOf.mono_l k
 unfold impl_votesOf.f
 repeat' first
   | (with_reducible exact ih0 _ _ _ _ _)
   | (with_reducible exact LeO.refl _)
   | (with_reducible exact LeO.none _)
   | (with_reducible refine LeO.ite ?_ ?_)
   | (with_reducible refine LeO.bind ?_ (fun _=>?_))
   | exact ih0 _ _ _ _ _
   | exact LeO.none _
   | refine LeO.ite ?_ ?_
   | refine LeO.bind ?_ (fun _=>?_)
theorem impl_votesOf.monop_l {p_ q_:(Int → Option (Bool))} (h_:∀ x0_,LeO (p_ x0_) (q_ x0_)):∀ k,(∀ y1 y2 y3 y4,LeO (impl_votesOf.l0 k p_ y1 y2 y3 y4) (impl_votesOf.l0 k q_ y1 y2 y3 y4))
 | 0=>fun _ _ _ _ r hz=>by simp [impl_votesOf.l0] at hz
 | k + 1=>by
  have ih0:=impl_votesOf.monop_l h_ k
  ·intro y0 y1 y2 y3
   unfold impl_votesOf.l0
   repeat' first
   | (with_reducible exact ih0 _ _ _ _)
   | (with_reducible exact h_ _)
   | (with_reducible exact LeO.refl _)
   | (with_reducible refine LeO.ite ?_ ?_)
   | (with_reducible refine LeO.bind ?_ (fun _=>?_))
   | exact ih0 _ _ _ _
   | exact h_ _
   | exact LeO.refl _
   | refine LeO.ite ?_ ?_
   | refine LeO.bind ?_ (fun _=>?_)
theorem impl_votesOf.mono_p {p_ q_:(Int → Option (Bool))} (h_:∀ x0_,LeO (p_ x0_) (q_ x0_)):∀ a0 k,LeO (impl_votesOf.f k a0 p_) (impl_votesOf.f k a0 q_):=by
 intro a0 k
 have ih0:=impl_votesOf.monop_l h_ k
 unfold impl_votesOf.f
 repeat' first
   | (with_reducible exact ih0 _ _ _ _)
   | (with_reducible exact h_ _)
   | (with_reducible exact LeO.refl _)
   | (with_reducible refine LeO.ite ?_ ?_)
   | (with_reducible refine LeO.bind ?_ (fun _=>?_))
   | exact ih0 _ _ _ _
   | exact h_ _
   | exact LeO.refl _
   | refine LeO.ite ?_ ?_
   | refine LeO.bind ?_ (fun _=>?_)
def impl_votesOf.T5:Bool × List (List Nat × List Nat):=(true,[([],[]),([0],[0]),([],[]),([],[]),([],[]),([3,4],[3,4]),([1,2,0,1,2,3,4,5],[1,2]),([6,5,5,0,1,2,3,4,5],[5,6])])
def impl_votesOf.B5:List Nat:=[0,1,0,0,0,24,63,127]
theorem impl_votesOf.tab5:rtab .any (opsOf Try.f150 5) = impl_votesOf.T5:=by kernel_rfl
theorem impl_votesOf.bits5:waitsOk impl_votesOf.T5.2 impl_votesOf.B5 = true:=by kernel_rfl
set_option maxHeartbeats 8000000 in
set_option maxRecDepth 100000 in
theorem impl_votesOf.calls (k:Nat) (a0:Int) (a1:(Int → Option (Bool))) (g1_:Nat) (lb1_:Array Value) (eg1_:∀ (args:Array Value) (w:World),(callFunc g1_ args).run Try.prog w = .ok (.enter g1_ args) w) (r1:Int) (r2:List Bool) (w:World) (hp1:∀ (W:World) (b0_:Int) (r0_:Bool),a1 b0_ = some r0_ → Below w.heap.size w W → Calls Try.prog g1_ (#[.int .i64 b0_] ++ lb1_) W fun e w'=>e = .returned (.bool r0_) ∧ Below W.heap.size W w') (h:impl_votesOf.f k a0 a1 = some (r1,r2)) :
  Calls Try.prog 150 #[.int .i64 a0,.func (.func g1_) #[] lb1_] w fun e w'=>∃ v1_:Value,e = .returned (.agg #[.int .i64 r1,v1_]) ∧ Kd.R Kd.bool 4 w' w.heap.size (fun _=>True) v1_ r2 ∧ Below w.heap.size w w':=by
 have hu94:=Try.underlying94
 have HP1:=Aside0.mk hp1
 clear hp1
 have HB:=Aside0.mk (Below.refl w.heap.size w)
 have H:(if 0 ≤ a0 then (if 0 ≤ (shl .i64 1 a0) then (if (shl .i64 1 a0:Int).toNat ≤ 281474976710656 then ((some (List.replicate (shl .i64 1 a0:Int).toNat false:List Bool)).bind fun y313=>(impl_votesOf.l0 k a1 (y313.length:Int) 0 a0 y313)) else (none)) else (none)) else (none)) = some (r1,r2):=h
 clear h
 by_cases c3:0 ≤ a0
 ·rw [if_pos c3] at H
  have c3b0:=eq_true c3
  have c3b1:decide (0 ≤ a0) = true:=decide_eq_true c3
  clear c3
  obtain ⟨ji4,hji4⟩:∃ j_:Int,(shl .i64 1 a0) = j_:=⟨_,rfl⟩
  replace H:(if 0 ≤ (ji4) then (if (ji4:Int).toNat ≤ 281474976710656 then ((some (List.replicate (ji4:Int).toNat false:List Bool)).bind fun y313=>(impl_votesOf.l0 k a1 (y313.length:Int) 0 a0 y313)) else (none)) else (none)) = some (r1,r2):=by first|(rw [hji4] at H;exact H)|(simp only [hji4] at H ⊢;exact H)
  have hji4_:(IntKind.i64.wrap (1 * 2 ^ min a0.toNat 64)) = ji4:=hji4
  have hji4z:a0 ≤ 64 → (IntKind.i64.wrap (1 * 2 ^ a0.toNat)) = ji4:=shl_small hji4
  have hji4u:(IntKind.i64.wrap (2 ^ min a0.toNat 64)) = ji4:=by have h_:=hji4_;rw [Int.one_mul] at h_;exact h_
  have hji4v:a0 ≤ 64 → (IntKind.i64.wrap (2 ^ a0.toNat)) = ji4:=fun hle_=>by have h_:=hji4z hle_;rw [Int.one_mul] at h_;exact h_
  have hji4y:(wrap64 (1 * 2 ^ min a0.toNat 64)) = ji4:=(i64_w _).symm.trans hji4_
  have hji4x:a0 ≤ 64 → (wrap64 (1 * 2 ^ a0.toNat)) = ji4:=fun h_=>(i64_w _).symm.trans (hji4z h_)
  by_cases c5:0 ≤ (ji4)
  ·rw [if_pos c5] at H
   have c5b0:=eq_true c5
   have c5b1:decide (0 ≤ (ji4)) = true:=decide_eq_true c5
   clear c5
   by_cases c6:(ji4:Int).toNat ≤ 281474976710656
   ·rw [if_pos c6] at H
    have c6b0:=eq_true c6
    have c6b1:decide ((ji4:Int).toNat ≤ 281474976710656) = true:=decide_eq_true c6
    clear c6
    obtain ⟨y313,hy313⟩:∃ y_:List Bool,y_ = (List.replicate (ji4:Int).toNat false):=⟨_,rfl⟩
    replace H:(impl_votesOf.l0 k a1 (y313.length:Int) 0 a0 y313) = some (r1,r2):=by first|(rw [hy313];with_reducible exact H)|(have H2_:=(Option.bind_some _ _).symm.trans H;rw [hy313];with_reducible exact H2_)|(have H2_:=(Option.bind_some _ _).symm.trans H;with_reducible exact H2_)|with_reducible exact H|(rw [hy313];exact H)|exact H
    have Ny313:=Aside0.mk hy313
    clear hy313
    have H':=Aside0.mk H
    clear H
    go_enter Try.func150,Try.ntmps150
    go_wp2_with (first|((with_reducible refine gate_dst (N:=4) rfl ?_);refine box_event ?hg (N:=4) ?hd (cs:=#[.int .i64 0,.slice none 0 0]) (t:=94) ?hr ?_;(case hd=>rfl);(case hg=>rfl);(case hr=>first|(go_simp;done)|(go_simp;rfl));intro gb312 hg w7 hbox hb;have n0_:=Aside0.mk (below_step (by repeat (first|(with_reducible first|exact HB.out|apply below_alloc|apply pw_below_drewN|apply below_drew1)|exact HB.out)) hb);have n1_:=Aside0.mk (hbox);have n2_:=Aside0.mk ((by rw [hg];exact (below_size (by repeat (first|(with_reducible first|exact HB.out|apply below_alloc|apply pw_below_drewN|apply below_drew1)|exact HB.out))):w.heap.size ≤ gb312));have n3_:=Aside0.mk ((by rw [hg];exact (below_size (by repeat (first|(with_reducible first|exact HB.out|apply below_alloc|apply pw_below_drewN|apply below_drew1)|exact HB.out))):w.heap.size ≤ gb312));clear HB;have HB:=n0_;have BK312:=n1_;have GW312:=n2_;have GE312:=n3_;clear n0_ n1_ n2_ n3_;clear hb hbox hg)|((with_reducible refine gate_dst (N:=10) rfl ?_);refine Kd.R_make Kd.bool _ 4 rfl (N:=10) rfl 88 _ _ rfl ji4 rfl rfl Try.underlying88 (.bool false) 1 info4 rfl (by decide) (by omega) false (ok:=fun _=>True) (okp:=fun _=>True) rfl (fun _ hk=>hk) trivial (of_decide_eq_true (by first|(with_reducible assumption)|assumption)) (Nat.le_trans (Nat.mul_le_mul_right _ (of_decide_eq_true (by first|(with_reducible assumption)|assumption):ji4.toNat ≤ 281474976710656)) (by omega)) (Below.refl _ _) (Nat.le_refl _) ?_;intro v314 w8 ho9 hb hg_ hnew_;clear hg_ hnew_;(first|rw [← Ny313.out] at ho9|(simp only [Int.reduceToNat] at ho9;rw [← Ny313.out] at ho9));have n0_:=Aside0.mk (Kd.R_lower ho9 (below_size (by repeat (first|(with_reducible first|exact HB.out|apply below_alloc|apply pw_below_drewN|apply below_drew1|refine below_set ?_ GE312.out)|exact HB.out))));have n1_:=Aside0.mk (blk_below (g:=gb312) (o:=.cells #[.int .i64 0,.slice none 0 0] 94 (0,0)) (by (with_reducible repeat (first|refine blk_drewN ?_ _|refine blk_drew ?_|refine blk_alloc ?_ _));exact BK312.out) hb);have n2_:=Aside0.mk (below_step (by repeat (first|(with_reducible first|exact HB.out|apply below_alloc|apply pw_below_drewN|apply below_drew1|refine below_set ?_ GE312.out)|exact HB.out)) hb);clear BK312;clear HB;have HO315:=n0_;have BK312:=n1_;have HB:=n2_;clear n0_ n1_ n2_;clear hb ho9;obtain ⟨Ao10,co10,eo10⟩:=Kd.R_slice HO315.out;subst eo10)|((with_reducible refine gate_dst (N:=5) rfl ?_);refine box_event ?hg (N:=5) ?hd (cs:=#[.int .i64 0,.slice none 0 0]) (t:=94) ?hr ?_;(case hd=>rfl);(case hg=>rfl);(case hr=>first|(go_simp;done)|(go_simp;rfl));intro gb316 hg w11 hbox hb;have n0_:=Aside0.mk (Kd.R_below (by (with_reducible repeat (first|apply Kd.R_alloc|apply Kd.R_drewN|apply Kd.R_drew));exact HO315.out) hb);have n1_:=Aside0.mk (blk_below (g:=gb312) (o:=.cells #[.int .i64 0,.slice none 0 0] 94 (0,0)) (by (with_reducible repeat (first|refine blk_drewN ?_ _|refine blk_drew ?_|refine blk_alloc ?_ _));exact BK312.out) hb);have n2_:=Aside0.mk (below_step (by repeat (first|(with_reducible first|exact HB.out|apply below_alloc|apply pw_below_drewN|apply below_drew1|refine below_set ?_ GE312.out)|exact HB.out)) hb);have n3_:=Aside0.mk (hbox);have n4_:=Aside0.mk ((by rw [hg];exact (below_size (by repeat (first|(with_reducible first|exact HB.out|apply below_alloc|apply pw_below_drewN|apply below_drew1|refine below_set ?_ GE312.out)|exact HB.out))):w.heap.size ≤ gb316));have n5_:=Aside0.mk ((by rw [hg];exact (below_size (by repeat (first|(with_reducible first|exact HB.out|apply below_alloc|apply pw_below_drewN|apply below_drew1|refine below_set ?_ GE312.out)|exact HB.out))):w.heap.size ≤ gb316));have n6_:=Aside0.mk ((by rw [hg];exact Nat.ne_of_lt (blk_lt (g:=gb312) (o:=.cells #[.int .i64 0,.slice none 0 0] 94 (0,0)) (by (with_reducible repeat (first|refine blk_drewN ?_ _|refine blk_drew ?_|refine blk_alloc ?_ _));exact BK312.out)):gb312 ≠ gb316));have n7_:=Aside0.mk ((by rw [hg];exact Nat.ne_of_gt (blk_lt (g:=gb312) (o:=.cells #[.int .i64 0,.slice none 0 0] 94 (0,0)) (by (with_reducible repeat (first|refine blk_drewN ?_ _|refine blk_drew ?_|refine blk_alloc ?_ _));exact BK312.out)):gb316 ≠ gb312));clear HO315;clear BK312;clear HB;have HO315:=n0_;have BK312:=n1_;have HB:=n2_;have BK316:=n3_;have GW316:=n4_;have GE316:=n5_;have NB312_316:=n6_;have NB316_312:=n7_;clear n0_ n1_ n2_ n3_ n4_ n5_ n6_ n7_;clear hb hbox hg;have hnb12:=NB316_312.out;have hnc12:=NB312_316.out;have hcz13_0:w11.cell? ⟨gb316,0,none⟩ = some (.int .i64 0):=(blk_cell BK316.out 0).trans rfl;have hcz13_1:w11.cell? ⟨gb316,1,none⟩ = some (.slice none 0 0):=(blk_cell BK316.out 1).trans rfl;have hfz13_0:=blk_frozen BK316.out 0;have hfz13_1:=blk_frozen BK316.out 1))
    go_loopg [15] k (fun kq v15 w'=>∃ (x15_1:Int) (x317001_1:List Bool) (u317001:Value),v15 = .int .i64 x15_1 ∧ Aside0 (impl_votesOf.l0 kq a1 (y313.length:Int) x15_1 a0 x317001_1 = some (r1,r2)) ∧ Aside0 (kq ≤ k) ∧ Aside0 (Kd.R Kd.bool 4 w' w.heap.size (fun _=>True) u317001 x317001_1) ∧ Aside0 (w'.heap[gb312]? = some (.cells #[.int .i64 0,(.slice none 0 0)] 94 (0,0))) ∧ Aside0 (w'.heap[gb316]? = some (.cells #[.int .i64 a0,u317001] 94 (0,0))) ∧ Aside0 (Below w.heap.size w w'))
    case atStart=>exact ⟨(0),(y313),(.slice Ao10 y313.length co10),(by first|rfl|(simp;done)|(simp [*];done)),H',⟨Nat.le_refl _⟩,⟨by (with_reducible repeat (first|apply Kd.R_alloc|apply Kd.R_drewN|apply Kd.R_drew));exact Kd.R_mono (Kd.R_far (p:=⟨gb316,1,none⟩) (Kd.R_far (p:=⟨gb316,0,none⟩) (Kd.R_types HO315.out BK316.out (by decide)) (fun _ hk=>hk.2) (.int .i64 a0)) (fun _ hk=>hk.2) (.slice Ao10 y313.length co10)) (fun _ hk=>trivial)⟩,⟨by (with_reducible repeat (first|refine blk_drewN ?_ _|refine blk_drew ?_|refine blk_alloc ?_ _));refine blk_far ?_ NB312_316.out _;(with_reducible repeat (first|refine blk_drewN ?_ _|refine blk_drew ?_|refine blk_alloc ?_ _));refine blk_far ?_ NB312_316.out _;(with_reducible repeat (first|refine blk_drewN ?_ _|refine blk_drew ?_|refine blk_alloc ?_ _));exact BK312.out⟩,⟨by (with_reducible repeat (first|refine blk_drewN ?_ _|refine blk_drew ?_|refine blk_alloc ?_ _));refine blk_put (cs:=#[.int .i64 a0,.slice none 0 0]) ?_ 1 _ rfl;(with_reducible repeat (first|refine blk_drewN ?_ _|refine blk_drew ?_|refine blk_alloc ?_ _));refine blk_put (cs:=#[.int .i64 0,.slice none 0 0]) ?_ 0 _ rfl;(with_reducible repeat (first|refine blk_drewN ?_ _|refine blk_drew ?_|refine blk_alloc ?_ _));exact BK316.out⟩,⟨by repeat (first|(with_reducible first|exact HB.out|apply below_alloc|apply pw_below_drewN|apply below_drew1|refine below_set ?_ GE312.out|refine below_set ?_ GE316.out)|exact HB.out)⟩⟩
    case round =>
     clear H'
     try clear c1
     try clear p1
     try clear p2
     try clear c3
     try clear c3b0
     try clear c3b1
     try clear c5
     try clear c5b0
     try clear c5b1
     try clear c6
     try clear c6b0
     try clear c6b1
     try clear p6
     try clear c12
     try clear hcz13_0
     try clear hcz13_1
     try clear hfz13_0
     try clear hfz13_1
     obtain ⟨x15_1,x317001_1,u317001,rfl,HA,HK1,HO_317001,BK312,BK316,HB⟩:=hrel
     cases gk with
     | zero=>exact absurd HA.out (by simp [impl_votesOf.l0])
     | succ k1 =>
      have H:=HA.out
      clear HA
      simp only [impl_votesOf.l0] at H
      by_cases c14:x15_1 < (y313.length:Int)
      ·rw [if_pos c14] at H
       have c14b0:decide (x15_1 < (y313.length:Int)) = true:=decide_eq_true c14
       clear c14
       replace H:=Option.bind_eq_some_iff.mp H
       obtain ⟨t317,A150,H⟩:=H
       replace H:(if 0 ≤ x15_1 then (if x15_1 < (x317001_1.length:Int) then (impl_votesOf.l0 k1 a1 (y313.length:Int) (wrap64 (x15_1 + 1)) a0 (x317001_1.set (x15_1:Int).toNat t317)) else (none)) else (none)) = some (r1,r2):=H
       have A15:=Aside0.mk A150
       clear A150
       by_cases c16:0 ≤ x15_1
       ·rw [if_pos c16] at H
        have c16b0:decide (0 ≤ x15_1) = true:=decide_eq_true c16
        clear c16
        by_cases c17:x15_1 < (x317001_1.length:Int)
        ·rw [if_pos c17] at H
         have c17b0:decide (x15_1 < (x317001_1.length:Int)) = true:=decide_eq_true c17
         clear c17
         obtain ⟨y318,hy318⟩:∃ y_:List Bool,y_ = (x317001_1.set (x15_1:Int).toNat t317):=⟨_,rfl⟩
         replace H:(impl_votesOf.l0 k1 a1 (y313.length:Int) (wrap64 (x15_1 + 1)) a0 y318) = some (r1,r2):=by first|(rw [hy318];with_reducible exact H)|(have H2_:=(Option.bind_some _ _).symm.trans H;rw [hy318];with_reducible exact H2_)|(have H2_:=(Option.bind_some _ _).symm.trans H;with_reducible exact H2_)|with_reducible exact H|(rw [hy318];exact H)|exact H
         have Ny318:=Aside0.mk hy318
         clear hy318
         have H':=Aside0.mk H
         clear H
         try go_wp2
         have n0_:=Aside0.mk (Kd.R_drew HO_317001.out)
         have n1_:=Aside0.mk (blk_drew BK312.out)
         have n2_:=Aside0.mk (blk_drew BK316.out)
         have n3_:=Aside0.mk (below_drew1 HB.out)
         clear HO_317001
         clear BK312
         clear BK316
         clear HB
         have HO_317001:=n0_
         have BK312:=n1_
         have BK316:=n2_
         have HB:=n3_
         clear n0_ n1_ n2_ n3_
         refine start_ (n:=8) (S:=fun w'=>w'.cell? ⟨gb316,0,none⟩ = some (.int .i64 a0) ∧ w'.cell? ⟨gb316,1,none⟩ = some (u317001)) (ds:=[7]) #[false,false,false,false,false,false,false,false] (by kernel_rfl) rfl rfl ⟨(blk_cell BK316.out 0).trans rfl,(blk_cell BK316.out 1).trans rfl⟩ (fun hHeld=>?_);refine with_tabW impl_votesOf.tab5 impl_votesOf.bits5 (fun HT_ HW_=>?_)
         generalize wr.drew = w19 at HO_317001 BK312 BK316 HB hHeld ⊢
         refine pure_ (i:=0) (N:=some 18) (v:=?_) (a':=?_) #[true,false,false,false,false,false,false,false] rfl rfl (any_of HT_.out (by kernel_rfl)) (fun _ _ _ h=>h) (Or.inl ⟨by rfl,?_⟩) ?_ ?_
         rotate_left
         ·intro w'
          go_simp
          with_reducible rfl
         rotate_left
         ·simp only [Act.put,List.setIfInBounds_toArray,List.set_cons_zero,List.set_cons_succ,i64_w,i32_w]
          rfl
         refine pure_ (i:=2) (N:=some 20) (v:=?_) (a':=?_) #[true,false,true,false,false,false,false,false] rfl rfl (any_of HT_.out (by kernel_rfl)) (fun _ _ _ h=>h) (Or.inl ⟨by rfl,?_⟩) ?_ ?_
         rotate_left
         ·intro w'
          go_simp
          with_reducible rfl
         rotate_left
         ·simp only [Act.put,List.setIfInBounds_toArray,List.set_cons_zero,List.set_cons_succ,i64_w,i32_w]
          rfl
         refine pure_ (i:=3) (N:=some 21) (v:=?_) (a':=?_) #[true,false,true,true,false,false,false,false] rfl rfl (any_of HT_.out (by kernel_rfl)) (fun _ _ _ h=>h) (Or.inl ⟨by rfl,?_⟩) ?_ ?_
         rotate_left
         ·intro w'
          go_simp
          with_reducible rfl
         rotate_left
         ·simp only [Act.put,List.setIfInBounds_toArray,List.set_cons_zero,List.set_cons_succ,i64_w,i32_w]
          rfl
         refine pure_ (i:=4) (N:=some 22) (v:=?_) (a':=?_) #[true,false,true,true,true,false,false,false] rfl rfl (any_of HT_.out (by kernel_rfl)) (fun _ _ _ h=>h) (Or.inl ⟨by rfl,?_⟩) ?_ ?_
         rotate_left
         ·intro w'
          go_simp
          with_reducible rfl
         rotate_left
         ·simp only [Act.put,List.setIfInBounds_toArray,List.set_cons_zero,List.set_cons_succ,i64_w,i32_w]
          rfl
         refine take_ (i:=1) (N:=some 19) (v:=?_) (a':=?_) #[true,true,true,true,true,false,false,false] rfl rfl (take_ofW HT_.out HW_.out (by kernel_rfl)) (fun _ _ _ h=>h) (Or.inl ⟨by rfl,?_⟩) hHeld ?_ ?_
         rotate_left
         ·rintro w' ⟨s0,s1⟩
          go_simp
          with_reducible rfl
         rotate_left
         ·simp only [Act.put,List.setIfInBounds_toArray,List.set_cons_zero,List.set_cons_succ,i64_w,i32_w]
          rfl
         refine one_ (i:=5) (N:=some 23) #[true,true,true,true,true,true,false,false] rfl rfl (one_of HT_.out (by kernel_rfl)) (by decide) (fun K hK=>?_)
         refine goesFr_ eg1_ #[.int .i64 x15_1] (by rfl) rfl rfl (by rfl) (by (try simp only [List.map_toArray,List.map_cons,List.map_nil]);first|done|rfl|(simp only [List.length_drop,List.length_take];rfl)) ?_
         with_reducible refine (HP1.out _ x15_1 t317 A15.out ?side1).mono ?_
         (case side1=>repeat (first|(with_reducible first|exact HB.out|apply below_alloc|apply pw_below_drewN|apply below_drew1|refine below_set ?_ GE312.out|refine below_set ?_ GE316.out)|exact HB.out))
         rintro e w20 ⟨rfl,hb⟩
         refine ⟨_,rfl,?_⟩
         have n0_:=Aside0.mk (Kd.R_below (by (with_reducible repeat (first|apply Kd.R_alloc|apply Kd.R_drewN|apply Kd.R_drew));exact HO_317001.out) hb)
         have n1_:=Aside0.mk (blk_below (g:=gb312) (o:=.cells #[.int .i64 0,.slice none 0 0] 94 (0,0)) (by (with_reducible repeat (first|refine blk_drewN ?_ _|refine blk_drew ?_|refine blk_alloc ?_ _));exact BK312.out) hb)
         have n2_:=Aside0.mk (blk_below (g:=gb316) (o:=.cells #[.int .i64 a0,u317001] 94 (0,0)) (by (with_reducible repeat (first|refine blk_drewN ?_ _|refine blk_drew ?_|refine blk_alloc ?_ _));exact BK316.out) hb)
         have n3_:=Aside0.mk (below_step (by repeat (first|(with_reducible first|exact HB.out|apply below_alloc|apply pw_below_drewN|apply below_drew1|refine below_set ?_ GE312.out|refine below_set ?_ GE316.out)|exact HB.out)) hb)
         clear HO_317001
         clear BK312
         clear BK316
         clear HB
         have HO_317001:=n0_
         have BK312:=n1_
         have BK316:=n2_
         have HB:=n3_
         clear n0_ n1_ n2_ n3_
         (try clear hb)
         (try clear hb2)
         (try clear hk)
         (try clear hi)
         have p18:0 ≤ (x15_1:Int):=of_decide_eq_true (by first|(with_reducible assumption)|assumption)
         have q18:(x15_1:Int) < ((x317001_1.length:Int):Int):=of_decide_eq_true (by first|(with_reducible assumption)|assumption)
         obtain ⟨go18,co18,eo18,gb18,gl18,cl18,HG18⟩:=Kd.R_form HO_317001.out (by omega)
         (first|cases eo18|(injection eo18 with ea_ en_ ec_;(first|subst ea_|(injection ea_ with ea_;subst ea_));subst ec_;clear en_))
         have GB18:=Aside0.mk gb18
         have GG18:=Aside0.mk HG18
         clear gb18 gl18 HG18
         obtain ⟨hx18_0,hf18_0⟩:=Kd.R_celln false HO_317001.out (x15_1:Int) p18 q18
         replace p18:=eq_true p18
         replace q18:=eq_true q18
         have HP21:=Kd.R_putn HO_317001.out (x15_1:Int) t317
         rw [← Ny318.out] at HP21
         have HQ21:=Aside0.mk HP21
         clear HP21
         refine hK.out _ _ ⟨(blk_cell BK316.out 0).trans rfl,(blk_cell BK316.out 1).trans rfl⟩ (fun hHeld=>?_)
         clear hK K
         refine norm_ (a':=?_) ?_ ?_
         rotate_left
         ·show Act.put _ (some 23) _ = _
          simp only [Act.put,List.setIfInBounds_toArray,List.set_cons_zero,List.set_cons_succ,i64_w,i32_w]
          rfl
         refine pure_ (i:=6) (N:=some 24) (v:=?_) (a':=?_) #[true,true,true,true,true,true,true,false] rfl rfl (any_of HT_.out (by kernel_rfl)) (fun _ _ _ h=>h) (Or.inl ⟨by rfl,?_⟩) ?_ ?_
         rotate_left
         ·intro w'
          go_simp
          with_reducible rfl
         rotate_left
         ·simp only [Act.put,List.setIfInBounds_toArray,List.set_cons_zero,List.set_cons_succ,i64_w,i32_w]
          rfl
         refine last_ (i:=7) (N:=none) #[true,true,true,true,true,true,true,true] rfl rfl (one_of HT_.out (by kernel_rfl)) (by decide) (fun K hK=>?_)
         refine skip_ (w1:=?_) (by rfl) rfl ?_ ?_
         rotate_left
         ·go_simp
          rfl
         refine hK.out _ _ ?_
         clear hK K
         refine done_ (done_of HT_.out (by kernel_rfl)) ?_
         try go_wp2
         go_roundg k1
         case measure=>have:=HK1.out;omega
         case rel=>exact ⟨(wrap64 (x15_1 + 1)),(y318),(.slice (some ⟨go18,0,none⟩) x317001_1.length co18),(by first|rfl|(simp;done)|(simp [*];done)),H',⟨by have:=HK1.out;omega⟩,⟨by (with_reducible repeat (first|apply Kd.R_alloc|apply Kd.R_drewN|apply Kd.R_drew));exact HQ21.out⟩,⟨by (with_reducible repeat (first|refine blk_drewN ?_ _|refine blk_drew ?_|refine blk_alloc ?_ _));refine blk_far ?_ (by have h_:=Kd.R_ne HO_317001.out BK312.out (by decide);intro e_;exact h_ (by rw [e_];rfl)) _;(with_reducible repeat (first|refine blk_drewN ?_ _|refine blk_drew ?_|refine blk_alloc ?_ _));exact BK312.out⟩,⟨by (with_reducible repeat (first|refine blk_drewN ?_ _|refine blk_drew ?_|refine blk_alloc ?_ _));refine blk_far ?_ (by have h_:=Kd.R_ne HO_317001.out BK316.out (by decide);intro e_;exact h_ (by rw [e_];rfl)) _;(with_reducible repeat (first|refine blk_drewN ?_ _|refine blk_drew ?_|refine blk_alloc ?_ _));exact BK316.out⟩,⟨by repeat (first|(with_reducible first|exact HB.out|apply below_alloc|apply pw_below_drewN|apply below_drew1|refine below_set ?_ GB18.out|refine below_set ?_ GE312.out|refine below_set ?_ GE316.out)|exact HB.out)⟩⟩
        ·rw [if_neg c17] at H
         exact absurd H (by simp)
       ·rw [if_neg c16] at H
        exact absurd H (by simp)
      ·rw [if_neg c14] at H
       have c14b0:decide (x15_1 < (y313.length:Int)) = false:=decide_eq_false c14
       clear c14
       simp only [Option.some.injEq,Prod.mk.injEq] at H
       obtain ⟨rfl,rfl⟩:=H
       have hnb22:=NB316_312.out
       have hnc22:=NB312_316.out
       have hcz23_0:wr.cell? ⟨gb316,0,none⟩ = some (.int .i64 a0):=(blk_cell BK316.out 0).trans rfl
       have hcz23_1:wr.cell? ⟨gb316,1,none⟩ = some (u317001):=(blk_cell BK316.out 1).trans rfl
       have hfz23_0:=blk_frozen BK316.out 0
       have hfz23_1:=blk_frozen BK316.out 1
       have hcz24_0:wr.cell? ⟨gb312,0,none⟩ = some (.int .i64 0):=(blk_cell BK312.out 0).trans rfl
       have hcz24_1:wr.cell? ⟨gb312,1,none⟩ = some (.slice none 0 0):=(blk_cell BK312.out 1).trans rfl
       have hfz24_0:=blk_frozen BK312.out 0
       have hfz24_1:=blk_frozen BK312.out 1
       obtain ⟨Ao25,co25,eo25⟩:=Kd.R_slice HO_317001.out
       subst eo25
       go_wp2
       refine bodyPost_ret (results_cell_row rfl _ _ gb312 94 #[.int .i64 a0,.slice Ao25 x317001_1.length co25] (0,0) _ rfl (by (with_reducible repeat (first|refine blk_drewN ?_ _|refine blk_drew ?_|refine blk_alloc ?_ _));refine blk_put (cs:=#[.int .i64 a0,.slice none 0 0]) ?_ 1 _ rfl;(with_reducible repeat (first|refine blk_drewN ?_ _|refine blk_drew ?_|refine blk_alloc ?_ _));refine blk_put (cs:=#[.int .i64 0,.slice none 0 0]) ?_ 0 _ rfl;(with_reducible repeat (first|refine blk_drewN ?_ _|refine blk_drew ?_|refine blk_alloc ?_ _));exact BK312.out) Try.underlying94 rfl (by kernel_rfl)) rfl ?_
       exact ⟨_,by first|rfl|(simp [errW_none,errW_some] <;> rfl)|(simp only [← hji4];first|rfl|(simp [errW_none,errW_some] <;> rfl))|(simp [*,errW_none,errW_some] <;> rfl),by (with_reducible repeat (first|apply Kd.R_alloc|apply Kd.R_drewN|apply Kd.R_drew));exact Kd.R_mono (Kd.R_far (p:=⟨gb312,1,none⟩) (Kd.R_far (p:=⟨gb312,0,none⟩) (Kd.R_types HO_317001.out BK312.out (by decide)) (fun _ hk=>hk.2) (.int .i64 a0)) (fun _ hk=>hk.2) (.slice Ao25 x317001_1.length co25)) (fun _ hk=>trivial),by repeat (first|(with_reducible first|exact HB.out|apply below_alloc|apply pw_below_drewN|apply below_drew1|refine below_set ?_ GE312.out|refine below_set ?_ GE316.out)|exact HB.out)⟩
   ·rw [if_neg c6] at H
    exact absurd H (by simp)
  ·rw [if_neg c5] at H
   exact absurd H (by simp)
 ·rw [if_neg c3] at H
  exact absurd H (by simp)


/-! ### impl_votesBy_1_1: function 199 -/
def impl_votesBy_1_1.f (a0:Int) (a1:Int):Option (Bool):=some ((Go.bits .and .i64 a1 a0) == a0)
set_option maxHeartbeats 8000000 in
set_option maxRecDepth 100000 in
theorem impl_votesBy_1_1.calls (a0:Int) (gc1:Nat) (a1:Int) (r:Bool) (w:World) (hb1:w.heap[gc1]? = some (.cells #[.int .i64 a1] 3 (0,0))) (h:impl_votesBy_1_1.f a0 a1 = some r) :
  Calls Try.prog 199 #[.int .i64 a0,.pointer (some ⟨gc1,0,none⟩)] w fun e w'=>e = .returned (.bool r) ∧ Drawn0 w w':=by
 have BK1:=Aside0.mk hb1
 clear hb1
 have H:(some ((Go.bits .and .i64 a1 a0) == a0)) = some r:=h
 clear h
 obtain rfl:=Option.some.inj H
 have hcz3_0:w.cell? ⟨gc1,0,none⟩ = some (.int .i64 a1):=(blk_cell BK1.out 0).trans rfl
 have hfz3_0:=blk_frozen BK1.out 0
 go_enter Try.func199,Try.ntmps199
 go_wp2
 go_ret
 exact ⟨by first|rfl|(simp;done)|(simp [*];done),by repeat (first|exact Drawn0.refl _|apply Drawn0.step)⟩
theorem impl_votesBy_1_1.enters:∀ (args:Array Value) (w:World),(callFunc 199 args).run Try.prog w = .ok (.enter 199 args) w:=enters_of Try.func199 (by kernel_rfl) rfl


/-! ### impl_votesBy_1: function 197 -/
def impl_votesBy_1.f (k:Nat) (a0:Int) (l1:List Int):Option (Bool):=(slices_ContainsFunc_int_int.f k l1 (fun y0_=>impl_votesBy_1_1.f y0_ a0)).bind fun t758=>(some t758)
theorem impl_votesBy_1.mono:∀ a0 a1 k,LeO (impl_votesBy_1.f k a0 a1) (impl_votesBy_1.f (k + 1) a0 a1):=by
 intro a0 a1 k
 unfold impl_votesBy_1.f
 repeat' first
   | (with_reducible exact slices_ContainsFunc_int_int.mono _ _ _)
   | (with_reducible exact LeO.refl _)
   | (with_reducible exact LeO.none _)
   | (with_reducible refine LeO.trans (slices_ContainsFunc_int_int.mono _ _ _) (slices_ContainsFunc_int_int.mono_p (fun _=>?_) _ _))
   | (with_reducible refine LeO.ite ?_ ?_)
   | (with_reducible refine LeO.bind ?_ (fun _=>?_))
   | exact slices_ContainsFunc_int_int.mono _ _ _
   | exact LeO.none _
   | refine LeO.ite ?_ ?_
   | refine LeO.bind ?_ (fun _=>?_)
set_option maxHeartbeats 8000000 in
set_option maxRecDepth 100000 in
theorem impl_votesBy_1.calls (k:Nat) (a0:Int) (gc1:Nat) (A1:Option Addr) (c1:Nat) (l1:List Int) (r:Bool) (w:World) (hr1:Kd.C (Kd.int .i64) w A1 l1.length l1) (hc1:l1.length ≤ c1) (hb1:w.heap[gc1]? = some (.cells #[.slice A1 l1.length c1] 22 (0,0))) (h:impl_votesBy_1.f k a0 l1 = some r) :
  Calls Try.prog 197 #[.int .i64 a0,.pointer (some ⟨gc1,0,none⟩)] w fun e w'=>e = .returned (.bool r) ∧ Below w.heap.size w w':=by
 have hmf:∀ (fn:Fn) (first cap:Array Value) (w:World),(Instr.makeFunc fn first cap).run Try.prog w = .ok (.func fn first cap) w:=fun _ _ _ _=>rfl
 have HR1:=Aside0.mk hr1
 have HC1:=Aside0.mk hc1
 clear hr1 hc1
 have BK1:=Aside0.mk hb1
 clear hb1
 have HB:=Aside0.mk (Below.refl w.heap.size w)
 have H:((slices_ContainsFunc_int_int.f k l1 (fun y0_=>impl_votesBy_1_1.f y0_ a0)).bind fun t758=>(some t758)) = some r:=h
 clear h
 replace H:=Option.bind_eq_some_iff.mp H
 obtain ⟨t758,A30,H⟩:=H
 replace H:(some t758) = some r:=H
 have A3:=Aside0.mk A30
 clear A30
 obtain rfl:=Option.some.inj H
 go_enter Try.func197,Try.ntmps197
 go_wp2_with (first|((with_reducible refine gate_dst (N:=2) rfl ?_);refine box_event ?hg (N:=2) ?hd (cs:=#[.int .i64 a0]) (t:=3) ?hr ?_;(case hd=>rfl);(case hg=>rfl);(case hr=>first|(go_simp;done)|(go_simp;rfl));intro gb757 hg w4 hbox hb;have n0_:=Aside0.mk (blk_below (g:=gc1) (o:=.cells #[.slice A1 l1.length c1] 22 (0,0)) (by (with_reducible repeat (first|refine blk_drewN ?_ _|refine blk_drew ?_|refine blk_alloc ?_ _));exact BK1.out) hb);have n1_:=Aside0.mk (below_step (by repeat (first|(with_reducible first|exact HB.out|apply below_alloc|apply pw_below_drewN|apply below_drew1|refine below_set ?_ GE1.out)|exact HB.out)) hb);have n2_:=Aside0.mk (hbox);have n3_:=Aside0.mk ((by rw [hg];exact (below_size (by repeat (first|(with_reducible first|exact HB.out|apply below_alloc|apply pw_below_drewN|apply below_drew1|refine below_set ?_ GE1.out)|exact HB.out))):w.heap.size ≤ gb757));have n4_:=Aside0.mk ((by rw [hg];exact (below_size (by repeat (first|(with_reducible first|exact HB.out|apply below_alloc|apply pw_below_drewN|apply below_drew1|refine below_set ?_ GE1.out)|exact HB.out))):w.heap.size ≤ gb757));have n5_:=Aside0.mk ((by rw [hg];exact Nat.ne_of_lt (blk_lt (g:=gc1) (o:=.cells #[.slice A1 l1.length c1] 22 (0,0)) (by (with_reducible repeat (first|refine blk_drewN ?_ _|refine blk_drew ?_|refine blk_alloc ?_ _));exact BK1.out)):gc1 ≠ gb757));have n6_:=Aside0.mk ((by rw [hg];exact Nat.ne_of_gt (blk_lt (g:=gc1) (o:=.cells #[.slice A1 l1.length c1] 22 (0,0)) (by (with_reducible repeat (first|refine blk_drewN ?_ _|refine blk_drew ?_|refine blk_alloc ?_ _));exact BK1.out)):gb757 ≠ gc1));clear BK1;clear HB;have BK1:=n0_;have HB:=n1_;have BK757:=n2_;have GW757:=n3_;have GE757:=n4_;have NB1_757:=n5_;have NB757_1:=n6_;clear n0_ n1_ n2_ n3_ n4_ n5_ n6_;clear hb hbox hg;have hnb5:=NB1_757.out;have hnc5:=NB757_1.out;have hcz6_0:w4.cell? ⟨gc1,0,none⟩ = some (.slice A1 l1.length c1):=(blk_cell BK1.out 0).trans rfl;have hfz6_0:=blk_frozen BK1.out 0)|((with_reducible refine gate_callee (f:=198) rfl ?_);refine goesL_ (some 6) rfl rfl Try.func198 (by kernel_rfl) rfl #[.slice A1 l1.length c1,.func (.func 199) #[] #[.pointer (some ⟨gb757,0,none⟩)]] rfl (by (try simp only [List.map_toArray,List.map_cons,List.map_nil]);first|done|rfl|(simp only [List.length_drop,List.length_take];rfl)) ?_;(with_reducible refine (slices_ContainsFunc_int_int.calls k _ _ l1 (fun y0_=>impl_votesBy_1_1.f y0_ a0) 199 #[.pointer (some ⟨gb757,0,none⟩)] impl_votesBy_1_1.enters t758 _ ?side1 ?side2 ?side3 A3.out).mono ?_);(case side1=>repeat (first|exact (Kd.C_below HR1.out HB.out)|(with_reducible refine Kd.C_alloc ?_ _)|(with_reducible refine Kd.C_drewN ?_ _)|(with_reducible refine Kd.C_drew ?_)));(case side2=>exact HC1.out);(case side3=>exact (fun W_ a0_ r0_ hx_ hb_ =>(impl_votesBy_1_1.calls a0_ gb757 a0 r0_ W_  (box_later (by (with_reducible repeat (first|refine blk_drewN ?_ _|refine blk_drew ?_|refine blk_alloc ?_ _));exact BK757.out) hb_) hx_).mono (fun _ _ h_=>⟨h_.1,h_.2.below⟩)));rintro e w7 ⟨rfl,hb⟩;refine ⟨_,rfl,?_⟩;have n0_:=Aside0.mk (blk_below (g:=gc1) (o:=.cells #[.slice A1 l1.length c1] 22 (0,0)) (by (with_reducible repeat (first|refine blk_drewN ?_ _|refine blk_drew ?_|refine blk_alloc ?_ _));exact BK1.out) hb);have n1_:=Aside0.mk (blk_below (g:=gb757) (o:=.cells #[.int .i64 a0] 3 (0,0)) (by (with_reducible repeat (first|refine blk_drewN ?_ _|refine blk_drew ?_|refine blk_alloc ?_ _));exact BK757.out) hb);have n2_:=Aside0.mk (below_step (by repeat (first|(with_reducible first|exact HB.out|apply below_alloc|apply pw_below_drewN|apply below_drew1|refine below_set ?_ GE1.out|refine below_set ?_ GE757.out)|exact HB.out)) hb);clear BK1;clear BK757;clear HB;have BK1:=n0_;have BK757:=n1_;have HB:=n2_;clear n0_ n1_ n2_;(try clear hb);(try clear hb2);(try clear hk);(try clear hi)))
 go_ret
 exact ⟨by first|rfl|(simp [errW_none,errW_some] <;> rfl)|(simp [*,errW_none,errW_some] <;> rfl),by repeat (first|(with_reducible first|exact HB.out|apply below_alloc|apply pw_below_drewN|apply below_drew1|refine below_set ?_ GE1.out|refine below_set ?_ GE757.out)|exact HB.out)⟩
theorem impl_votesBy_1.enters:∀ (args:Array Value) (w:World),(callFunc 197 args).run Try.prog w = .ok (.enter 197 args) w:=enters_of Try.func197 (by kernel_rfl) rfl


/-! ### impl_votesBy: function 171 -/
def impl_votesBy.l0:Nat → Int → List (List Int) → Int → Int → List Int → Option (Int × List Bool)
 | 0,_,_,_,_,_=>none
 | k + 1,x0,x9,x10,x11,x764000=>if x11 < x10 then (if 0 ≤ x11 then (if x11 < (x9.length:Int) then ((impl_maskOf.f k (rd_LI x9 x11)).bind fun t765=>(if x764000.length < 17592186044416 then (impl_votesBy.l0 k x0 x9 x10 (wrap64 (x11 + 1)) (x764000 ++ [t765])) else (none))) else (none)) else (none)) else ((impl_votesOf.f k x0 (fun y0_=>impl_votesBy_1.f k y0_ x764000)).bind fun bt769=>(some (bt769.1,bt769.2)))
def impl_votesBy.f (k:Nat) (a0:Int) (l1:List (List Int)):Option (Int × List Bool):=impl_votesBy.l0 k a0 l1 (l1.length:Int) 0 (([]:List Int))
theorem impl_votesBy.mono_l:∀ k,(∀ y0 y1 y2 y3 y4,LeO (impl_votesBy.l0 k y0 y1 y2 y3 y4) (impl_votesBy.l0 (k + 1) y0 y1 y2 y3 y4))
 | 0=>fun _ _ _ _ _ r h=>by simp [impl_votesBy.l0] at h
 | k + 1=>by
  have ih0:=impl_votesBy.mono_l k
  ·intro y0 y1 y2 y3 y4
   unfold impl_votesBy.l0
   repeat' first
   | (with_reducible exact ih0 _ _ _ _ _)
   | (with_reducible exact impl_maskOf.mono _ _)
   | (with_reducible exact impl_votesBy_1.mono _ _ _)
   | (with_reducible exact impl_votesOf.mono _ _ _)
   | (with_reducible exact LeO.refl _)
   | (with_reducible exact LeO.none _)
   | (with_reducible refine LeO.trans (impl_votesOf.mono _ _ _) (impl_votesOf.mono_p (fun _=>?_) _ _))
   | (with_reducible refine LeO.ite ?_ ?_)
   | (with_reducible refine LeO.bind ?_ (fun _=>?_))
   | exact ih0 _ _ _ _ _
   | exact impl_maskOf.mono _ _
   | exact impl_votesBy_1.mono _ _ _
   | exact impl_votesOf.mono _ _ _
   | exact LeO.none _
   | refine LeO.ite ?_ ?_
   | refine LeO.bind ?_ (fun _=>?_)
theorem impl_votesBy.mono:∀ a0 a1 k,LeO (impl_votesBy.f k a0 a1) (impl_votesBy.f (k + 1) a0 a1):=by
 intro a0 a1 k
 have ih0:=impl_votesBy.mono_l k
 unfold impl_votesBy.f
 repeat' first
   | (with_reducible exact ih0 _ _ _ _ _)
   | (with_reducible exact impl_maskOf.mono _ _)
   | (with_reducible exact impl_votesBy_1.mono _ _ _)
   | (with_reducible exact impl_votesOf.mono _ _ _)
   | (with_reducible exact LeO.refl _)
   | (with_reducible exact LeO.none _)
   | (with_reducible refine LeO.trans (impl_votesOf.mono _ _ _) (impl_votesOf.mono_p (fun _=>?_) _ _))
   | (with_reducible refine LeO.ite ?_ ?_)
   | (with_reducible refine LeO.bind ?_ (fun _=>?_))
   | exact ih0 _ _ _ _ _
   | exact impl_maskOf.mono _ _
   | exact impl_votesBy_1.mono _ _ _
   | exact impl_votesOf.mono _ _ _
   | exact LeO.none _
   | refine LeO.ite ?_ ?_
   | refine LeO.bind ?_ (fun _=>?_)
set_option maxHeartbeats 8000000 in
set_option maxRecDepth 100000 in
theorem impl_votesBy.calls (k:Nat) (a0:Int) (A1:Option Addr) (c1:Nat) (l1:List (List Int)) (r1:Int) (r2:List Bool) (w:World) (hr1:Kd.C (Kd.slice 3 (Kd.int .i64)) w A1 l1.length l1) (hc1:l1.length ≤ c1) (h:impl_votesBy.f k a0 l1 = some (r1,r2)) :
  Calls Try.prog 171 #[.int .i64 a0,.slice A1 l1.length c1] w fun e w'=>∃ v1_:Value,e = .returned (.agg #[.int .i64 r1,v1_]) ∧ Kd.R Kd.bool 4 w' w.heap.size (fun _=>True) v1_ r2 ∧ Below w.heap.size w w':=by
 have hmf:∀ (fn:Fn) (first cap:Array Value) (w:World),(Instr.makeFunc fn first cap).run Try.prog w = .ok (.func fn first cap) w:=fun _ _ _ _=>rfl
 have hu94:=Try.underlying94
 have HR1:=Aside0.mk hr1
 have HC1:=Aside0.mk hc1
 clear hr1 hc1
 have HB:=Aside0.mk (Below.refl w.heap.size w)
 have H:(impl_votesBy.l0 k a0 l1 (l1.length:Int) 0 (([]:List Int))) = some (r1,r2):=h
 clear h
 obtain ⟨y760,hy760⟩:∃ y_:List Int,y_ = (([]:List Int)):=⟨_,rfl⟩
 replace H:(impl_votesBy.l0 k a0 l1 (l1.length:Int) 0 y760) = some (r1,r2):=by first|(rw [hy760];with_reducible exact H)|(have H2_:=(Option.bind_some _ _).symm.trans H;rw [hy760];with_reducible exact H2_)|(have H2_:=(Option.bind_some _ _).symm.trans H;with_reducible exact H2_)|with_reducible exact H|(rw [hy760];exact H)|exact H
 have Ny760:=Aside0.mk hy760
 clear hy760
 have H':=Aside0.mk H
 clear H
 go_enter Try.func171,Try.ntmps171
 go_wp2_with (first|((with_reducible refine gate_dst (N:=4) rfl ?_);refine box_event ?hg (N:=4) ?hd (cs:=#[.int .i64 0,.slice none 0 0]) (t:=94) ?hr ?_;(case hd=>rfl);(case hg=>rfl);(case hr=>first|(go_simp;done)|(go_simp;rfl));intro gb759 hg w3 hbox hb;have n0_:=Aside0.mk (below_step (by repeat (first|(with_reducible first|exact HB.out|apply below_alloc|apply pw_below_drewN|apply below_drew1)|exact HB.out)) hb);have n1_:=Aside0.mk (hbox);have n2_:=Aside0.mk ((by rw [hg];exact (below_size (by repeat (first|(with_reducible first|exact HB.out|apply below_alloc|apply pw_below_drewN|apply below_drew1)|exact HB.out))):w.heap.size ≤ gb759));have n3_:=Aside0.mk ((by rw [hg];exact (below_size (by repeat (first|(with_reducible first|exact HB.out|apply below_alloc|apply pw_below_drewN|apply below_drew1)|exact HB.out))):w.heap.size ≤ gb759));clear HB;have HB:=n0_;have BK759:=n1_;have GW759:=n2_;have GE759:=n3_;clear n0_ n1_ n2_ n3_;clear hb hbox hg)|((with_reducible refine gate_dst (N:=8) rfl ?_);refine Kd.R_lit (Kd.int .i64) _ 3 ?hg (N:=8) ?hd (xs:=([]:List Int)) (inner:=[]) (ok:=fun _=>True) (okp:=fun _=>True) ?hr ?hp (fun _ hk=>hk) trivial (Below.refl _ _) (Nat.le_refl _) (by simp) ?_;(case hd=>rfl);(case hg=>rfl);(case hr=>first|(go_simp;done)|(go_simp;rfl));(case hp=>exact (Reps.none _ _));intro v761 w4 ho5 hb hg_ hnew_;clear hg_ hnew_;(first|rw [← Ny760.out] at ho5|(simp only [Int.reduceToNat] at ho5;rw [← Ny760.out] at ho5));have n0_:=Aside0.mk (Kd.R_lower ho5 (below_size (by repeat (first|(with_reducible first|exact HB.out|apply below_alloc|apply pw_below_drewN|apply below_drew1|refine below_set ?_ GE759.out)|exact HB.out))));have n1_:=Aside0.mk (blk_below (g:=gb759) (o:=.cells #[.int .i64 0,.slice none 0 0] 94 (0,0)) (by (with_reducible repeat (first|refine blk_drewN ?_ _|refine blk_drew ?_|refine blk_alloc ?_ _));exact BK759.out) hb);have n2_:=Aside0.mk (below_step (by repeat (first|(with_reducible first|exact HB.out|apply below_alloc|apply pw_below_drewN|apply below_drew1|refine below_set ?_ GE759.out)|exact HB.out)) hb);clear BK759;clear HB;have HO762:=n0_;have BK759:=n1_;have HB:=n2_;clear n0_ n1_ n2_;clear hb ho5)|((with_reducible refine gate_dst (N:=5) rfl ?_);refine box_event ?hg (N:=5) ?hd (cs:=#[.slice none 0 0]) (t:=22) ?hr ?_;(case hd=>rfl);(case hg=>rfl);(case hr=>first|(go_simp;done)|(go_simp;rfl));intro gb763 hg w6 hbox hb;have n0_:=Aside0.mk (Kd.R_below (by (with_reducible repeat (first|apply Kd.R_alloc|apply Kd.R_drewN|apply Kd.R_drew));exact HO762.out) hb);have n1_:=Aside0.mk (blk_below (g:=gb759) (o:=.cells #[.int .i64 0,.slice none 0 0] 94 (0,0)) (by (with_reducible repeat (first|refine blk_drewN ?_ _|refine blk_drew ?_|refine blk_alloc ?_ _));exact BK759.out) hb);have n2_:=Aside0.mk (below_step (by repeat (first|(with_reducible first|exact HB.out|apply below_alloc|apply pw_below_drewN|apply below_drew1|refine below_set ?_ GE759.out)|exact HB.out)) hb);have n3_:=Aside0.mk (hbox);have n4_:=Aside0.mk ((by rw [hg];exact (below_size (by repeat (first|(with_reducible first|exact HB.out|apply below_alloc|apply pw_below_drewN|apply below_drew1|refine below_set ?_ GE759.out)|exact HB.out))):w.heap.size ≤ gb763));have n5_:=Aside0.mk ((by rw [hg];exact (below_size (by repeat (first|(with_reducible first|exact HB.out|apply below_alloc|apply pw_below_drewN|apply below_drew1|refine below_set ?_ GE759.out)|exact HB.out))):w.heap.size ≤ gb763));have n6_:=Aside0.mk ((by rw [hg];exact Nat.ne_of_lt (blk_lt (g:=gb759) (o:=.cells #[.int .i64 0,.slice none 0 0] 94 (0,0)) (by (with_reducible repeat (first|refine blk_drewN ?_ _|refine blk_drew ?_|refine blk_alloc ?_ _));exact BK759.out)):gb759 ≠ gb763));have n7_:=Aside0.mk ((by rw [hg];exact Nat.ne_of_gt (blk_lt (g:=gb759) (o:=.cells #[.int .i64 0,.slice none 0 0] 94 (0,0)) (by (with_reducible repeat (first|refine blk_drewN ?_ _|refine blk_drew ?_|refine blk_alloc ?_ _));exact BK759.out)):gb763 ≠ gb759));clear HO762;clear BK759;clear HB;have HO762:=n0_;have BK759:=n1_;have HB:=n2_;have BK763:=n3_;have GW763:=n4_;have GE763:=n5_;have NB759_763:=n6_;have NB763_759:=n7_;clear n0_ n1_ n2_ n3_ n4_ n5_ n6_ n7_;clear hb hbox hg;obtain ⟨Ao7,co7,eo7⟩:=Kd.R_slice HO762.out;subst eo7;have hnb8:=NB763_759.out;have hnc8:=NB759_763.out;have hcz9_0:w6.cell? ⟨gb763,0,none⟩ = some (.slice none 0 0):=(blk_cell BK763.out 0).trans rfl;have hfz9_0:=blk_frozen BK763.out 0))
 go_loopg [11] k (fun kq v11 w'=>∃ (x11_1:Int) (x764000_1:List Int) (u764000:Value),v11 = .int .i64 x11_1 ∧ Aside0 (impl_votesBy.l0 kq a0 l1 (l1.length:Int) x11_1 x764000_1 = some (r1,r2)) ∧ Aside0 (kq ≤ k) ∧ Aside0 (Kd.R (Kd.int .i64) 3 w' w.heap.size (fun _=>True) u764000 x764000_1) ∧ Aside0 (w'.heap[gb759]? = some (.cells #[.int .i64 0,(.slice none 0 0)] 94 (0,0))) ∧ Aside0 (w'.heap[gb763]? = some (.cells #[u764000] 22 (0,0))) ∧ Aside0 (Below w.heap.size w w'))
 case atStart=>exact ⟨(0),(y760),(.slice Ao7 y760.length co7),(by first|rfl|(simp;done)|(simp [*];done)),H',⟨Nat.le_refl _⟩,⟨by (with_reducible repeat (first|apply Kd.R_alloc|apply Kd.R_drewN|apply Kd.R_drew));exact Kd.R_mono (Kd.R_far (p:=⟨gb763,0,none⟩) (Kd.R_types HO762.out BK763.out (by decide)) (fun _ hk=>hk.2) (.slice Ao7 y760.length co7)) (fun _ hk=>trivial)⟩,⟨by (with_reducible repeat (first|refine blk_drewN ?_ _|refine blk_drew ?_|refine blk_alloc ?_ _));refine blk_far ?_ NB759_763.out _;(with_reducible repeat (first|refine blk_drewN ?_ _|refine blk_drew ?_|refine blk_alloc ?_ _));exact BK759.out⟩,⟨by (with_reducible repeat (first|refine blk_drewN ?_ _|refine blk_drew ?_|refine blk_alloc ?_ _));refine blk_put (cs:=#[.slice none 0 0]) ?_ 0 _ rfl;(with_reducible repeat (first|refine blk_drewN ?_ _|refine blk_drew ?_|refine blk_alloc ?_ _));exact BK763.out⟩,⟨by repeat (first|(with_reducible first|exact HB.out|apply below_alloc|apply pw_below_drewN|apply below_drew1|refine below_set ?_ GE759.out|refine below_set ?_ GE763.out)|exact HB.out)⟩⟩
 case round =>
  clear H'
  try clear c1
  try clear p2
  try clear c8
  try clear hcz9_0
  try clear hfz9_0
  obtain ⟨x11_1,x764000_1,u764000,rfl,HA,HK1,HO_764000,BK759,BK763,HB⟩:=hrel
  cases gk with
  | zero=>exact absurd HA.out (by simp [impl_votesBy.l0])
  | succ k1 =>
   have H:=HA.out
   clear HA
   simp only [impl_votesBy.l0] at H
   by_cases c10:x11_1 < (l1.length:Int)
   ·rw [if_pos c10] at H
    have c10b0:decide (x11_1 < (l1.length:Int)) = true:=decide_eq_true c10
    clear c10
    by_cases c11:0 ≤ x11_1
    ·rw [if_pos c11] at H
     have c11b0:decide (0 ≤ x11_1) = true:=decide_eq_true c11
     clear c11
     by_cases c12:x11_1 < (l1.length:Int)
     ·rw [if_pos c12] at H
      have c12b0:decide (x11_1 < (l1.length:Int)) = true:=decide_eq_true c12
      clear c12
      replace H:=Option.bind_eq_some_iff.mp H
      obtain ⟨t765,A130,H⟩:=H
      replace H:(if x764000_1.length < 17592186044416 then (impl_votesBy.l0 k1 a0 l1 (l1.length:Int) (wrap64 (x11_1 + 1)) (x764000_1 ++ [t765])) else (none)) = some (r1,r2):=H
      have A13:=Aside0.mk A130
      clear A130
      by_cases c14:x764000_1.length < 17592186044416
      ·rw [if_pos c14] at H
       have LMc14:=Aside0.mk c14
       clear c14
       obtain ⟨y766,hy766⟩:∃ y_:List Int,y_ = (x764000_1 ++ [t765]):=⟨_,rfl⟩
       replace H:(impl_votesBy.l0 k1 a0 l1 (l1.length:Int) (wrap64 (x11_1 + 1)) y766) = some (r1,r2):=by first|(rw [hy766];with_reducible exact H)|(have H2_:=(Option.bind_some _ _).symm.trans H;rw [hy766];with_reducible exact H2_)|(have H2_:=(Option.bind_some _ _).symm.trans H;with_reducible exact H2_)|with_reducible exact H|(rw [hy766];exact H)|exact H
       have Ny766:=Aside0.mk hy766
       clear hy766
       have H':=Aside0.mk H
       clear H
       have p764:0 ≤ (x11_1:Int):=of_decide_eq_true (by first|(with_reducible assumption)|assumption)
       have q764:x11_1 < (l1.length:Int):=of_decide_eq_true (by first|(with_reducible assumption)|assumption)
       obtain ⟨ad764,A764_0,c764_0,e764,hx764_0,hl764_0,hi764_0⟩:=at_LI HR1.out x11_1 p764 q764
       cases e764
       replace hx764_0:=(HB.out.cell (World.block_lt_of_cell? w _ hx764_0)).trans hx764_0
       have HR764_0:=Aside0.mk hi764_0
       have HC764_0:=Aside0.mk hl764_0
       clear hi764_0 hl764_0
       replace p764:=eq_true p764
       replace q764:=eq_true q764
       try go_wp2
       have n0_:=Aside0.mk (Kd.R_drew HO_764000.out)
       have n1_:=Aside0.mk (blk_drew BK759.out)
       have n2_:=Aside0.mk (blk_drew BK763.out)
       have n3_:=Aside0.mk (below_drew1 HB.out)
       clear HO_764000
       clear BK759
       clear BK763
       clear HB
       have HO_764000:=n0_
       have BK759:=n1_
       have BK763:=n2_
       have HB:=n3_
       clear n0_ n1_ n2_ n3_
       refine start_ (n:=6) (S:=fun w'=>w'.cell? ⟨gb763,0,none⟩ = some (u764000)) (ds:=[5]) #[false,false,false,false,false,false] (by kernel_rfl) rfl rfl ((blk_cell BK763.out 0).trans rfl) (fun hHeld=>?_)
       generalize wr.drew = w15 at HO_764000 BK759 BK763 HB hHeld ⊢
       refine pure_ (i:=1) (N:=some 16) (v:=?_) (a':=?_) #[false,true,false,false,false,false] rfl rfl (by kernel_rfl) (fun _ _ _ h=>h) (Or.inl ⟨by rfl,?_⟩) ?_ ?_
       rotate_left
       ·intro w'
        go_simp
        with_reducible rfl
       rotate_left
       ·simp only [Act.put,List.setIfInBounds_toArray,List.set_cons_zero,List.set_cons_succ,i64_w,i32_w]
        rfl
       refine take_ (i:=0) (N:=some 15) (v:=?_) (a':=?_) #[true,true,false,false,false,false] rfl rfl (by kernel_rfl) (fun _ _ _ h=>h) (Or.inl ⟨by rfl,?_⟩) hHeld ?_ ?_
       rotate_left
       ·intro w' s0
        go_simp
        with_reducible rfl
       rotate_left
       ·simp only [Act.put,List.setIfInBounds_toArray,List.set_cons_zero,List.set_cons_succ,i64_w,i32_w]
        rfl
       refine one_ (i:=2) (N:=some 17) #[true,true,true,false,false,false] rfl rfl (by kernel_rfl) (by decide) (fun K hK=>?_)
       refine goes_ Try.func170 (by kernel_rfl) rfl #[.slice A764_0 (rd_LI l1 x11_1).length c764_0] (by rfl) rfl rfl (by (try simp only [List.map_toArray,List.map_cons,List.map_nil]);first|done|rfl|(simp only [List.length_drop,List.length_take];rfl)) ?_
       with_reducible refine (impl_maskOf.calls k1 _ _ (rd_LI l1 x11_1) t765 _ ?side1 ?side2 A13.out).mono ?_
       (case side1=>repeat (first|exact (Kd.C_below HR764_0.out HB.out)|(with_reducible refine Kd.C_alloc ?_ _)|(with_reducible refine Kd.C_drewN ?_ _)|(with_reducible refine Kd.C_drew ?_)))
       (case side2=>exact HC764_0.out)
       rintro e w' ⟨rfl,⟨nd,rfl⟩⟩
       refine ⟨_,rfl,?_⟩
       refine hK.out _ _ ((blk_cell BK763.out 0).trans rfl) (fun hHeld=>?_)
       clear hK K
       refine norm_ (a':=?_) ?_ ?_
       rotate_left
       ·show Act.put _ (some 17) _ = _
        simp only [Act.put,List.setIfInBounds_toArray,List.set_cons_zero,List.set_cons_succ,i64_w,i32_w]
        rfl
       refine one_ (i:=3) (N:=some 18) #[true,true,true,true,false,false] rfl rfl (by kernel_rfl) (by decide) (fun K hK=>?_)
       refine value_ (w1:=?_) (v:=?_) (by rfl) rfl ?_ ?_
       rotate_left 2
       ·go_simp
        constructor
        ·rfl
        ·rfl
       refine hK.out _ _ ((blk_cell (blk_alloc BK763.out _) 0).trans rfl) (fun hHeld=>?_)
       clear hK K
       refine norm_ (a':=?_) ?_ ?_
       rotate_left
       ·show Act.put _ (some 18) _ = _
        simp only [Act.put,List.setIfInBounds_toArray,List.set_cons_zero,List.set_cons_succ,i64_w,i32_w]
        rfl
       refine one_ (i:=4) (N:=some 19) #[true,true,true,true,true,false] rfl rfl (by kernel_rfl) (by decide) (fun K hK=>?_)
       refine Kd.R_append_step (Kd.int .i64) (w0:=w) w.heap.size (by rfl) (.tmp 15) (.tmp 18) 22 3 (.int .i64 0) 8 rfl Try.underlying22 info3 rfl (by decide) (by omega) u764000 x764000_1 t765 [.int .i64 t765] (fun _=>True) (fun _=>False) rfl rfl ?aP (fun _ hk=>hk.elim) ?aF ?aO ?aB ?aS ?aL ?_
       (case aP=>exact rfl)
       (case aB=>exact (by repeat (first|(with_reducible first|exact HB.out|apply below_alloc|apply pw_below_drewN|apply below_drew1|refine below_set ?_ GE759.out|refine below_set ?_ GE763.out)|exact HB.out)))
       (case aF=>exact (fun _ _=>trivial))
       (case aO=>exact (by (with_reducible repeat (first|apply Kd.R_alloc|apply Kd.R_drewN|apply Kd.R_drew));exact HO_764000.out))
       (case aS=>exact (below_size (by repeat (first|(with_reducible first|exact HB.out|apply below_alloc|apply pw_below_drewN|apply below_drew1|refine below_set ?_ GE759.out|refine below_set ?_ GE763.out)|exact HB.out))))
       (case aL=>have:=LMc14.out;omega)
       intro v767 w16 ho hb hg hat
       rw [← Ny766.out] at ho
       have n0_:=Aside0.mk (blk_grown (g:=gb759) (o:=.cells #[.int .i64 0,.slice none 0 0] 94 (0,0)) (by (with_reducible repeat (first|refine blk_drewN ?_ _|refine blk_drew ?_|refine blk_alloc ?_ _));exact BK759.out) hg (Kd.R_ne HO_764000.out BK759.out (by decide)))
       have n1_:=Aside0.mk (blk_grown (g:=gb763) (o:=.cells #[u764000] 22 (0,0)) (by (with_reducible repeat (first|refine blk_drewN ?_ _|refine blk_drew ?_|refine blk_alloc ?_ _));exact BK763.out) hg (Kd.R_ne HO_764000.out BK763.out (by decide)))
       have n2_:=Aside0.mk (hb)
       have n3_:=Aside0.mk (ho)
       clear BK759
       clear BK763
       clear HB
       clear HO_764000
       have BK759:=n0_
       have BK763:=n1_
       have HB:=n2_
       have HO768:=n3_
       clear n0_ n1_ n2_ n3_
       clear ho hb hg hat
       obtain ⟨Ao17,co17,eo17⟩:=Kd.R_slice HO768.out
       (first|subst eo17|(injection eo17 with f1_ f2_ f3_;have f4_:=f1_.symm;have f5_:=f3_.symm;clear f1_ f2_ f3_;subst f4_;subst f5_))
       refine hK.out _ _ ((blk_cell BK763.out 0).trans rfl) (fun hHeld=>?_)
       clear hK K
       refine norm_ (a':=?_) ?_ ?_
       rotate_left
       ·show Act.put _ (some 19) _ = _
        simp only [Act.put,List.setIfInBounds_toArray,List.set_cons_zero,List.set_cons_succ,i64_w,i32_w]
        rfl
       refine last_ (i:=5) (N:=none) #[true,true,true,true,true,true] rfl rfl (by kernel_rfl) (by decide) (fun K hK=>?_)
       have hs18:w16.cell? ⟨gb763,0,none⟩ = some (u764000):=(blk_cell BK763.out 0).trans rfl
       have hfs18:=blk_frozen BK763.out 0
       have hns18_0:=NB759_763.out
       have hms18_0:=NB763_759.out
       refine skip_ (w1:=?_) (by rfl) rfl ?_ ?_
       rotate_left
       ·go_simp
        rfl
       refine hK.out _ _ ?_
       clear hK K
       refine done_ (by kernel_rfl) ?_
       try go_wp2
       go_roundg k1
       case measure=>have:=HK1.out;omega
       case rel=>exact ⟨(wrap64 (x11_1 + 1)),(y766),(.slice Ao17 y766.length co17),(by first|rfl|(simp;done)|(simp [*];done)),H',⟨by have:=HK1.out;omega⟩,⟨by (with_reducible repeat (first|apply Kd.R_alloc|apply Kd.R_drewN|apply Kd.R_drew));exact Kd.R_mono (Kd.R_far (p:=⟨gb763,0,none⟩) (Kd.R_types HO768.out BK763.out (by decide)) (fun _ hk=>hk.2) (.slice Ao17 y766.length co17)) (fun _ hk=>trivial)⟩,⟨by (with_reducible repeat (first|refine blk_drewN ?_ _|refine blk_drew ?_|refine blk_alloc ?_ _));refine blk_far ?_ NB759_763.out _;(with_reducible repeat (first|refine blk_drewN ?_ _|refine blk_drew ?_|refine blk_alloc ?_ _));exact BK759.out⟩,⟨by (with_reducible repeat (first|refine blk_drewN ?_ _|refine blk_drew ?_|refine blk_alloc ?_ _));refine blk_put (cs:=#[u764000]) ?_ 0 _ rfl;(with_reducible repeat (first|refine blk_drewN ?_ _|refine blk_drew ?_|refine blk_alloc ?_ _));exact BK763.out⟩,⟨by repeat (first|(with_reducible first|exact HB.out|apply below_alloc|apply pw_below_drewN|apply below_drew1|refine below_set ?_ GE759.out|refine below_set ?_ GE763.out)|exact HB.out)⟩⟩
      ·rw [if_neg c14] at H
       exact absurd H (by simp)
     ·rw [if_neg c12] at H
      exact absurd H (by simp)
    ·rw [if_neg c11] at H
     exact absurd H (by simp)
   ·rw [if_neg c10] at H
    have c10b0:decide (x11_1 < (l1.length:Int)) = false:=decide_eq_false c10
    clear c10
    replace H:=Option.bind_eq_some_iff.mp H
    obtain ⟨⟨t769,t770⟩,A190,H⟩:=H
    replace H:(some (t769,t770)) = some (r1,r2):=H
    have A19:=Aside0.mk A190
    clear A190
    simp only [Option.some.injEq,Prod.mk.injEq] at H
    obtain ⟨rfl,rfl⟩:=H
    obtain ⟨Ao20,co20,eo20⟩:=Kd.R_slice HO_764000.out
    subst eo20
    go_wp2_with (first|((with_reducible refine gate_callee (f:=150) rfl ?_);refine goesL_ (some 23) rfl rfl Try.func150 (by kernel_rfl) rfl #[.int .i64 a0,.func (.func 197) #[] #[.pointer (some ⟨gb763,0,none⟩)]] rfl (by (try simp only [List.map_toArray,List.map_cons,List.map_nil]);first|done|rfl|(simp only [List.length_drop,List.length_take];rfl)) ?_;(with_reducible refine (impl_votesOf.calls k1 a0 (fun y0_=>impl_votesBy_1.f k1 y0_ x764000_1) 197 #[.pointer (some ⟨gb763,0,none⟩)] impl_votesBy_1.enters t769 t770 _ ?side1 A19.out).mono ?_);(case side1=>exact (fun W_ a0_ r0_ hx_ hb_ =>(impl_votesBy_1.calls k1 a0_ gb763 _ _ x764000_1 r0_ W_  (Kd.C_below (by repeat (first|exact (Kd.R_reads' HO_764000.out).2.2|(with_reducible refine Kd.C_alloc ?_ _)|(with_reducible refine Kd.C_drewN ?_ _)|(with_reducible refine Kd.C_drew ?_))) hb_) (by exact (Kd.R_reads' HO_764000.out).2.1) (box_later (by (with_reducible repeat (first|refine blk_drewN ?_ _|refine blk_drew ?_|refine blk_alloc ?_ _));exact BK763.out) hb_) hx_).mono (fun _ _ h_=>h_)));rintro e w21 ⟨v771,rfl,ho0,hb⟩;refine ⟨_,rfl,?_⟩;have n0_:=Aside0.mk (Kd.R_below (by (with_reducible repeat (first|apply Kd.R_alloc|apply Kd.R_drewN|apply Kd.R_drew));exact HO_764000.out) hb);have n1_:=Aside0.mk (Kd.R_lower ho0 (below_size (by repeat (first|(with_reducible first|exact HB.out|apply below_alloc|apply pw_below_drewN|apply below_drew1|refine below_set ?_ GE759.out|refine below_set ?_ GE763.out)|exact HB.out))));have n2_:=Aside0.mk (blk_below (g:=gb759) (o:=.cells #[.int .i64 0,.slice none 0 0] 94 (0,0)) (by (with_reducible repeat (first|refine blk_drewN ?_ _|refine blk_drew ?_|refine blk_alloc ?_ _));exact BK759.out) hb);have n3_:=Aside0.mk (blk_below (g:=gb763) (o:=.cells #[.slice Ao20 x764000_1.length co20] 22 (0,0)) (by (with_reducible repeat (first|refine blk_drewN ?_ _|refine blk_drew ?_|refine blk_alloc ?_ _));exact BK763.out) hb);have n4_:=Aside0.mk (below_step (by repeat (first|(with_reducible first|exact HB.out|apply below_alloc|apply pw_below_drewN|apply below_drew1|refine below_set ?_ GE759.out|refine below_set ?_ GE763.out)|exact HB.out)) hb);clear HO_764000;clear BK759;clear BK763;clear HB;have HO_764000:=n0_;have HO772:=n1_;have BK759:=n2_;have BK763:=n3_;have HB:=n4_;clear n0_ n1_ n2_ n3_ n4_;(try clear hb);(try clear hb2);(try clear hk);(try clear hi);(try clear ho0);have hnb22:=NB759_763.out;have hnc22:=NB763_759.out;have hcz23_0:w21.cell? ⟨gb759,0,none⟩ = some (.int .i64 0):=(blk_cell BK759.out 0).trans rfl;have hcz23_1:w21.cell? ⟨gb759,1,none⟩ = some (.slice none 0 0):=(blk_cell BK759.out 1).trans rfl;have hfz23_0:=blk_frozen BK759.out 0;have hfz23_1:=blk_frozen BK759.out 1;obtain ⟨Ao24,co24,eo24⟩:=Kd.R_slice HO772.out;subst eo24))
    refine bodyPost_ret (results_cell_row rfl _ _ gb759 94 #[.int .i64 t769,.slice Ao24 t770.length co24] (0,0) _ rfl (by (with_reducible repeat (first|refine blk_drewN ?_ _|refine blk_drew ?_|refine blk_alloc ?_ _));refine blk_put (cs:=#[.int .i64 t769,.slice none 0 0]) ?_ 1 _ rfl;(with_reducible repeat (first|refine blk_drewN ?_ _|refine blk_drew ?_|refine blk_alloc ?_ _));refine blk_put (cs:=#[.int .i64 0,.slice none 0 0]) ?_ 0 _ rfl;(with_reducible repeat (first|refine blk_drewN ?_ _|refine blk_drew ?_|refine blk_alloc ?_ _));exact BK759.out) Try.underlying94 rfl (by kernel_rfl)) rfl ?_
    exact ⟨_,by first|rfl|(simp [errW_none,errW_some] <;> rfl)|(simp [*,errW_none,errW_some] <;> rfl),by (with_reducible repeat (first|apply Kd.R_alloc|apply Kd.R_drewN|apply Kd.R_drew));exact Kd.R_mono (Kd.R_far (p:=⟨gb759,1,none⟩) (Kd.R_far (p:=⟨gb759,0,none⟩) (Kd.R_types HO772.out BK759.out (by decide)) (fun _ hk=>hk.2) (.int .i64 t769)) (fun _ hk=>hk.2) (.slice Ao24 t770.length co24)) (fun _ hk=>trivial),by repeat (first|(with_reducible first|exact HB.out|apply below_alloc|apply pw_below_drewN|apply below_drew1|refine below_set ?_ GE759.out|refine below_set ?_ GE763.out)|exact HB.out)⟩

end Go.Proofs.Ythkbaolpiigioaa.P
