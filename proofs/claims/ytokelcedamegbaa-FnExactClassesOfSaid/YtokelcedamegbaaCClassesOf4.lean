/- Part 4 of the texts below the law FnExactClassesOf. Printed by this session's driver over the kit's printer, but for the hand contracts and the plain laws. -/
import Derived.Test.YtokelcedamegbaaCClassesOf1
import Derived.Test.YtokelcedamegbaaCClassesOf2
import Derived.Test.YtokelcedamegbaaCClassesOf3
set_option linter.unusedVariables false
set_option linter.unusedSimpArgs false
namespace Go.Proofs.Ytokelcedamegbaa.P
open Go.RowKit Go.Proofs.YtokelcedamegbaaW.PrintWords Go.Proofs.YtokelcedamegbaaW.PrintLast Go.Proofs.YtokelcedamegbaaW.PrintMore
attribute [local go_sem] max2_int min2_int max_two min_two max_three min_three max_four min_four   -- for this text's walks alone
set_option linter.unusedVariables false
set_option linter.unusedSimpArgs false

/-! ### laws_eqIntS: function 51 -/
def laws_eqIntS.l0:Nat → List Int → List Int → Int → Option (Bool)
 | 0,_,_,_=>none
 | k + 1,x0,x1,x5=>if x5 < (x0.length:Int) then (if 0 ≤ x5 then (if x5 < (x1.length:Int) then (if (rd x0 x5) = (rd x1 x5) then (laws_eqIntS.l0 k x0 x1 (wrap64 (x5 + 1))) else (some false)) else (none)) else (none)) else (some true)
def laws_eqIntS.f (k:Nat) (l0:List Int) (l1:List Int):Option (Bool):=if (l0.length:Int) = (l1.length:Int) then (laws_eqIntS.l0 k l0 l1 0) else (some false)
theorem laws_eqIntS.mono_l:∀ k,(∀ y0 y1 y2,LeO (laws_eqIntS.l0 k y0 y1 y2) (laws_eqIntS.l0 (k + 1) y0 y1 y2))
 | 0=>fun _ _ _ r h=>by simp [laws_eqIntS.l0] at h
 | k + 1=>by
  have ih0:=laws_eqIntS.mono_l k
  ·intro y0 y1 y2;unfold laws_eqIntS.l0
   repeat' with_reducible first|exact ih0 _ _ _|exact LeO.refl _|exact LeO.none _|refine LeO.ite ?_ ?_|refine LeO.bind ?_ (fun _=>?_)
theorem laws_eqIntS.mono:∀ a0 a1 k,LeO (laws_eqIntS.f k a0 a1) (laws_eqIntS.f (k + 1) a0 a1):=by
 intro a0 a1 k;have ih0:=laws_eqIntS.mono_l k;unfold laws_eqIntS.f
 repeat' with_reducible first|exact ih0 _ _ _|exact LeO.refl _|exact LeO.none _|refine LeO.ite ?_ ?_|refine LeO.bind ?_ (fun _=>?_)
set_option maxHeartbeats 8000000 in
set_option maxRecDepth 100000 in
theorem laws_eqIntS.calls (k:Nat) (A0:Option Addr) (c0:Nat) (l0:List Int) (A1:Option Addr) (c1:Nat) (l1:List Int) (r:Bool) (w:World) (hr0:Kd.C (Kd.int .i64) w A0 l0.length l0) (hc0:l0.length ≤ c0) (hr1:Kd.C (Kd.int .i64) w A1 l1.length l1) (hc1:l1.length ≤ c1) (h:laws_eqIntS.f k l0 l1 = some r) :
  Calls Try.prog 51 #[.slice A0 l0.length c0,.slice A1 l1.length c1] w fun e w'=>e = .returned (.bool r) ∧ Drawn0 w w':=by
 have HR0:=Aside0.mk hr0;have HC0:=Aside0.mk hc0;clear hr0 hc0;have HR1:=Aside0.mk hr1;have HC1:=Aside0.mk hc1;clear hr1 hc1;have H:(if (l0.length:Int) = (l1.length:Int) then (laws_eqIntS.l0 k l0 l1 0) else (some false)) = some r:=h;clear h;by_cases c3:(l0.length:Int) = (l1.length:Int)
 ·rw [if_pos c3] at H;have c3b0:((l0.length:Int) == (l1.length:Int)) = true:=beq_iff_eq.mpr c3;have c3b1:((l0.length:Int) != (l1.length:Int)) = false:=bne_eq_false_iff_eq.mpr c3;have c3b2:(l0.length == l1.length) = true:=by first|simpa using c3|(simp at c3 ⊢;omega)
  clear c3;have H':=Aside0.mk H;clear H;go_enter Try.func51,Try.ntmps51;go_wp2
  repeat (go_quiet (fail);try go_wp2)
  go_loopg [5] k (fun kq v5 w'=>∃ (x5_1:Int),v5 = .int .i64 x5_1 ∧ Aside0 (laws_eqIntS.l0 kq l0 l1 x5_1 = some r) ∧ Aside0 (kq ≤ k) ∧ Drawn0 w w')
  case atStart=>exact ⟨(0),(by first|rfl|(simp;done)|(simp [*];done)),H',⟨Nat.le_refl _⟩,by repeat (first|exact Drawn0.refl _|apply Drawn0.step)⟩
  case round =>
   clear H'
   try clear c1
   try clear p2
   try clear c3
   try clear c3b0
   try clear c3b1
   try clear c3b2
   obtain ⟨x5_1,rfl,HA,HK1,⟨m1,rfl⟩⟩:=hrel
   cases gk with
   | zero=>exact absurd HA.out (by simp [laws_eqIntS.l0])
   | succ k1 =>
    have H:=HA.out;clear HA;simp only [laws_eqIntS.l0] at H;by_cases c4:x5_1 < (l0.length:Int)
    ·rw [if_pos c4] at H;have c4b0:decide (x5_1 < (l0.length:Int)) = true:=decide_eq_true c4;clear c4;by_cases c5:0 ≤ x5_1
     ·rw [if_pos c5] at H;have c5b0:decide (0 ≤ x5_1) = true:=decide_eq_true c5;clear c5;by_cases c6:x5_1 < (l1.length:Int)
      ·rw [if_pos c6] at H;have c6b0:decide (x5_1 < (l1.length:Int)) = true:=decide_eq_true c6;clear c6;by_cases c7:(rd l0 x5_1) = (rd l1 x5_1)
       ·rw [if_pos c7] at H;have c7b0:((rd l0 x5_1) == (rd l1 x5_1)) = true:=beq_iff_eq.mpr c7;have c7b1:((rd l0 x5_1) != (rd l1 x5_1)) = false:=bne_eq_false_iff_eq.mpr c7;clear c7;have H':=Aside0.mk H;clear H;have p404:0 ≤ (x5_1:Int):=of_decide_eq_true ab;have q404:x5_1 < (l0.length:Int):=of_decide_eq_true ab;obtain ⟨ad404,e404,hx404_0⟩:=Kd.at_int HR0.out x5_1 p404 q404;cases e404
        replace p404:=eq_true p404;replace q404:=eq_true q404;have p405:0 ≤ (x5_1:Int):=of_decide_eq_true ab;have q405:x5_1 < (l1.length:Int):=of_decide_eq_true ab;obtain ⟨ad405,e405,hx405_0⟩:=Kd.at_int HR1.out x5_1 p405 q405;cases e405
        replace p405:=eq_true p405;replace q405:=eq_true q405;go_wp2
        repeat (go_quiet (fail);try go_wp2)
        go_roundg k1
        case measure=>have:=HK1.out;omega
        case rel=>exact ⟨(wrap64 (x5_1 + 1)),(by first|rfl|(simp;done)|(simp [*];done)),H',⟨by have:=HK1.out;omega⟩,by repeat (first|exact Drawn0.refl _|apply Drawn0.step)⟩
       ·rw [if_neg c7] at H;have c7b0:((rd l0 x5_1) == (rd l1 x5_1)) = false:=beq_eq_false_iff_ne.mpr c7;have c7b1:((rd l0 x5_1) != (rd l1 x5_1)) = true:=bne_iff_ne.mpr c7;obtain rfl:=Option.some.inj H;have p404:0 ≤ (x5_1:Int):=of_decide_eq_true ab;have q404:x5_1 < (l0.length:Int):=of_decide_eq_true ab;obtain ⟨ad404,e404,hx404_0⟩:=Kd.at_int HR0.out x5_1 p404 q404;cases e404
        replace p404:=eq_true p404;replace q404:=eq_true q404;have p405:0 ≤ (x5_1:Int):=of_decide_eq_true ab;have q405:x5_1 < (l1.length:Int):=of_decide_eq_true ab;obtain ⟨ad405,e405,hx405_0⟩:=Kd.at_int HR1.out x5_1 p405 q405;cases e405
        replace p405:=eq_true p405;replace q405:=eq_true q405;go_wp2
        repeat (go_quiet (fail);try go_wp2)
        go_ret
        exact ⟨by first|rfl|(simp;done)|(simp [*];done),by repeat (first|exact Drawn0.refl _|apply Drawn0.step)⟩
      ·rw [if_neg c6] at H;exact absurd H (by simp)
     ·rw [if_neg c5] at H;exact absurd H (by simp)
    ·rw [if_neg c4] at H;have c4b0:decide (x5_1 < (l0.length:Int)) = false:=decide_eq_false c4;clear c4;obtain rfl:=Option.some.inj H;go_wp2
     repeat (go_quiet (fail);try go_wp2)
     go_ret
     exact ⟨by first|rfl|(simp;done)|(simp [*];done),by repeat (first|exact Drawn0.refl _|apply Drawn0.step)⟩
 ·rw [if_neg c3] at H;have c3b0:((l0.length:Int) == (l1.length:Int)) = false:=beq_eq_false_iff_ne.mpr c3;have c3b1:((l0.length:Int) != (l1.length:Int)) = true:=bne_iff_ne.mpr c3;have c3b2:(l0.length == l1.length) = false:=by first|simpa using c3|(simp at c3 ⊢;omega)
  obtain rfl:=Option.some.inj H;go_enter Try.func51,Try.ntmps51;go_wp2
  repeat (go_quiet (fail);try go_wp2)
  go_ret
  exact ⟨by first|rfl|(simp;done)|(simp [*];done),by repeat (first|exact Drawn0.refl _|apply Drawn0.step)⟩


/-! ### laws_eqIntSS: function 15 -/
def laws_eqIntSS.l0:Nat → List (List Int) → List (List Int) → Int → Option (Bool)
 | 0,_,_,_=>none
 | k + 1,x0,x1,x5=>if x5 < (x0.length:Int) then (if 0 ≤ x5 then (if x5 < (x1.length:Int) then ((laws_eqIntS.f k (rd_LI x0 x5) (rd_LI x1 x5)).bind fun t408=>(if t408 = true then (laws_eqIntSS.l0 k x0 x1 (wrap64 (x5 + 1))) else (some false))) else (none)) else (none)) else (some true)
def laws_eqIntSS.f (k:Nat) (l0:List (List Int)) (l1:List (List Int)):Option (Bool):=if (l0.length:Int) = (l1.length:Int) then (laws_eqIntSS.l0 k l0 l1 0) else (some false)
theorem laws_eqIntSS.mono_l:∀ k,(∀ y0 y1 y2,LeO (laws_eqIntSS.l0 k y0 y1 y2) (laws_eqIntSS.l0 (k + 1) y0 y1 y2))
 | 0=>fun _ _ _ r h=>by simp [laws_eqIntSS.l0] at h
 | k + 1=>by
  have ih0:=laws_eqIntSS.mono_l k
  ·intro y0 y1 y2;unfold laws_eqIntSS.l0
   repeat' with_reducible first|exact ih0 _ _ _|exact laws_eqIntS.mono _ _ _|exact LeO.refl _|exact LeO.none _|refine LeO.ite ?_ ?_|refine LeO.bind ?_ (fun _=>?_)
theorem laws_eqIntSS.mono:∀ a0 a1 k,LeO (laws_eqIntSS.f k a0 a1) (laws_eqIntSS.f (k + 1) a0 a1):=by
 intro a0 a1 k;have ih0:=laws_eqIntSS.mono_l k;unfold laws_eqIntSS.f
 repeat' with_reducible first|exact ih0 _ _ _|exact laws_eqIntS.mono _ _ _|exact LeO.refl _|exact LeO.none _|refine LeO.ite ?_ ?_|refine LeO.bind ?_ (fun _=>?_)
set_option maxHeartbeats 8000000 in
set_option maxRecDepth 100000 in
theorem laws_eqIntSS.calls (k:Nat) (A0:Option Addr) (c0:Nat) (l0:List (List Int)) (A1:Option Addr) (c1:Nat) (l1:List (List Int)) (r:Bool) (w:World) (hr0:Kd.C (Kd.slice 3 (Kd.int .i64)) w A0 l0.length l0) (hc0:l0.length ≤ c0) (hr1:Kd.C (Kd.slice 3 (Kd.int .i64)) w A1 l1.length l1) (hc1:l1.length ≤ c1) (h:laws_eqIntSS.f k l0 l1 = some r) :
  Calls Try.prog 15 #[.slice A0 l0.length c0,.slice A1 l1.length c1] w fun e w'=>e = .returned (.bool r) ∧ Drawn0 w w':=by
 have HR0:=Aside0.mk hr0;have HC0:=Aside0.mk hc0;clear hr0 hc0;have HR1:=Aside0.mk hr1;have HC1:=Aside0.mk hc1;clear hr1 hc1;have H:(if (l0.length:Int) = (l1.length:Int) then (laws_eqIntSS.l0 k l0 l1 0) else (some false)) = some r:=h;clear h;by_cases c3:(l0.length:Int) = (l1.length:Int)
 ·rw [if_pos c3] at H;have c3b0:((l0.length:Int) == (l1.length:Int)) = true:=beq_iff_eq.mpr c3;have c3b1:((l0.length:Int) != (l1.length:Int)) = false:=bne_eq_false_iff_eq.mpr c3;have c3b2:(l0.length == l1.length) = true:=by first|simpa using c3|(simp at c3 ⊢;omega)
  clear c3;have H':=Aside0.mk H;clear H;go_enter Try.func15,Try.ntmps15;go_wp2
  repeat (go_quiet (fail);try go_wp2)
  go_loopg [5] k (fun kq v5 w'=>∃ (x5_1:Int),v5 = .int .i64 x5_1 ∧ Aside0 (laws_eqIntSS.l0 kq l0 l1 x5_1 = some r) ∧ Aside0 (kq ≤ k) ∧ Drawn0 w w')
  case atStart=>exact ⟨(0),(by first|rfl|(simp;done)|(simp [*];done)),H',⟨Nat.le_refl _⟩,by repeat (first|exact Drawn0.refl _|apply Drawn0.step)⟩
  case round =>
   clear H'
   try clear c1
   try clear p2
   try clear c3
   try clear c3b0
   try clear c3b1
   try clear c3b2
   obtain ⟨x5_1,rfl,HA,HK1,⟨m1,rfl⟩⟩:=hrel
   cases gk with
   | zero=>exact absurd HA.out (by simp [laws_eqIntSS.l0])
   | succ k1 =>
    have H:=HA.out;clear HA;simp only [laws_eqIntSS.l0] at H;by_cases c4:x5_1 < (l0.length:Int)
    ·rw [if_pos c4] at H;have c4b0:decide (x5_1 < (l0.length:Int)) = true:=decide_eq_true c4;clear c4;by_cases c5:0 ≤ x5_1
     ·rw [if_pos c5] at H;have c5b0:decide (0 ≤ x5_1) = true:=decide_eq_true c5;clear c5;by_cases c6:x5_1 < (l1.length:Int)
      ·rw [if_pos c6] at H;have c6b0:decide (x5_1 < (l1.length:Int)) = true:=decide_eq_true c6;clear c6;replace H:=Option.bind_eq_some_iff.mp H;obtain ⟨t408,A70,H⟩:=H;replace H:(if t408 = true then (laws_eqIntSS.l0 k1 l0 l1 (wrap64 (x5_1 + 1))) else (some false)) = some r:=H;have A7:=Aside0.mk A70;clear A70;by_cases c8:t408 = true
       ·subst c8;have H1:(laws_eqIntSS.l0 k1 l0 l1 (wrap64 (x5_1 + 1))) = some r:=by rw [if_pos rfl] at H;exact H
        clear H;have H:=H1;clear H1;have H':=Aside0.mk H;clear H;have p406:0 ≤ (x5_1:Int):=of_decide_eq_true ab;have q406:x5_1 < (l0.length:Int):=of_decide_eq_true ab;obtain ⟨ad406,A406_0,c406_0,e406,hx406_0,hl406_0,hi406_0⟩:=at_LI HR0.out x5_1 p406 q406;cases e406
        have HR406_0:=Aside0.mk hi406_0;have HC406_0:=Aside0.mk hl406_0;clear hi406_0 hl406_0;replace p406:=eq_true p406;replace q406:=eq_true q406;have p407:0 ≤ (x5_1:Int):=of_decide_eq_true ab;have q407:x5_1 < (l1.length:Int):=of_decide_eq_true ab;obtain ⟨ad407,A407_0,c407_0,e407,hx407_0,hl407_0,hi407_0⟩:=at_LI HR1.out x5_1 p407 q407;cases e407
        have HR407_0:=Aside0.mk hi407_0;have HC407_0:=Aside0.mk hl407_0;clear hi407_0 hl407_0;replace p407:=eq_true p407;replace q407:=eq_true q407;go_wp2_with (first|(go_at_call 51;(with_reducible refine (laws_eqIntS.calls k1 _ _ (rd_LI l0 x5_1) _ _ (rd_LI l1 x5_1) true _ ?side1 ?side2 ?side3 ?side4 A7.out).mono ?_);(case side1=>repeat (first|exact HR406_0.out|(with_reducible refine Kd.C_alloc ?_ _)|(with_reducible refine Kd.C_drewN ?_ _)|(with_reducible refine Kd.C_drew ?_)));(case side2=>exact HC406_0.out);(case side3=>repeat (first|exact HR407_0.out|(with_reducible refine Kd.C_alloc ?_ _)|(with_reducible refine Kd.C_drewN ?_ _)|(with_reducible refine Kd.C_drew ?_)));(case side4=>exact HC407_0.out);rintro e w' ⟨rfl,⟨nd,rfl⟩⟩;(try first|exact ⟨rfl,_,World.drewN_drewN _ _ _⟩|exact ⟨rfl,_,Eq.trans (World.drewN_drewN _ _ _) (congrArg (World.drewN _) (Nat.add_assoc _ _ _))⟩)))
        repeat (go_quiet (first|(go_at_call 51;(with_reducible refine (laws_eqIntS.calls k1 _ _ (rd_LI l0 x5_1) _ _ (rd_LI l1 x5_1) true _ ?side1 ?side2 ?side3 ?side4 A7.out).mono ?_);(case side1=>repeat (first|exact HR406_0.out|(with_reducible refine Kd.C_alloc ?_ _)|(with_reducible refine Kd.C_drewN ?_ _)|(with_reducible refine Kd.C_drew ?_)));(case side2=>exact HC406_0.out);(case side3=>repeat (first|exact HR407_0.out|(with_reducible refine Kd.C_alloc ?_ _)|(with_reducible refine Kd.C_drewN ?_ _)|(with_reducible refine Kd.C_drew ?_)));(case side4=>exact HC407_0.out);rintro e w' ⟨rfl,⟨nd,rfl⟩⟩;(try first|exact ⟨rfl,_,World.drewN_drewN _ _ _⟩|exact ⟨rfl,_,Eq.trans (World.drewN_drewN _ _ _) (congrArg (World.drewN _) (Nat.add_assoc _ _ _))⟩)));try go_wp2_with (first|(go_at_call 51;(with_reducible refine (laws_eqIntS.calls k1 _ _ (rd_LI l0 x5_1) _ _ (rd_LI l1 x5_1) true _ ?side1 ?side2 ?side3 ?side4 A7.out).mono ?_);(case side1=>repeat (first|exact HR406_0.out|(with_reducible refine Kd.C_alloc ?_ _)|(with_reducible refine Kd.C_drewN ?_ _)|(with_reducible refine Kd.C_drew ?_)));(case side2=>exact HC406_0.out);(case side3=>repeat (first|exact HR407_0.out|(with_reducible refine Kd.C_alloc ?_ _)|(with_reducible refine Kd.C_drewN ?_ _)|(with_reducible refine Kd.C_drew ?_)));(case side4=>exact HC407_0.out);rintro e w' ⟨rfl,⟨nd,rfl⟩⟩;(try first|exact ⟨rfl,_,World.drewN_drewN _ _ _⟩|exact ⟨rfl,_,Eq.trans (World.drewN_drewN _ _ _) (congrArg (World.drewN _) (Nat.add_assoc _ _ _))⟩))))
        go_roundg k1
        case measure=>have:=HK1.out;omega
        case rel=>exact ⟨(wrap64 (x5_1 + 1)),(by first|rfl|(simp;done)|(simp [*];done)),H',⟨by have:=HK1.out;omega⟩,by repeat (first|exact Drawn0.refl _|apply Drawn0.step)⟩
       ·replace c8:=Bool.eq_false_iff.mpr c8;subst c8;have H1:(some false) = some r:=by rw [if_neg (show ¬ (false = true) by decide)] at H;exact H
        clear H;have H:=H1;clear H1;obtain rfl:=Option.some.inj H;have p406:0 ≤ (x5_1:Int):=of_decide_eq_true ab;have q406:x5_1 < (l0.length:Int):=of_decide_eq_true ab;obtain ⟨ad406,A406_0,c406_0,e406,hx406_0,hl406_0,hi406_0⟩:=at_LI HR0.out x5_1 p406 q406;cases e406
        have HR406_0:=Aside0.mk hi406_0;have HC406_0:=Aside0.mk hl406_0;clear hi406_0 hl406_0;replace p406:=eq_true p406;replace q406:=eq_true q406;have p407:0 ≤ (x5_1:Int):=of_decide_eq_true ab;have q407:x5_1 < (l1.length:Int):=of_decide_eq_true ab;obtain ⟨ad407,A407_0,c407_0,e407,hx407_0,hl407_0,hi407_0⟩:=at_LI HR1.out x5_1 p407 q407;cases e407
        have HR407_0:=Aside0.mk hi407_0;have HC407_0:=Aside0.mk hl407_0;clear hi407_0 hl407_0;replace p407:=eq_true p407;replace q407:=eq_true q407;go_wp2_with (first|(go_at_call 51;(with_reducible refine (laws_eqIntS.calls k1 _ _ (rd_LI l0 x5_1) _ _ (rd_LI l1 x5_1) false _ ?side1 ?side2 ?side3 ?side4 A7.out).mono ?_);(case side1=>repeat (first|exact HR406_0.out|(with_reducible refine Kd.C_alloc ?_ _)|(with_reducible refine Kd.C_drewN ?_ _)|(with_reducible refine Kd.C_drew ?_)));(case side2=>exact HC406_0.out);(case side3=>repeat (first|exact HR407_0.out|(with_reducible refine Kd.C_alloc ?_ _)|(with_reducible refine Kd.C_drewN ?_ _)|(with_reducible refine Kd.C_drew ?_)));(case side4=>exact HC407_0.out);rintro e w' ⟨rfl,⟨nd,rfl⟩⟩;(try first|exact ⟨rfl,_,World.drewN_drewN _ _ _⟩|exact ⟨rfl,_,Eq.trans (World.drewN_drewN _ _ _) (congrArg (World.drewN _) (Nat.add_assoc _ _ _))⟩)))
        repeat (go_quiet (first|(go_at_call 51;(with_reducible refine (laws_eqIntS.calls k1 _ _ (rd_LI l0 x5_1) _ _ (rd_LI l1 x5_1) false _ ?side1 ?side2 ?side3 ?side4 A7.out).mono ?_);(case side1=>repeat (first|exact HR406_0.out|(with_reducible refine Kd.C_alloc ?_ _)|(with_reducible refine Kd.C_drewN ?_ _)|(with_reducible refine Kd.C_drew ?_)));(case side2=>exact HC406_0.out);(case side3=>repeat (first|exact HR407_0.out|(with_reducible refine Kd.C_alloc ?_ _)|(with_reducible refine Kd.C_drewN ?_ _)|(with_reducible refine Kd.C_drew ?_)));(case side4=>exact HC407_0.out);rintro e w' ⟨rfl,⟨nd,rfl⟩⟩;(try first|exact ⟨rfl,_,World.drewN_drewN _ _ _⟩|exact ⟨rfl,_,Eq.trans (World.drewN_drewN _ _ _) (congrArg (World.drewN _) (Nat.add_assoc _ _ _))⟩)));try go_wp2_with (first|(go_at_call 51;(with_reducible refine (laws_eqIntS.calls k1 _ _ (rd_LI l0 x5_1) _ _ (rd_LI l1 x5_1) false _ ?side1 ?side2 ?side3 ?side4 A7.out).mono ?_);(case side1=>repeat (first|exact HR406_0.out|(with_reducible refine Kd.C_alloc ?_ _)|(with_reducible refine Kd.C_drewN ?_ _)|(with_reducible refine Kd.C_drew ?_)));(case side2=>exact HC406_0.out);(case side3=>repeat (first|exact HR407_0.out|(with_reducible refine Kd.C_alloc ?_ _)|(with_reducible refine Kd.C_drewN ?_ _)|(with_reducible refine Kd.C_drew ?_)));(case side4=>exact HC407_0.out);rintro e w' ⟨rfl,⟨nd,rfl⟩⟩;(try first|exact ⟨rfl,_,World.drewN_drewN _ _ _⟩|exact ⟨rfl,_,Eq.trans (World.drewN_drewN _ _ _) (congrArg (World.drewN _) (Nat.add_assoc _ _ _))⟩))))
        go_ret
        exact ⟨by first|rfl|(simp;done)|(simp [*];done),by repeat (first|exact Drawn0.refl _|apply Drawn0.step)⟩
      ·rw [if_neg c6] at H;exact absurd H (by simp)
     ·rw [if_neg c5] at H;exact absurd H (by simp)
    ·rw [if_neg c4] at H;have c4b0:decide (x5_1 < (l0.length:Int)) = false:=decide_eq_false c4;clear c4;obtain rfl:=Option.some.inj H;go_wp2
     repeat (go_quiet (fail);try go_wp2)
     go_ret
     exact ⟨by first|rfl|(simp;done)|(simp [*];done),by repeat (first|exact Drawn0.refl _|apply Drawn0.step)⟩
 ·rw [if_neg c3] at H;have c3b0:((l0.length:Int) == (l1.length:Int)) = false:=beq_eq_false_iff_ne.mpr c3;have c3b1:((l0.length:Int) != (l1.length:Int)) = true:=bne_iff_ne.mpr c3;have c3b2:(l0.length == l1.length) = false:=by first|simpa using c3|(simp at c3 ⊢;omega)
  obtain rfl:=Option.some.inj H;go_enter Try.func15,Try.ntmps15;go_wp2
  repeat (go_quiet (fail);try go_wp2)
  go_ret
  exact ⟨by first|rfl|(simp;done)|(simp [*];done),by repeat (first|exact Drawn0.refl _|apply Drawn0.step)⟩


/-! ### laws_eqGame: function 16 -/
def laws_eqGame.f (k:Nat) (a0_0:Int) (l0_1:List (List Int)) (a1_0:Int) (l1_1:List (List Int)):Option (Bool):=if a0_0 = a1_0 then ((laws_eqIntSS.f k l0_1 l1_1).bind fun t411=>(if t411 = true then (some true) else (some false))) else (some false)
theorem laws_eqGame.mono:∀ a0 a1 a2 a3 k,LeO (laws_eqGame.f k a0 a1 a2 a3) (laws_eqGame.f (k + 1) a0 a1 a2 a3):=by
 intro a0 a1 a2 a3 k;unfold laws_eqGame.f
 repeat' with_reducible first|exact laws_eqIntSS.mono _ _ _|exact LeO.refl _|exact LeO.none _|refine LeO.ite ?_ ?_|refine LeO.bind ?_ (fun _=>?_)
set_option maxHeartbeats 8000000 in
set_option maxRecDepth 100000 in
theorem laws_eqGame.calls (k:Nat) (a0_0:Int) (A0_1:Option Addr) (c0_1:Nat) (l0_1:List (List Int)) (a1_0:Int) (A1_1:Option Addr) (c1_1:Nat) (l1_1:List (List Int)) (r:Bool) (w:World) (hr0_1:Kd.C (Kd.slice 3 (Kd.int .i64)) w A0_1 l0_1.length l0_1) (hc0_1:l0_1.length ≤ c0_1) (hr1_1:Kd.C (Kd.slice 3 (Kd.int .i64)) w A1_1 l1_1.length l1_1) (hc1_1:l1_1.length ≤ c1_1) (h:laws_eqGame.f k a0_0 l0_1 a1_0 l1_1 = some r) :
  Calls Try.prog 16 #[.agg #[.int .i64 a0_0,.slice A0_1 l0_1.length c0_1],.agg #[.int .i64 a1_0,.slice A1_1 l1_1.length c1_1]] w fun e w'=>e = .returned (.bool r) ∧ Below w.heap.size w w':=by
 have hu28:=Try.underlying28;have HR0_1:=Aside0.mk hr0_1;have HC0_1:=Aside0.mk hc0_1;clear hr0_1 hc0_1;have HR1_1:=Aside0.mk hr1_1;have HC1_1:=Aside0.mk hc1_1;clear hr1_1 hc1_1;have HB:=Aside0.mk (Below.refl w.heap.size w);have H:(if a0_0 = a1_0 then ((laws_eqIntSS.f k l0_1 l1_1).bind fun t411=>(if t411 = true then (some true) else (some false))) else (some false)) = some r:=h;clear h;by_cases c3:a0_0 = a1_0
 ·rw [if_pos c3] at H;have c3b0:(a0_0 == a1_0) = true:=beq_iff_eq.mpr c3;have c3b1:(a0_0 != a1_0) = false:=bne_eq_false_iff_eq.mpr c3;clear c3;replace H:=Option.bind_eq_some_iff.mp H;obtain ⟨t411,A40,H⟩:=H;replace H:(if t411 = true then (some true) else (some false)) = some r:=H;have A4:=Aside0.mk A40;clear A40;by_cases c5:t411 = true
  ·subst c5;have H1:(some true) = some r:=by rw [if_pos rfl] at H;exact H
   clear H;have H:=H1;clear H1;obtain rfl:=Option.some.inj H;go_enter Try.func16,Try.ntmps16;go_wp2_with (first|((with_reducible refine gate_dst (N:=2) rfl ?_);refine box_event ?hg (N:=2) ?hd (cs:=#[.int .i64 a0_0,.slice A0_1 l0_1.length c0_1]) (t:=28) ?hr ?_;(case hd=>rfl);(case hg=>rfl);(case hr=>first|(go_simp;done)|(go_simp;rfl));intro gb409 hg w6 hbox hb;have n0_:=Aside0.mk (below_step bw hb);have n1_:=Aside0.mk (hbox);have n2_:=Aside0.mk ((by rw [hg];exact (below_size bw):w.heap.size ≤ gb409));have n3_:=Aside0.mk ((by rw [hg];exact (below_size bw):w.heap.size ≤ gb409));clear HB;have HB:=n0_;have BK409:=n1_;have GW409:=n2_;have GE409:=n3_;clear n0_ n1_ n2_ n3_;clear hb hbox hg)|((with_reducible refine gate_dst (N:=3) rfl ?_);refine box_event ?hg (N:=3) ?hd (cs:=#[.int .i64 a1_0,.slice A1_1 l1_1.length c1_1]) (t:=28) ?hr ?_;(case hd=>rfl);(case hg=>rfl);(case hr=>first|(go_simp;done)|(go_simp;rfl));intro gb410 hg w7 hbox hb;have n0_:=Aside0.mk (blk_below (g:=gb409) (o:=.cells #[.int .i64 a0_0,.slice A0_1 l0_1.length c0_1] 28 (0,0)) bk hb);have n1_:=Aside0.mk (below_step bw hb);have n2_:=Aside0.mk (hbox);have n3_:=Aside0.mk ((by rw [hg];exact (below_size bw):w.heap.size ≤ gb410));have n4_:=Aside0.mk ((by rw [hg];exact (below_size bw):w.heap.size ≤ gb410));have n5_:=Aside0.mk ((by rw [hg];exact Nat.ne_of_lt (blk_lt (g:=gb409) (o:=.cells #[.int .i64 a0_0,.slice A0_1 l0_1.length c0_1] 28 (0,0)) bk):gb409 ≠ gb410));have n6_:=Aside0.mk ((by rw [hg];exact Nat.ne_of_gt (blk_lt (g:=gb409) (o:=.cells #[.int .i64 a0_0,.slice A0_1 l0_1.length c0_1] 28 (0,0)) bk):gb410 ≠ gb409));clear BK409;clear HB;have BK409:=n0_;have HB:=n1_;have BK410:=n2_;have GW410:=n3_;have GE410:=n4_;have NB409_410:=n5_;have NB410_409:=n6_;clear n0_ n1_ n2_ n3_ n4_ n5_ n6_;clear hb hbox hg;have hnb8:=NB409_410.out;have hnc8:=NB410_409.out;have hcz9_0:w7.cell? ⟨gb409,0,none⟩ = some (.int .i64 a0_0):=(blk_cell BK409.out 0).trans rfl;have hcz9_1:w7.cell? ⟨gb409,1,none⟩ = some (.slice A0_1 l0_1.length c0_1):=(blk_cell BK409.out 1).trans rfl;have hfz9_0:=blk_frozen BK409.out 0;have hfz9_1:=blk_frozen BK409.out 1;have hcz10_0:w7.cell? ⟨gb410,0,none⟩ = some (.int .i64 a1_0):=(blk_cell BK410.out 0).trans rfl;have hcz10_1:w7.cell? ⟨gb410,1,none⟩ = some (.slice A1_1 l1_1.length c1_1):=(blk_cell BK410.out 1).trans rfl;have hfz10_0:=blk_frozen BK410.out 0;have hfz10_1:=blk_frozen BK410.out 1)|((with_reducible refine gate_callee (f:=15) rfl ?_);refine goesL_ (some 14) rfl rfl Try.func15 (by kernel_rfl) rfl #[.slice A0_1 l0_1.length c0_1,.slice A1_1 l1_1.length c1_1] rfl mq ?_;(with_reducible refine (laws_eqIntSS.calls k _ _ l0_1 _ _ l1_1 true _ ?side1 ?side2 ?side3 ?side4 A4.out).mono ?_);(case side1=>repeat (first|exact (Kd.C_below HR0_1.out HB.out)|(with_reducible refine Kd.C_alloc ?_ _)|(with_reducible refine Kd.C_drewN ?_ _)|(with_reducible refine Kd.C_drew ?_)));(case side2=>exact HC0_1.out);(case side3=>repeat (first|exact (Kd.C_below HR1_1.out HB.out)|(with_reducible refine Kd.C_alloc ?_ _)|(with_reducible refine Kd.C_drewN ?_ _)|(with_reducible refine Kd.C_drew ?_)));(case side4=>exact HC1_1.out);rintro e w' ⟨rfl,⟨nd,rfl⟩⟩;refine ⟨_,rfl,?_⟩))
   go_ret
   exact ⟨by first|rfl|(simp [errW_none,errW_some] <;> rfl)|(simp [*,errW_none,errW_some] <;> rfl),by repeat (first|(with_reducible first|exact HB.out|apply below_alloc|apply pw_below_drewN|apply below_drew1|refine below_set ?_ GE409.out|refine below_set ?_ GE410.out)|exact HB.out)⟩
  ·replace c5:=Bool.eq_false_iff.mpr c5;subst c5;have H1:(some false) = some r:=by rw [if_neg (show ¬ (false = true) by decide)] at H;exact H
   clear H;have H:=H1;clear H1;obtain rfl:=Option.some.inj H;go_enter Try.func16,Try.ntmps16;go_wp2_with (first|((with_reducible refine gate_dst (N:=2) rfl ?_);refine box_event ?hg (N:=2) ?hd (cs:=#[.int .i64 a0_0,.slice A0_1 l0_1.length c0_1]) (t:=28) ?hr ?_;(case hd=>rfl);(case hg=>rfl);(case hr=>first|(go_simp;done)|(go_simp;rfl));intro gb409 hg w11 hbox hb;have n0_:=Aside0.mk (below_step bw hb);have n1_:=Aside0.mk (hbox);have n2_:=Aside0.mk ((by rw [hg];exact (below_size bw):w.heap.size ≤ gb409));have n3_:=Aside0.mk ((by rw [hg];exact (below_size bw):w.heap.size ≤ gb409));clear HB;have HB:=n0_;have BK409:=n1_;have GW409:=n2_;have GE409:=n3_;clear n0_ n1_ n2_ n3_;clear hb hbox hg)|((with_reducible refine gate_dst (N:=3) rfl ?_);refine box_event ?hg (N:=3) ?hd (cs:=#[.int .i64 a1_0,.slice A1_1 l1_1.length c1_1]) (t:=28) ?hr ?_;(case hd=>rfl);(case hg=>rfl);(case hr=>first|(go_simp;done)|(go_simp;rfl));intro gb410 hg w12 hbox hb;have n0_:=Aside0.mk (blk_below (g:=gb409) (o:=.cells #[.int .i64 a0_0,.slice A0_1 l0_1.length c0_1] 28 (0,0)) bk hb);have n1_:=Aside0.mk (below_step bw hb);have n2_:=Aside0.mk (hbox);have n3_:=Aside0.mk ((by rw [hg];exact (below_size bw):w.heap.size ≤ gb410));have n4_:=Aside0.mk ((by rw [hg];exact (below_size bw):w.heap.size ≤ gb410));have n5_:=Aside0.mk ((by rw [hg];exact Nat.ne_of_lt (blk_lt (g:=gb409) (o:=.cells #[.int .i64 a0_0,.slice A0_1 l0_1.length c0_1] 28 (0,0)) bk):gb409 ≠ gb410));have n6_:=Aside0.mk ((by rw [hg];exact Nat.ne_of_gt (blk_lt (g:=gb409) (o:=.cells #[.int .i64 a0_0,.slice A0_1 l0_1.length c0_1] 28 (0,0)) bk):gb410 ≠ gb409));clear BK409;clear HB;have BK409:=n0_;have HB:=n1_;have BK410:=n2_;have GW410:=n3_;have GE410:=n4_;have NB409_410:=n5_;have NB410_409:=n6_;clear n0_ n1_ n2_ n3_ n4_ n5_ n6_;clear hb hbox hg;have hnb13:=NB409_410.out;have hnc13:=NB410_409.out;have hcz14_0:w12.cell? ⟨gb409,0,none⟩ = some (.int .i64 a0_0):=(blk_cell BK409.out 0).trans rfl;have hcz14_1:w12.cell? ⟨gb409,1,none⟩ = some (.slice A0_1 l0_1.length c0_1):=(blk_cell BK409.out 1).trans rfl;have hfz14_0:=blk_frozen BK409.out 0;have hfz14_1:=blk_frozen BK409.out 1;have hcz15_0:w12.cell? ⟨gb410,0,none⟩ = some (.int .i64 a1_0):=(blk_cell BK410.out 0).trans rfl;have hcz15_1:w12.cell? ⟨gb410,1,none⟩ = some (.slice A1_1 l1_1.length c1_1):=(blk_cell BK410.out 1).trans rfl;have hfz15_0:=blk_frozen BK410.out 0;have hfz15_1:=blk_frozen BK410.out 1)|((with_reducible refine gate_callee (f:=15) rfl ?_);refine goesL_ (some 14) rfl rfl Try.func15 (by kernel_rfl) rfl #[.slice A0_1 l0_1.length c0_1,.slice A1_1 l1_1.length c1_1] rfl mq ?_;(with_reducible refine (laws_eqIntSS.calls k _ _ l0_1 _ _ l1_1 false _ ?side1 ?side2 ?side3 ?side4 A4.out).mono ?_);(case side1=>repeat (first|exact (Kd.C_below HR0_1.out HB.out)|(with_reducible refine Kd.C_alloc ?_ _)|(with_reducible refine Kd.C_drewN ?_ _)|(with_reducible refine Kd.C_drew ?_)));(case side2=>exact HC0_1.out);(case side3=>repeat (first|exact (Kd.C_below HR1_1.out HB.out)|(with_reducible refine Kd.C_alloc ?_ _)|(with_reducible refine Kd.C_drewN ?_ _)|(with_reducible refine Kd.C_drew ?_)));(case side4=>exact HC1_1.out);rintro e w' ⟨rfl,⟨nd,rfl⟩⟩;refine ⟨_,rfl,?_⟩))
   go_ret
   exact ⟨by first|rfl|(simp [errW_none,errW_some] <;> rfl)|(simp [*,errW_none,errW_some] <;> rfl),by repeat (first|(with_reducible first|exact HB.out|apply below_alloc|apply pw_below_drewN|apply below_drew1|refine below_set ?_ GE409.out|refine below_set ?_ GE410.out)|exact HB.out)⟩
 ·rw [if_neg c3] at H;have c3b0:(a0_0 == a1_0) = false:=beq_eq_false_iff_ne.mpr c3;have c3b1:(a0_0 != a1_0) = true:=bne_iff_ne.mpr c3;obtain rfl:=Option.some.inj H;go_enter Try.func16,Try.ntmps16;go_wp2_with (first|((with_reducible refine gate_dst (N:=2) rfl ?_);refine box_event ?hg (N:=2) ?hd (cs:=#[.int .i64 a0_0,.slice A0_1 l0_1.length c0_1]) (t:=28) ?hr ?_;(case hd=>rfl);(case hg=>rfl);(case hr=>first|(go_simp;done)|(go_simp;rfl));intro gb409 hg w16 hbox hb;have n0_:=Aside0.mk (below_step bw hb);have n1_:=Aside0.mk (hbox);have n2_:=Aside0.mk ((by rw [hg];exact (below_size bw):w.heap.size ≤ gb409));have n3_:=Aside0.mk ((by rw [hg];exact (below_size bw):w.heap.size ≤ gb409));clear HB;have HB:=n0_;have BK409:=n1_;have GW409:=n2_;have GE409:=n3_;clear n0_ n1_ n2_ n3_;clear hb hbox hg)|((with_reducible refine gate_dst (N:=3) rfl ?_);refine box_event ?hg (N:=3) ?hd (cs:=#[.int .i64 a1_0,.slice A1_1 l1_1.length c1_1]) (t:=28) ?hr ?_;(case hd=>rfl);(case hg=>rfl);(case hr=>first|(go_simp;done)|(go_simp;rfl));intro gb410 hg w17 hbox hb;have n0_:=Aside0.mk (blk_below (g:=gb409) (o:=.cells #[.int .i64 a0_0,.slice A0_1 l0_1.length c0_1] 28 (0,0)) bk hb);have n1_:=Aside0.mk (below_step bw hb);have n2_:=Aside0.mk (hbox);have n3_:=Aside0.mk ((by rw [hg];exact (below_size bw):w.heap.size ≤ gb410));have n4_:=Aside0.mk ((by rw [hg];exact (below_size bw):w.heap.size ≤ gb410));have n5_:=Aside0.mk ((by rw [hg];exact Nat.ne_of_lt (blk_lt (g:=gb409) (o:=.cells #[.int .i64 a0_0,.slice A0_1 l0_1.length c0_1] 28 (0,0)) bk):gb409 ≠ gb410));have n6_:=Aside0.mk ((by rw [hg];exact Nat.ne_of_gt (blk_lt (g:=gb409) (o:=.cells #[.int .i64 a0_0,.slice A0_1 l0_1.length c0_1] 28 (0,0)) bk):gb410 ≠ gb409));clear BK409;clear HB;have BK409:=n0_;have HB:=n1_;have BK410:=n2_;have GW410:=n3_;have GE410:=n4_;have NB409_410:=n5_;have NB410_409:=n6_;clear n0_ n1_ n2_ n3_ n4_ n5_ n6_;clear hb hbox hg;have hnb18:=NB409_410.out;have hnc18:=NB410_409.out;have hcz19_0:w17.cell? ⟨gb409,0,none⟩ = some (.int .i64 a0_0):=(blk_cell BK409.out 0).trans rfl;have hcz19_1:w17.cell? ⟨gb409,1,none⟩ = some (.slice A0_1 l0_1.length c0_1):=(blk_cell BK409.out 1).trans rfl;have hfz19_0:=blk_frozen BK409.out 0;have hfz19_1:=blk_frozen BK409.out 1;have hcz20_0:w17.cell? ⟨gb410,0,none⟩ = some (.int .i64 a1_0):=(blk_cell BK410.out 0).trans rfl;have hcz20_1:w17.cell? ⟨gb410,1,none⟩ = some (.slice A1_1 l1_1.length c1_1):=(blk_cell BK410.out 1).trans rfl;have hfz20_0:=blk_frozen BK410.out 0;have hfz20_1:=blk_frozen BK410.out 1))
  go_ret
  exact ⟨by first|rfl|(simp [errW_none,errW_some] <;> rfl)|(simp [*,errW_none,errW_some] <;> rfl),by repeat (first|(with_reducible first|exact HB.out|apply below_alloc|apply pw_below_drewN|apply below_drew1|refine below_set ?_ GE409.out|refine below_set ?_ GE410.out)|exact HB.out)⟩


/-! ### laws_markIntS: function 52 -/
def laws_markIntS.l0:Nat → List Int → Int → Int → Option (Int × List Int)
 | 0,_,_,_=>none
 | k + 1,x0,x1,x5=>if x5 < (x0.length:Int) then (if 0 ≤ x5 then (laws_markIntS.l0 k (x0.set (x5:Int).toNat x1) (wrap64 (x1 + 1)) (wrap64 (x5 + 1))) else (none)) else (some (x1,x0))
def laws_markIntS.f (k:Nat) (l0:List Int) (a1:Int):Option (Int × List Int):=laws_markIntS.l0 k l0 a1 0
theorem laws_markIntS.mono_l:∀ k,(∀ y0 y1 y2,LeO (laws_markIntS.l0 k y0 y1 y2) (laws_markIntS.l0 (k + 1) y0 y1 y2))
 | 0=>fun _ _ _ r h=>by simp [laws_markIntS.l0] at h
 | k + 1=>by
  have ih0:=laws_markIntS.mono_l k
  ·intro y0 y1 y2;unfold laws_markIntS.l0
   repeat' with_reducible first|exact ih0 _ _ _|exact LeO.refl _|exact LeO.none _|refine LeO.ite ?_ ?_|refine LeO.bind ?_ (fun _=>?_)
theorem laws_markIntS.mono:∀ a0 a1 k,LeO (laws_markIntS.f k a0 a1) (laws_markIntS.f (k + 1) a0 a1):=by
 intro a0 a1 k;have ih0:=laws_markIntS.mono_l k;unfold laws_markIntS.f
 repeat' with_reducible first|exact ih0 _ _ _|exact LeO.refl _|exact LeO.none _|refine LeO.ite ?_ ?_|refine LeO.bind ?_ (fun _=>?_)
set_option maxHeartbeats 8000000 in
set_option maxRecDepth 100000 in
theorem laws_markIntS.calls (k:Nat) (P0_:Nat → Prop) (u9000_:Value) (l0:List Int) (a1:Int) (r1:Int) (r2:List Int) (w0 w:World) (hB:Below w0.heap.size w0 w) (ho0:Kd.R (Kd.int .i64) 3 w w0.heap.size P0_ u9000_ l0) (h:laws_markIntS.f k l0 a1 = some (r1,r2)) :
  Calls Try.prog 52 #[u9000_,.int .i64 a1] w fun e w'=>e = .returned (.int .i64 r1) ∧ Kd.R (Kd.int .i64) 3 w' w0.heap.size (fun k_=>(P0_ k_ ∨ w.heap.size ≤ k_)) u9000_ r2 ∧ Below w0.heap.size w0 w' ∧ Kept w w' (fun k_=>P0_ k_):=by
 have HO0:=Aside0.mk (show Kd.R (Kd.int .i64) 3 w w0.heap.size (fun k_=>(P0_ k_ ∨ w.heap.size ≤ k_)) u9000_ l0 from Kd.R_mono ho0 (fun k_ hk=>(.inl hk)));have HK:=Aside0.mk (Kept.refl w (fun k_=>P0_ k_));have HW0:=Aside0.mk hB.size;have HB:=Aside0.mk hB;clear hB;have H:(laws_markIntS.l0 k l0 a1 0) = some (r1,r2):=h;clear h;have H':=Aside0.mk H;clear H;go_enter Try.func52,Try.ntmps52;go_wp2
 go_loopg [1,5] k (fun kq v1 v5 w'=>∃ (x0_1:List Int) (x1_1:Int) (x5_1:Int),v1 = .int .i64 x1_1 ∧ v5 = .int .i64 x5_1 ∧ Aside0 (laws_markIntS.l0 kq x0_1 x1_1 x5_1 = some (r1,r2)) ∧ Aside0 (kq ≤ k) ∧ Aside0 (Kd.R (Kd.int .i64) 3 w' w0.heap.size (fun k_=>(P0_ k_ ∨ w.heap.size ≤ k_)) u9000_ x0_1) ∧ Aside0 (Kept w w' (fun k_=>P0_ k_)) ∧ Aside0 (Below w0.heap.size w0 w'))
 case atStart=>exact ⟨(l0),(a1),(0),(by first|rfl|(simp;done)|(simp [*];done)),(by first|rfl|(simp;done)|(simp [*];done)),H',⟨Nat.le_refl _⟩,⟨by (with_reducible repeat (first|apply Kd.R_alloc|apply Kd.R_drewN|apply Kd.R_drew));exact HO0.out⟩,⟨by repeat (first|(with_reducible first|exact HK.out|apply Kept.alloc|apply Kept.drewN|apply Kept.drew)|exact HK.out)⟩,⟨by repeat (first|(with_reducible first|exact HB.out|apply below_alloc|apply pw_below_drewN|apply below_drew1)|exact HB.out)⟩⟩
 case round =>
  clear H'
  try clear p2
  obtain ⟨x0_1,x1_1,x5_1,rfl,rfl,HA,HK1,HO_0,HK,HB⟩:=hrel
  cases gk with
  | zero=>exact absurd HA.out (by simp [laws_markIntS.l0])
  | succ k1 =>
   have H:=HA.out;clear HA;simp only [laws_markIntS.l0] at H;by_cases c3:x5_1 < (x0_1.length:Int)
   ·rw [if_pos c3] at H;have c3b0:decide (x5_1 < (x0_1.length:Int)) = true:=decide_eq_true c3;clear c3;by_cases c4:0 ≤ x5_1
    ·rw [if_pos c4] at H;have c4b0:decide (0 ≤ x5_1) = true:=decide_eq_true c4;clear c4;obtain ⟨y412,hy412⟩:∃ y_:List Int,y_ = (x0_1.set (x5_1:Int).toNat x1_1):=⟨_,rfl⟩;replace H:(laws_markIntS.l0 k1 y412 (wrap64 (x1_1 + 1)) (wrap64 (x5_1 + 1))) = some (r1,r2):=by first|(rw [hy412];with_reducible exact H)|(have H2_:=(Option.bind_some _ _).symm.trans H;rw [hy412];with_reducible exact H2_)|(have H2_:=(Option.bind_some _ _).symm.trans H;with_reducible exact H2_)|with_reducible exact H|(rw [hy412];exact H)|exact H
     have Ny412:=Aside0.mk hy412;clear hy412;have H':=Aside0.mk H;clear H;obtain ⟨Ao6,co6,eo6⟩:=Kd.R_slice HO_0.out;subst eo6;have p5:0 ≤ (x5_1:Int):=of_decide_eq_true ab;have q5:(x5_1:Int) < ((x0_1.length:Int):Int):=of_decide_eq_true ab;obtain ⟨go5,co5,eo5,gb5,gl5,cl5,HG5⟩:=Kd.R_form HO_0.out (by omega);(first|cases eo5|(injection eo5 with ea_ en_ ec_;(first|subst ea_|(injection ea_ with ea_;subst ea_));subst ec_;clear en_))
     have GB5:=Aside0.mk gb5;have GG5:=Aside0.mk HG5;clear gb5 gl5 HG5;have HMgo5:=Aside0.mk (show (P0_ go5 ∨ w.heap.size ≤ go5) from (HO_0.out.1 _ rfl));obtain ⟨hx5_0,hf5_0⟩:=Kd.R_celln 0 HO_0.out (x5_1:Int) p5 q5;replace p5:=eq_true p5;replace q5:=eq_true q5;have HP7:=Kd.R_putg HO_0.out (x5_1:Int) x1_1;go_wp2_with (first|((with_reducible refine gate_store (t:=3) (p:=15) rfl ?_);refine store_event (t:=3) (p:=15) (v:=?vo_w8) (w1:=(wr.setCell ⟨go5,(x5_1:Int).toNat,none⟩ (.int .i64 x1_1))) ?hg ?ho ?hn ?hr ?_;(case ho=>rfl);(case hg=>rfl);(case hn=>rfl);(case hr=>first|(go_simp;done)|(go_simp;rfl));intro w8 hw;have hg:wr.grownBy w8 (some go5):=(by rw [hw];exact HP7.2);have hp_:Kd.R (Kd.int .i64) 3 w8 w0.heap.size (fun k_=>(P0_ k_ ∨ w.heap.size ≤ k_)) (.slice (some ⟨go5,0,none⟩) x0_1.length co6) y412:=(by rw [hw,Ny412.out];exact HP7.1);clear HP7;have n0_:=Aside0.mk (hp_);have n1_:=Aside0.mk ((by rw [hw];exact below_set (HB.out) GB5.out:Below w0.heap.size w0 w8));have n2_:=Aside0.mk (Kept.of_grown (S:=(fun k_=>P0_ k_)) hg (by repeat (first|(with_reducible first|exact HK.out|apply Kept.alloc|apply Kept.drewN|apply Kept.drew)|exact HK.out)) (fun k_ e_=>(HO_0.out.1 k_ e_)));clear HO_0;clear HB;clear HK;have HO_0:=n0_;have HB:=n1_;have HK:=n2_;clear n0_ n1_ n2_;clear hg hw hp_))
     go_roundg k1
     case measure=>have:=HK1.out;omega
     case rel=>exact ⟨(y412),(wrap64 (x1_1 + 1)),(wrap64 (x5_1 + 1)),(by first|rfl|(simp;done)|(simp [*];done)),(by first|rfl|(simp;done)|(simp [*];done)),H',⟨by have:=HK1.out;omega⟩,⟨by (with_reducible repeat (first|apply Kd.R_alloc|apply Kd.R_drewN|apply Kd.R_drew));exact HO_0.out⟩,⟨by repeat (first|(with_reducible first|exact HK.out|apply Kept.alloc|apply Kept.drewN|apply Kept.drew)|exact HK.out)⟩,⟨by repeat (first|(with_reducible first|exact HB.out|apply below_alloc|apply pw_below_drewN|apply below_drew1)|exact HB.out)⟩⟩
    ·rw [if_neg c4] at H;exact absurd H (by simp)
   ·rw [if_neg c3] at H;have c3b0:decide (x5_1 < (x0_1.length:Int)) = false:=decide_eq_false c3;clear c3;simp only [Option.some.injEq,Prod.mk.injEq] at H;obtain ⟨rfl,rfl⟩:=H;obtain ⟨Ao9,co9,eo9⟩:=Kd.R_slice HO_0.out;subst eo9;go_wp2
    go_ret
    exact ⟨by first|rfl|(simp [errW_none,errW_some] <;> rfl)|(simp [*,errW_none,errW_some] <;> rfl),by (with_reducible repeat (first|apply Kd.R_alloc|apply Kd.R_drewN|apply Kd.R_drew));exact HO_0.out,by repeat (first|(with_reducible first|exact HB.out|apply below_alloc|apply pw_below_drewN|apply below_drew1)|exact HB.out),by repeat (first|(with_reducible first|exact HK.out|apply Kept.alloc|apply Kept.drewN|apply Kept.drew)|exact HK.out)⟩


/-! ### laws_markIntSS: function 18 -/
-- OWN 0 0
-- IMPORT P_laws_markIntS
def laws_markIntSS.l0 : Nat → List (List Int) → Int → Int → Option (Int × List (List Int))
  | 0, _, _, _ => none
  | k + 1, x0, x1, x5 => if x5 < (x0.length : Int) then (if 0 ≤ x5 then ((laws_markIntS.f k (rd_LI x0 x5) x1).bind fun t => (laws_markIntSS.l0 k (x0.set (x5 : Int).toNat t.2) t.1 (wrap64 (x5 + 1)))) else (none)) else (some (x1, x0))
def laws_markIntSS.f (k : Nat) (l0 : List (List Int)) (a1 : Int) : Option (Int × List (List Int)) := laws_markIntSS.l0 k l0 a1 0
theorem laws_markIntSS.mono_l : ∀ k, (∀ y0 y1 y2, LeO (laws_markIntSS.l0 k y0 y1 y2) (laws_markIntSS.l0 (k + 1) y0 y1 y2))
  | 0 => fun _ _ _ r h => by simp [laws_markIntSS.l0] at h
  | k + 1 => by
    have ih0 := laws_markIntSS.mono_l k
    · intro y0 y1 y2
      unfold laws_markIntSS.l0
      repeat' first
      | (with_reducible exact ih0 _ _ _)
      | (with_reducible exact laws_markIntS.mono _ _ _)
      | (with_reducible exact LeO.refl _)
      | (with_reducible exact LeO.none _)
      | (with_reducible refine LeO.ite ?_ ?_)
      | (with_reducible refine LeO.bind ?_ (fun _ => ?_))
      | exact ih0 _ _ _
      | exact laws_markIntS.mono _ _ _
      | exact LeO.none _
      | refine LeO.ite ?_ ?_
      | refine LeO.bind ?_ (fun _ => ?_)
theorem laws_markIntSS.mono : ∀ a0 a1 k, LeO (laws_markIntSS.f k a0 a1) (laws_markIntSS.f (k + 1) a0 a1) := fun a0 a1 k => laws_markIntSS.mono_l k a0 a1 0
/-- An element's row, marked: the row of rows as it then stands. -/
theorem laws_markIntSS.put {W W' : World} {base : Nat} {P oki : Nat → Prop} {v u : Value} {xs : List (List Int)} {i : Int} {r : List Int} (hH : Kd.H (Kd.slice 3 (Kd.int .i64)) 40 W base P v xs i oki [u]) (hR : Kd.R (Kd.int .i64) 3 W' base oki u r) (hk : Kept W W' oki) :
    Kd.S (Kd.slice 3 (Kd.int .i64)) 40 W' base P v (xs.set i.toNat r) :=
  Kd.H_back (Kd.H_step hH (fun k _ hn hlt => hk.2 k hlt hn)) ⟨u, rfl, hR⟩ (fun _ h => h)
set_option maxHeartbeats 8000000 in
set_option maxRecDepth 100000 in
theorem laws_markIntSS.calls (k : Nat) (P0_ : Nat → Prop) (u9000_ : Value) (l0 : List (List Int)) (a1 : Int) (r1 : Int) (r2 : List (List Int)) (w0 w : World) (hB : Below w0.heap.size w0 w) (ho0 : Kd.S (Kd.slice 3 (Kd.int .i64)) 40 w w0.heap.size P0_ u9000_ l0) (h : laws_markIntSS.f k l0 a1 = some (r1, r2)) :
    Calls Try.prog 18 #[u9000_, .int .i64 a1] w fun e w' => e = .returned (.int .i64 r1) ∧ Kd.S (Kd.slice 3 (Kd.int .i64)) 40 w' w0.heap.size P0_ u9000_ r2 ∧ Below w0.heap.size w0 w' ∧ Kept w w' (fun k_ => P0_ k_) := by
  have HO0 := Aside0.mk ho0
  have HK := Aside0.mk (Kept.refl w (fun k_ => P0_ k_))
  have HB := Aside0.mk hB
  clear hB
  have H' := Aside0.mk (show (laws_markIntSS.l0 k l0 a1 0) = some (r1, r2) from h)
  clear h
  go_enter Try.func18, Try.ntmps18
  go_wp2
  go_loopg [1, 5] k (fun kq v1 v5 w' => ∃ (x0_1 : List (List Int)) (x1_1 : Int) (x5_1 : Int), v1 = .int .i64 x1_1 ∧ v5 = .int .i64 x5_1 ∧ Aside0 (laws_markIntSS.l0 kq x0_1 x1_1 x5_1 = some (r1, r2)) ∧ Aside0 (kq ≤ k) ∧ Aside0 (Kd.S (Kd.slice 3 (Kd.int .i64)) 40 w' w0.heap.size P0_ u9000_ x0_1) ∧ Aside0 (Kept w w' (fun k_ => P0_ k_)) ∧ Aside0 (Below w0.heap.size w0 w'))
  case atStart => exact ⟨(l0), (a1), (0), (by first | rfl | (simp; done) | (simp [*]; done)), (by first | rfl | (simp; done) | (simp [*]; done)), H', ⟨Nat.le_refl _⟩, ⟨by (with_reducible repeat (first | apply Kd.S_alloc | apply Kd.S_drewN | apply Kd.S_drew)); exact HO0.out⟩, ⟨by repeat (first | (with_reducible first | exact HK.out | apply Kept.alloc | apply Kept.drewN | apply Kept.drew) | exact HK.out)⟩, ⟨by repeat (first | (with_reducible first | exact HB.out | apply below_alloc | apply pw_below_drewN | apply below_drew1) | exact HB.out)⟩⟩
  case round =>
    clear H'
    try clear p2
    obtain ⟨x0_1, x1_1, x5_1, rfl, rfl, HA, HK1, HO_0, HK, HB⟩ := hrel
    cases gk with
    | zero => exact absurd HA.out (by simp [laws_markIntSS.l0])
    | succ k1 =>
      have H := HA.out
      clear HA
      simp only [laws_markIntSS.l0] at H
      by_cases c3 : x5_1 < (x0_1.length : Int)
      · rw [if_pos c3] at H
        have c3b0 : decide (x5_1 < (x0_1.length : Int)) = true := decide_eq_true c3
        clear c3
        by_cases c4 : 0 ≤ x5_1
        · rw [if_pos c4] at H
          have c4b0 : decide (0 ≤ x5_1) = true := decide_eq_true c4
          clear c4
          replace H := Option.bind_eq_some_iff.mp H
          obtain ⟨⟨t1, t2⟩, A0_, H⟩ := H
          have A1_ := Aside0.mk A0_
          clear A0_
          have H' := Aside0.mk H
          clear H
          have p5 : 0 ≤ (x5_1 : Int) := of_decide_eq_true (by first | (with_reducible assumption) | assumption)
          have q5 : (x5_1 : Int) < ((x0_1.length : Int) : Int) := of_decide_eq_true (by first | (with_reducible assumption) | assumption)
          obtain ⟨go5, co5, eo5, gb5, gl5, cl5, HG5⟩ := Kd.S_form HO_0.out (by omega)
          subst eo5
          obtain ⟨oki, c, hcl, hM, hcc, hoki, hH⟩ := Kd.S_lend HO_0.out ([] : List Int) x5_1 p5 q5
          obtain ⟨u, rfl, hR⟩ := hM
          have hu : u.oneCell' = true := by
            obtain ⟨A_, c_, rfl⟩ := Kd.R_slice hR
            rfl
          obtain ⟨A_, c_, eu⟩ := Kd.R_slice hR
          subst eu
          have hx := hcc 0 _ rfl
          rw [show (Kd.slice 3 (Kd.int .i64)).sz = 1 from rfl, Nat.mul_one, Nat.add_zero] at hx
          have HR_ := Aside0.mk (show Kd.R (Kd.int .i64) 3 _ w0.heap.size oki _ (rd_LI x0_1 x5_1) from hR)
          have HH_ := Aside0.mk hH
          have HP_ := Aside0.mk (fun k_ (hk_ : oki k_) => (hoki k_ hk_).1)
          clear hR hH hcc hcl hoki cl5 HG5 gb5 gl5 HO_0 hu
          rw [show x0_1.getD x5_1.toNat ([] : List Int) = rd_LI x0_1 x5_1 from rfl] at hx
          replace p5 := eq_true p5
          replace q5 := eq_true q5
          go_wp2_with (first | (go_at_call 52; (with_reducible refine (laws_markIntS.calls k1 oki _ (rd_LI x0_1 x5_1) x1_1 t1 t2 w0 _ ?side1 ?side2 A1_.out).mono ?_); (case side1 => exact HB.out); (case side2 => exact HR_.out); rintro e w8 ⟨rfl, hy, hb, hkp⟩; have n0_ := Aside0.mk (laws_markIntSS.put HH_.out (Kd.R_reok rfl hy (fun k_ e_ => HR_.out.1 k_ e_)) hkp); have n1_ := Aside0.mk (Kept.then_ HK.out hkp (fun k_ h_ => .inl (HP_.out k_ h_))); have n2_ := Aside0.mk hb; clear HH_ HB HK HR_ HP_ hx hy hb hkp; have HO_0 := n0_; have HK := n1_; have HB := n2_; clear n0_ n1_ n2_))
          go_roundg k1
          case measure => have := HK1.out; omega
          case rel => exact ⟨(x0_1.set (x5_1 : Int).toNat t2), t1, (wrap64 (x5_1 + 1)), (by first | rfl | (simp; done) | (simp [*]; done)), (by first | rfl | (simp; done) | (simp [*]; done)), H', ⟨by have := HK1.out; omega⟩, HO_0, HK, HB⟩
        · rw [if_neg c4] at H
          exact absurd H (by simp)
      · rw [if_neg c3] at H
        have c3b0 : decide (x5_1 < (x0_1.length : Int)) = false := decide_eq_false c3
        clear c3
        simp only [Option.some.injEq, Prod.mk.injEq] at H
        obtain ⟨rfl, rfl⟩ := H
        obtain ⟨Ao9, co9, eo9⟩ := Kd.S_slice HO_0.out
        subst eo9
        go_wp2
        go_ret
        exact ⟨by first | rfl | (simp [errW_none, errW_some] <;> rfl) | (simp [*, errW_none, errW_some] <;> rfl), HO_0.out, HB.out, HK.out⟩


/-! ### laws_markGame: function 17 -/
-- OWN 0 1
-- IMPORT P_laws_markIntSS
def laws_markGame.f (k : Nat) (a0_0 : Int) (l0_1 : List (List Int)) (a1 : Int) : Option (Int × List (List Int)) := laws_markIntSS.f k l0_1 a1
theorem laws_markGame.mono : ∀ a0 a1 a2 k, LeO (laws_markGame.f k a0 a1 a2) (laws_markGame.f (k + 1) a0 a1 a2) := fun _ a1 a2 k => laws_markIntSS.mono a1 a2 k
set_option maxHeartbeats 8000000 in
set_option maxRecDepth 100000 in
theorem laws_markGame.calls (k : Nat) (a0_0 : Int) (P0_ : Nat → Prop) (u9000_ : Value) (l0_1 : List (List Int)) (a1 : Int) (r1 : Int) (r2 : List (List Int)) (w0 w : World) (hB : Below w0.heap.size w0 w) (ho0 : Kd.S (Kd.slice 3 (Kd.int .i64)) 40 w w0.heap.size P0_ u9000_ l0_1) (h : laws_markGame.f k a0_0 l0_1 a1 = some (r1, r2)) :
    Calls Try.prog 17 #[.agg #[.int .i64 a0_0, u9000_], .int .i64 a1] w fun e w' => e = .returned (.int .i64 r1) ∧ Kd.S (Kd.slice 3 (Kd.int .i64)) 40 w' w0.heap.size P0_ u9000_ r2 ∧ Below w0.heap.size w0 w' ∧ Kept w w' (fun k_ => P0_ k_) := by
  have huG := Try.underlying28
  have A3 := Aside0.mk (show laws_markIntSS.f k l0_1 a1 = some (r1, r2) from h)
  have HS0 := Aside0.mk hB.size
  have HO0_1 := Aside0.mk (show Kd.S (Kd.slice 3 (Kd.int .i64)) 40 w w0.heap.size (fun k_ => P0_ k_ ∧ k_ < w.heap.size) u9000_ l0_1 from Kd.S_mono (Kd.S_bound ho0) (fun k_ hk_ => ⟨hk_.1, hk_.2.2.1⟩))
  have HK := Aside0.mk (Kept.refl w (fun k_ => P0_ k_))
  have HB := Aside0.mk hB
  clear hB h ho0
  obtain ⟨Ao4, co4, eo4⟩ := Kd.S_slice HO0_1.out
  subst eo4
  go_enter Try.func17, Try.ntmps17
  go_wp2_with (first
    | ((with_reducible refine gate_dst (N := 2) rfl ?_); refine box_event ?hg (N := 2) ?hd (cs := #[.int .i64 a0_0, .slice Ao4 l0_1.length co4]) (t := 28) ?hr ?_; (case hd => rfl); (case hg => rfl); (case hr => first | (go_simp; done) | (go_simp; rfl)); intro gb213 hg w5 hbox hb;
       have n0_ := Aside0.mk (Kd.S_below HO0_1.out hb); have n1_ := Aside0.mk (Kept.below (S := (fun k_ => P0_ k_)) HK.out hb); have n2_ := Aside0.mk (below_step HB.out hb); have n3_ := Aside0.mk (hbox); have n4_ := Aside0.mk (show gb213 = w.heap.size from hg);
       clear HO0_1; clear HK; clear HB; have HO0_1 := n0_; have HK := n1_; have HB := n2_; have BK213 := n3_; have GE213 := n4_; clear n0_ n1_ n2_ n3_ n4_; clear hb hbox hg; have hcz6_0 : w5.cell? ⟨gb213, 0, none⟩ = some (.int .i64 a0_0) := (blk_cell BK213.out 0).trans rfl; have hcz6_1 : w5.cell? ⟨gb213, 1, none⟩ = some (.slice Ao4 l0_1.length co4) := (blk_cell BK213.out 1).trans rfl; have hfz6_0 := blk_frozen BK213.out 0; have hfz6_1 := blk_frozen BK213.out 1)
    | ((with_reducible refine gate_callee (f := 18) rfl ?_); refine goesL_ (some 8) rfl rfl Try.func18 (by kernel_rfl) rfl #[.slice Ao4 l0_1.length co4, .int .i64 a1] rfl (by (try simp only [List.map_toArray, List.map_cons, List.map_nil]); first | done | rfl | (simp only [List.length_drop, List.length_take]; rfl)) ?_; (with_reducible refine (laws_markIntSS.calls k (fun k_ => P0_ k_ ∧ k_ < w.heap.size) (.slice Ao4 l0_1.length co4) l0_1 a1 r1 r2 w0 _ ?side1 ?side2 A3.out).mono ?_); (case side1 => exact HB.out); (case side2 => exact HO0_1.out); rintro e w7 ⟨rfl, hy0, hb, hkp⟩; refine ⟨_, rfl, ?_⟩;
       have n0_ := Aside0.mk (Kd.S_mono hy0 (fun k_ h_ => h_.1)); have n1_ := Aside0.mk (blk_kept BK213.out hkp (fun hs_ => by have h_ := hs_.2; rw [GE213.out] at h_; exact Nat.lt_irrefl _ h_)); have n2_ := Aside0.mk (Kept.then_ (S := (fun k_ => P0_ k_)) HK.out hkp (fun k_ hs_ => .inl hs_.1)); have n3_ := Aside0.mk hb;
       clear HO0_1; clear BK213; clear HK; clear HB; have HO0_1 := n0_; have BK213 := n1_; have HK := n2_; have HB := n3_; clear n0_ n1_ n2_ n3_; (try clear hb); (try clear hkp); (try clear hy0)))
  go_ret
  exact ⟨by first | rfl | (simp [errW_none, errW_some] <;> rfl) | (simp [*, errW_none, errW_some] <;> rfl), HO0_1.out, HB.out, HK.out⟩


/-! ### laws_heldIntS: function 53 -/
def laws_heldIntS.l0:Nat → List Int → Int → Int → Option (Int)
 | 0,_,_,_=>none
 | k + 1,x0,x1,x5=>if x5 < (x0.length:Int) then (if 0 ≤ x5 then (if (rd x0 x5) = x1 then (laws_heldIntS.l0 k x0 (wrap64 (x1 + 1)) (wrap64 (x5 + 1))) else (some (-1))) else (none)) else (some x1)
def laws_heldIntS.f (k:Nat) (l0:List Int) (a1:Int):Option (Int):=laws_heldIntS.l0 k l0 a1 0
theorem laws_heldIntS.mono_l:∀ k,(∀ y0 y1 y2,LeO (laws_heldIntS.l0 k y0 y1 y2) (laws_heldIntS.l0 (k + 1) y0 y1 y2))
 | 0=>fun _ _ _ r h=>by simp [laws_heldIntS.l0] at h
 | k + 1=>by
  have ih0:=laws_heldIntS.mono_l k
  ·intro y0 y1 y2;unfold laws_heldIntS.l0
   repeat' with_reducible first|exact ih0 _ _ _|exact LeO.refl _|exact LeO.none _|refine LeO.ite ?_ ?_|refine LeO.bind ?_ (fun _=>?_)
theorem laws_heldIntS.mono:∀ a0 a1 k,LeO (laws_heldIntS.f k a0 a1) (laws_heldIntS.f (k + 1) a0 a1):=by
 intro a0 a1 k;have ih0:=laws_heldIntS.mono_l k;unfold laws_heldIntS.f
 repeat' with_reducible first|exact ih0 _ _ _|exact LeO.refl _|exact LeO.none _|refine LeO.ite ?_ ?_|refine LeO.bind ?_ (fun _=>?_)
set_option maxHeartbeats 8000000 in
set_option maxRecDepth 100000 in
theorem laws_heldIntS.calls (k:Nat) (A0:Option Addr) (c0:Nat) (l0:List Int) (a1:Int) (r:Int) (w:World) (hr0:Kd.C (Kd.int .i64) w A0 l0.length l0) (hc0:l0.length ≤ c0) (h:laws_heldIntS.f k l0 a1 = some r) :
  Calls Try.prog 53 #[.slice A0 l0.length c0,.int .i64 a1] w fun e w'=>e = .returned (.int .i64 r) ∧ Drawn0 w w':=by
 have HR0:=Aside0.mk hr0;have HC0:=Aside0.mk hc0;clear hr0 hc0;have H:(laws_heldIntS.l0 k l0 a1 0) = some r:=h;clear h;have H':=Aside0.mk H;clear H;go_enter Try.func53,Try.ntmps53;go_wp2
 go_loopg [1,5] k (fun kq v1 v5 w'=>∃ (x1_1:Int) (x5_1:Int),v1 = .int .i64 x1_1 ∧ v5 = .int .i64 x5_1 ∧ Aside0 (laws_heldIntS.l0 kq l0 x1_1 x5_1 = some r) ∧ Aside0 (kq ≤ k) ∧ Drawn0 w w')
 case atStart=>exact ⟨(a1),(0),(by first|rfl|(simp;done)|(simp [*];done)),(by first|rfl|(simp;done)|(simp [*];done)),H',⟨Nat.le_refl _⟩,by repeat (first|exact Drawn0.refl _|apply Drawn0.step)⟩
 case round =>
  clear H'
  try clear p2
  obtain ⟨x1_1,x5_1,rfl,rfl,HA,HK1,⟨m1,rfl⟩⟩:=hrel
  cases gk with
  | zero=>exact absurd HA.out (by simp [laws_heldIntS.l0])
  | succ k1 =>
   have H:=HA.out;clear HA;simp only [laws_heldIntS.l0] at H;by_cases c3:x5_1 < (l0.length:Int)
   ·rw [if_pos c3] at H;have c3b0:decide (x5_1 < (l0.length:Int)) = true:=decide_eq_true c3;clear c3;by_cases c4:0 ≤ x5_1
    ·rw [if_pos c4] at H;have c4b0:decide (0 ≤ x5_1) = true:=decide_eq_true c4;clear c4;by_cases c5:(rd l0 x5_1) = x1_1
     ·rw [if_pos c5] at H;have c5b0:((rd l0 x5_1) == x1_1) = true:=beq_iff_eq.mpr c5;have c5b1:((rd l0 x5_1) != x1_1) = false:=bne_eq_false_iff_eq.mpr c5;clear c5;have H':=Aside0.mk H;clear H;have p413:0 ≤ (x5_1:Int):=of_decide_eq_true ab;have q413:x5_1 < (l0.length:Int):=of_decide_eq_true ab;obtain ⟨ad413,e413,hx413_0⟩:=Kd.at_int HR0.out x5_1 p413 q413;cases e413
      replace p413:=eq_true p413;replace q413:=eq_true q413;go_wp2
      go_roundg k1
      case measure=>have:=HK1.out;omega
      case rel=>exact ⟨(wrap64 (x1_1 + 1)),(wrap64 (x5_1 + 1)),(by first|rfl|(simp;done)|(simp [*];done)),(by first|rfl|(simp;done)|(simp [*];done)),H',⟨by have:=HK1.out;omega⟩,by repeat (first|exact Drawn0.refl _|apply Drawn0.step)⟩
     ·rw [if_neg c5] at H;have c5b0:((rd l0 x5_1) == x1_1) = false:=beq_eq_false_iff_ne.mpr c5;have c5b1:((rd l0 x5_1) != x1_1) = true:=bne_iff_ne.mpr c5;obtain rfl:=Option.some.inj H;have p413:0 ≤ (x5_1:Int):=of_decide_eq_true ab;have q413:x5_1 < (l0.length:Int):=of_decide_eq_true ab;obtain ⟨ad413,e413,hx413_0⟩:=Kd.at_int HR0.out x5_1 p413 q413;cases e413
      replace p413:=eq_true p413;replace q413:=eq_true q413;go_wp2
      go_ret
      exact ⟨by first|rfl|(simp;done)|(simp [*];done),by repeat (first|exact Drawn0.refl _|apply Drawn0.step)⟩
    ·rw [if_neg c4] at H;exact absurd H (by simp)
   ·rw [if_neg c3] at H;have c3b0:decide (x5_1 < (l0.length:Int)) = false:=decide_eq_false c3;clear c3;obtain rfl:=Option.some.inj H;go_wp2
    go_ret
    exact ⟨by first|rfl|(simp;done)|(simp [*];done),by repeat (first|exact Drawn0.refl _|apply Drawn0.step)⟩


/-! ### laws_heldIntSS: function 19 -/
def laws_heldIntSS.l0:Nat → List (List Int) → Int → Int → Option (Int)
 | 0,_,_,_=>none
 | k + 1,x0,x1,x5=>if x5 < (x0.length:Int) then (if 0 ≤ x5 then ((laws_heldIntS.f k (rd_LI x0 x5) x1).bind fun t415=>(if t415 < 0 then (some (-1)) else (laws_heldIntSS.l0 k x0 t415 (wrap64 (x5 + 1))))) else (none)) else (some x1)
def laws_heldIntSS.f (k:Nat) (l0:List (List Int)) (a1:Int):Option (Int):=laws_heldIntSS.l0 k l0 a1 0
theorem laws_heldIntSS.mono_l:∀ k,(∀ y0 y1 y2,LeO (laws_heldIntSS.l0 k y0 y1 y2) (laws_heldIntSS.l0 (k + 1) y0 y1 y2))
 | 0=>fun _ _ _ r h=>by simp [laws_heldIntSS.l0] at h
 | k + 1=>by
  have ih0:=laws_heldIntSS.mono_l k
  ·intro y0 y1 y2;unfold laws_heldIntSS.l0
   repeat' with_reducible first|exact ih0 _ _ _|exact laws_heldIntS.mono _ _ _|exact LeO.refl _|exact LeO.none _|refine LeO.ite ?_ ?_|refine LeO.bind ?_ (fun _=>?_)
theorem laws_heldIntSS.mono:∀ a0 a1 k,LeO (laws_heldIntSS.f k a0 a1) (laws_heldIntSS.f (k + 1) a0 a1):=by
 intro a0 a1 k;have ih0:=laws_heldIntSS.mono_l k;unfold laws_heldIntSS.f
 repeat' with_reducible first|exact ih0 _ _ _|exact laws_heldIntS.mono _ _ _|exact LeO.refl _|exact LeO.none _|refine LeO.ite ?_ ?_|refine LeO.bind ?_ (fun _=>?_)
set_option maxHeartbeats 8000000 in
set_option maxRecDepth 100000 in
theorem laws_heldIntSS.calls (k:Nat) (A0:Option Addr) (c0:Nat) (l0:List (List Int)) (a1:Int) (r:Int) (w:World) (hr0:Kd.C (Kd.slice 3 (Kd.int .i64)) w A0 l0.length l0) (hc0:l0.length ≤ c0) (h:laws_heldIntSS.f k l0 a1 = some r) :
  Calls Try.prog 19 #[.slice A0 l0.length c0,.int .i64 a1] w fun e w'=>e = .returned (.int .i64 r) ∧ Drawn0 w w':=by
 have HR0:=Aside0.mk hr0;have HC0:=Aside0.mk hc0;clear hr0 hc0;have H:(laws_heldIntSS.l0 k l0 a1 0) = some r:=h;clear h;have H':=Aside0.mk H;clear H;go_enter Try.func19,Try.ntmps19;go_wp2
 go_loopg [1,5] k (fun kq v1 v5 w'=>∃ (x1_1:Int) (x5_1:Int),v1 = .int .i64 x1_1 ∧ v5 = .int .i64 x5_1 ∧ Aside0 (laws_heldIntSS.l0 kq l0 x1_1 x5_1 = some r) ∧ Aside0 (kq ≤ k) ∧ Drawn0 w w')
 case atStart=>exact ⟨(a1),(0),(by first|rfl|(simp;done)|(simp [*];done)),(by first|rfl|(simp;done)|(simp [*];done)),H',⟨Nat.le_refl _⟩,by repeat (first|exact Drawn0.refl _|apply Drawn0.step)⟩
 case round =>
  clear H'
  try clear c1
  try clear p2
  obtain ⟨x1_1,x5_1,rfl,rfl,HA,HK1,⟨m1,rfl⟩⟩:=hrel
  cases gk with
  | zero=>exact absurd HA.out (by simp [laws_heldIntSS.l0])
  | succ k1 =>
   have H:=HA.out;clear HA;simp only [laws_heldIntSS.l0] at H;by_cases c3:x5_1 < (l0.length:Int)
   ·rw [if_pos c3] at H;have c3b0:decide (x5_1 < (l0.length:Int)) = true:=decide_eq_true c3;clear c3;by_cases c4:0 ≤ x5_1
    ·rw [if_pos c4] at H;have c4b0:decide (0 ≤ x5_1) = true:=decide_eq_true c4;clear c4;replace H:=Option.bind_eq_some_iff.mp H;obtain ⟨t415,A50,H⟩:=H;replace H:(if t415 < 0 then (some (-1)) else (laws_heldIntSS.l0 k1 l0 t415 (wrap64 (x5_1 + 1)))) = some r:=H;have A5:=Aside0.mk A50;clear A50;by_cases c6:t415 < 0
     ·rw [if_pos c6] at H;have c6b0:decide (t415 < 0) = true:=decide_eq_true c6;clear c6;obtain rfl:=Option.some.inj H;have p414:0 ≤ (x5_1:Int):=of_decide_eq_true ab;have q414:x5_1 < (l0.length:Int):=of_decide_eq_true ab;obtain ⟨ad414,A414_0,c414_0,e414,hx414_0,hl414_0,hi414_0⟩:=at_LI HR0.out x5_1 p414 q414;cases e414
      have HR414_0:=Aside0.mk hi414_0;have HC414_0:=Aside0.mk hl414_0;clear hi414_0 hl414_0;replace p414:=eq_true p414;replace q414:=eq_true q414;go_wp2_with (first|((with_reducible refine gate_callee (f:=53) rfl ?_);refine goesL_ (some 17) rfl rfl Try.func53 (by kernel_rfl) rfl #[.slice A414_0 (rd_LI l0 x5_1).length c414_0,.int .i64 x1_1] rfl mq ?_;(with_reducible refine (laws_heldIntS.calls k1 _ _ (rd_LI l0 x5_1) x1_1 t415 _ ?side1 ?side2 A5.out).mono ?_);(case side1=>repeat (first|exact HR414_0.out|(with_reducible refine Kd.C_alloc ?_ _)|(with_reducible refine Kd.C_drewN ?_ _)|(with_reducible refine Kd.C_drew ?_)));(case side2=>exact HC414_0.out);rintro e w' ⟨rfl,⟨nd,rfl⟩⟩;refine ⟨_,rfl,?_⟩))
      go_ret
      exact ⟨by first|rfl|(simp;done)|(simp [*];done),by repeat (first|exact Drawn0.refl _|apply Drawn0.step)⟩
     ·rw [if_neg c6] at H;have c6b0:decide (t415 < 0) = false:=decide_eq_false c6;clear c6;have H':=Aside0.mk H;clear H;have p414:0 ≤ (x5_1:Int):=of_decide_eq_true ab;have q414:x5_1 < (l0.length:Int):=of_decide_eq_true ab;obtain ⟨ad414,A414_0,c414_0,e414,hx414_0,hl414_0,hi414_0⟩:=at_LI HR0.out x5_1 p414 q414;cases e414
      have HR414_0:=Aside0.mk hi414_0;have HC414_0:=Aside0.mk hl414_0;clear hi414_0 hl414_0;replace p414:=eq_true p414;replace q414:=eq_true q414;go_wp2_with (first|((with_reducible refine gate_callee (f:=53) rfl ?_);refine goesL_ (some 17) rfl rfl Try.func53 (by kernel_rfl) rfl #[.slice A414_0 (rd_LI l0 x5_1).length c414_0,.int .i64 x1_1] rfl mq ?_;(with_reducible refine (laws_heldIntS.calls k1 _ _ (rd_LI l0 x5_1) x1_1 t415 _ ?side1 ?side2 A5.out).mono ?_);(case side1=>repeat (first|exact HR414_0.out|(with_reducible refine Kd.C_alloc ?_ _)|(with_reducible refine Kd.C_drewN ?_ _)|(with_reducible refine Kd.C_drew ?_)));(case side2=>exact HC414_0.out);rintro e w' ⟨rfl,⟨nd,rfl⟩⟩;refine ⟨_,rfl,?_⟩))
      go_roundg k1
      case measure=>have:=HK1.out;omega
      case rel=>exact ⟨(t415),(wrap64 (x5_1 + 1)),(by first|rfl|(simp;done)|(simp [*];done)),(by first|rfl|(simp;done)|(simp [*];done)),H',⟨by have:=HK1.out;omega⟩,by repeat (first|exact Drawn0.refl _|apply Drawn0.step)⟩
    ·rw [if_neg c4] at H;exact absurd H (by simp)
   ·rw [if_neg c3] at H;have c3b0:decide (x5_1 < (l0.length:Int)) = false:=decide_eq_false c3;clear c3;obtain rfl:=Option.some.inj H;go_wp2
    go_ret
    exact ⟨by first|rfl|(simp;done)|(simp [*];done),by repeat (first|exact Drawn0.refl _|apply Drawn0.step)⟩


/-! ### laws_FnExactClassesOf: function 3 -/
def laws_FnExactClassesOf.f (k:Nat) (a0_0:Int) (l0_1:List (List Int)):Option (Bool):=(laws_szGame.f k a0_0 l0_1 1048576).bind fun t417=>(if t417 < 0 then (some true) else ((laws_toGame.f k a0_0 l0_1).bind fun bt418=>((spec_ClassesOf.f k bt418.1 bt418.2).bind fun bt422=>((laws_toGame.f k a0_0 l0_1).bind fun bt426=>((impl_ClassesOf.f k bt426.1 bt426.2).bind fun bt431=>((laws_eqIntSS.f k bt431.1 bt422.1).bind fun t435=>(if t435 = true then (if (bt431.2 != bt422.2) = true then (some false) else ((laws_toGame.f k a0_0 l0_1).bind fun bt436=>((laws_eqGame.f k bt426.1 bt426.2 bt436.1 bt436.2).bind fun t440=>(if t440 = true then ((laws_markGame.f k bt426.1 bt426.2 1).bind fun bt441=>(if bt441.1 < 0 then (some false) else ((laws_eqIntSS.f k bt431.1 bt422.1).bind fun t443=>(if t443 = true then ((laws_markIntSS.f k bt431.1 1).bind fun bt444=>((laws_heldIntSS.f k bt444.2 1).bind fun t446=>(if t446 < 0 then (some false) else (if t446 = bt444.1 then ((laws_toGame.f k a0_0 l0_1).bind fun bt447=>((impl_ClassesOf.f k bt447.1 bt447.2).bind fun bt451=>((laws_eqIntSS.f k bt451.1 bt422.1).bind fun t455=>(if t455 = true then (if (bt451.2 != bt422.2) = true then (some false) else ((laws_heldIntSS.f k bt444.2 1).bind fun t456=>(if t456 < 0 then (some false) else (if t456 = bt444.1 then (some true) else (some false))))) else (some false))))) else (some false))))) else (some false))))) else (some false))))) else (some false))))))))
theorem laws_FnExactClassesOf.mono:∀ a0 a1 k,LeO (laws_FnExactClassesOf.f k a0 a1) (laws_FnExactClassesOf.f (k + 1) a0 a1):=by
 intro a0 a1 k;unfold laws_FnExactClassesOf.f
 repeat' with_reducible first|exact impl_ClassesOf.mono _ _ _|exact laws_eqGame.mono _ _ _ _ _|exact laws_eqIntSS.mono _ _ _|exact laws_heldIntSS.mono _ _ _|exact laws_markGame.mono _ _ _ _|exact laws_markIntSS.mono _ _ _|exact laws_szGame.mono _ _ _ _|exact laws_toGame.mono _ _ _|exact spec_ClassesOf.mono _ _ _|exact LeO.refl _|exact LeO.none _|refine LeO.ite ?_ ?_|refine LeO.bind ?_ (fun _=>?_)
set_option maxHeartbeats 8000000 in
set_option maxRecDepth 100000 in
theorem laws_FnExactClassesOf.calls (k:Nat) (a0_0:Int) (A0_1:Option Addr) (c0_1:Nat) (l0_1:List (List Int)) (r:Bool) (w:World) (hr0_1:Kd.C (Kd.slice 3 (Kd.int .i64)) w A0_1 l0_1.length l0_1) (hc0_1:l0_1.length ≤ c0_1) (hr_:Aside0 (r = true)) (h:laws_FnExactClassesOf.f k a0_0 l0_1 = some r) :
  Calls Try.prog 3 #[.agg #[.int .i64 a0_0,.slice A0_1 l0_1.length c0_1]] w fun e w'=>e = .returned (.bool r) ∧ Below w.heap.size w w':=by
 have hu24:=Try.underlying24;have hu28:=Try.underlying28;have HR0_1:=Aside0.mk hr0_1;have HC0_1:=Aside0.mk hc0_1;clear hr0_1 hc0_1;have HB:=Aside0.mk (Below.refl w.heap.size w);have H:((laws_szGame.f k a0_0 l0_1 1048576).bind fun t417=>(if t417 < 0 then (some true) else ((laws_toGame.f k a0_0 l0_1).bind fun bt418=>((spec_ClassesOf.f k bt418.1 bt418.2).bind fun bt422=>((laws_toGame.f k a0_0 l0_1).bind fun bt426=>((impl_ClassesOf.f k bt426.1 bt426.2).bind fun bt431=>((laws_eqIntSS.f k bt431.1 bt422.1).bind fun t435=>(if t435 = true then (if (bt431.2 != bt422.2) = true then (some false) else ((laws_toGame.f k a0_0 l0_1).bind fun bt436=>((laws_eqGame.f k bt426.1 bt426.2 bt436.1 bt436.2).bind fun t440=>(if t440 = true then ((laws_markGame.f k bt426.1 bt426.2 1).bind fun bt441=>(if bt441.1 < 0 then (some false) else ((laws_eqIntSS.f k bt431.1 bt422.1).bind fun t443=>(if t443 = true then ((laws_markIntSS.f k bt431.1 1).bind fun bt444=>((laws_heldIntSS.f k bt444.2 1).bind fun t446=>(if t446 < 0 then (some false) else (if t446 = bt444.1 then ((laws_toGame.f k a0_0 l0_1).bind fun bt447=>((impl_ClassesOf.f k bt447.1 bt447.2).bind fun bt451=>((laws_eqIntSS.f k bt451.1 bt422.1).bind fun t455=>(if t455 = true then (if (bt451.2 != bt422.2) = true then (some false) else ((laws_heldIntSS.f k bt444.2 1).bind fun t456=>(if t456 < 0 then (some false) else (if t456 = bt444.1 then (some true) else (some false))))) else (some false))))) else (some false))))) else (some false))))) else (some false))))) else (some false))))))))) = some r:=h;clear h;replace H:=Option.bind_eq_some_iff.mp H;obtain ⟨t417,A20,H⟩:=H;replace H:(if t417 < 0 then (some true) else ((laws_toGame.f k a0_0 l0_1).bind fun bt418=>((spec_ClassesOf.f k bt418.1 bt418.2).bind fun bt422=>((laws_toGame.f k a0_0 l0_1).bind fun bt426=>((impl_ClassesOf.f k bt426.1 bt426.2).bind fun bt431=>((laws_eqIntSS.f k bt431.1 bt422.1).bind fun t435=>(if t435 = true then (if (bt431.2 != bt422.2) = true then (some false) else ((laws_toGame.f k a0_0 l0_1).bind fun bt436=>((laws_eqGame.f k bt426.1 bt426.2 bt436.1 bt436.2).bind fun t440=>(if t440 = true then ((laws_markGame.f k bt426.1 bt426.2 1).bind fun bt441=>(if bt441.1 < 0 then (some false) else ((laws_eqIntSS.f k bt431.1 bt422.1).bind fun t443=>(if t443 = true then ((laws_markIntSS.f k bt431.1 1).bind fun bt444=>((laws_heldIntSS.f k bt444.2 1).bind fun t446=>(if t446 < 0 then (some false) else (if t446 = bt444.1 then ((laws_toGame.f k a0_0 l0_1).bind fun bt447=>((impl_ClassesOf.f k bt447.1 bt447.2).bind fun bt451=>((laws_eqIntSS.f k bt451.1 bt422.1).bind fun t455=>(if t455 = true then (if (bt451.2 != bt422.2) = true then (some false) else ((laws_heldIntSS.f k bt444.2 1).bind fun t456=>(if t456 < 0 then (some false) else (if t456 = bt444.1 then (some true) else (some false))))) else (some false))))) else (some false))))) else (some false))))) else (some false))))) else (some false)))))))) = some r:=H;have A2:=Aside0.mk A20;clear A20;by_cases c3:t417 < 0
 ·rw [if_pos c3] at H;have c3b0:decide (t417 < 0) = true:=decide_eq_true c3;clear c3;obtain rfl:=Option.some.inj H;go_enter Try.func3,Try.ntmps3;go_wp2_with (first|((with_reducible refine gate_dst (N:=1) rfl ?_);refine box_event ?hg (N:=1) ?hd (cs:=#[.int .i64 a0_0,.slice A0_1 l0_1.length c0_1]) (t:=24) ?hr ?_;(case hd=>rfl);(case hg=>rfl);(case hr=>first|(go_simp;done)|(go_simp;rfl));intro gb416 hg w4 hbox hb;have n0_:=Aside0.mk (below_step bw hb);have n1_:=Aside0.mk (hbox);have n2_:=Aside0.mk ((by rw [hg];exact (below_size bw):w.heap.size ≤ gb416));have n3_:=Aside0.mk ((by rw [hg];exact (below_size bw):w.heap.size ≤ gb416));clear HB;have HB:=n0_;have BK416:=n1_;have GW416:=n2_;have GE416:=n3_;clear n0_ n1_ n2_ n3_;clear hb hbox hg;have hcz5_0:w4.cell? ⟨gb416,0,none⟩ = some (.int .i64 a0_0):=(blk_cell BK416.out 0).trans rfl;have hcz5_1:w4.cell? ⟨gb416,1,none⟩ = some (.slice A0_1 l0_1.length c0_1):=(blk_cell BK416.out 1).trans rfl;have hfz5_0:=blk_frozen BK416.out 0;have hfz5_1:=blk_frozen BK416.out 1)|((with_reducible refine gate_callee (f:=11) rfl ?_);refine goesL_ (some 16) rfl rfl Try.func11 (by kernel_rfl) rfl #[.agg #[.int .i64 a0_0,.slice A0_1 l0_1.length c0_1],.int .i64 1048576] rfl mq ?_;(with_reducible refine (laws_szGame.calls k a0_0 _ _ l0_1 1048576 t417 _ ?side1 ?side2 A2.out).mono ?_);(case side1=>repeat (first|exact (Kd.C_below HR0_1.out HB.out)|(with_reducible refine Kd.C_alloc ?_ _)|(with_reducible refine Kd.C_drewN ?_ _)|(with_reducible refine Kd.C_drew ?_)));(case side2=>exact HC0_1.out);rintro e w6 ⟨rfl,hb⟩;refine ⟨_,rfl,?_⟩;have n0_:=Aside0.mk (blk_below (g:=gb416) (o:=.cells #[.int .i64 a0_0,.slice A0_1 l0_1.length c0_1] 24 (0,0)) bk hb);have n1_:=Aside0.mk (below_step bw hb);clear BK416;clear HB;have BK416:=n0_;have HB:=n1_;clear n0_ n1_;(try clear hb);(try clear hb2);(try clear hk);(try clear hi)))
  go_ret
  exact ⟨by first|rfl|(simp [errW_none,errW_some] <;> rfl)|(simp [*,errW_none,errW_some] <;> rfl),by repeat (first|(with_reducible first|exact HB.out|apply below_alloc|apply pw_below_drewN|apply below_drew1|refine below_set ?_ GE416.out)|exact HB.out)⟩
 ·rw [if_neg c3] at H;have c3b0:decide (t417 < 0) = false:=decide_eq_false c3;clear c3;replace H:=Option.bind_eq_some_iff.mp H;obtain ⟨⟨t418,t419⟩,A70,H⟩:=H;replace H:((spec_ClassesOf.f k t418 t419).bind fun bt422=>((laws_toGame.f k a0_0 l0_1).bind fun bt426=>((impl_ClassesOf.f k bt426.1 bt426.2).bind fun bt431=>((laws_eqIntSS.f k bt431.1 bt422.1).bind fun t435=>(if t435 = true then (if (bt431.2 != bt422.2) = true then (some false) else ((laws_toGame.f k a0_0 l0_1).bind fun bt436=>((laws_eqGame.f k bt426.1 bt426.2 bt436.1 bt436.2).bind fun t440=>(if t440 = true then ((laws_markGame.f k bt426.1 bt426.2 1).bind fun bt441=>(if bt441.1 < 0 then (some false) else ((laws_eqIntSS.f k bt431.1 bt422.1).bind fun t443=>(if t443 = true then ((laws_markIntSS.f k bt431.1 1).bind fun bt444=>((laws_heldIntSS.f k bt444.2 1).bind fun t446=>(if t446 < 0 then (some false) else (if t446 = bt444.1 then ((laws_toGame.f k a0_0 l0_1).bind fun bt447=>((impl_ClassesOf.f k bt447.1 bt447.2).bind fun bt451=>((laws_eqIntSS.f k bt451.1 bt422.1).bind fun t455=>(if t455 = true then (if (bt451.2 != bt422.2) = true then (some false) else ((laws_heldIntSS.f k bt444.2 1).bind fun t456=>(if t456 < 0 then (some false) else (if t456 = bt444.1 then (some true) else (some false))))) else (some false))))) else (some false))))) else (some false))))) else (some false))))) else (some false)))))) = some r:=H;have A7:=Aside0.mk A70;clear A70;replace H:=Option.bind_eq_some_iff.mp H;obtain ⟨⟨t422,t425⟩,A80,H⟩:=H;replace H:((laws_toGame.f k a0_0 l0_1).bind fun bt426=>((impl_ClassesOf.f k bt426.1 bt426.2).bind fun bt431=>((laws_eqIntSS.f k bt431.1 t422).bind fun t435=>(if t435 = true then (if (bt431.2 != t425) = true then (some false) else ((laws_toGame.f k a0_0 l0_1).bind fun bt436=>((laws_eqGame.f k bt426.1 bt426.2 bt436.1 bt436.2).bind fun t440=>(if t440 = true then ((laws_markGame.f k bt426.1 bt426.2 1).bind fun bt441=>(if bt441.1 < 0 then (some false) else ((laws_eqIntSS.f k bt431.1 t422).bind fun t443=>(if t443 = true then ((laws_markIntSS.f k bt431.1 1).bind fun bt444=>((laws_heldIntSS.f k bt444.2 1).bind fun t446=>(if t446 < 0 then (some false) else (if t446 = bt444.1 then ((laws_toGame.f k a0_0 l0_1).bind fun bt447=>((impl_ClassesOf.f k bt447.1 bt447.2).bind fun bt451=>((laws_eqIntSS.f k bt451.1 t422).bind fun t455=>(if t455 = true then (if (bt451.2 != t425) = true then (some false) else ((laws_heldIntSS.f k bt444.2 1).bind fun t456=>(if t456 < 0 then (some false) else (if t456 = bt444.1 then (some true) else (some false))))) else (some false))))) else (some false))))) else (some false))))) else (some false))))) else (some false))))) = some r:=H;have A8:=Aside0.mk A80;clear A80;replace H:=Option.bind_eq_some_iff.mp H;obtain ⟨⟨t426,t427⟩,A90,H⟩:=H;replace H:((impl_ClassesOf.f k t426 t427).bind fun bt431=>((laws_eqIntSS.f k bt431.1 t422).bind fun t435=>(if t435 = true then (if (bt431.2 != t425) = true then (some false) else ((laws_toGame.f k a0_0 l0_1).bind fun bt436=>((laws_eqGame.f k t426 t427 bt436.1 bt436.2).bind fun t440=>(if t440 = true then ((laws_markGame.f k t426 t427 1).bind fun bt441=>(if bt441.1 < 0 then (some false) else ((laws_eqIntSS.f k bt431.1 t422).bind fun t443=>(if t443 = true then ((laws_markIntSS.f k bt431.1 1).bind fun bt444=>((laws_heldIntSS.f k bt444.2 1).bind fun t446=>(if t446 < 0 then (some false) else (if t446 = bt444.1 then ((laws_toGame.f k a0_0 l0_1).bind fun bt447=>((impl_ClassesOf.f k bt447.1 bt447.2).bind fun bt451=>((laws_eqIntSS.f k bt451.1 t422).bind fun t455=>(if t455 = true then (if (bt451.2 != t425) = true then (some false) else ((laws_heldIntSS.f k bt444.2 1).bind fun t456=>(if t456 < 0 then (some false) else (if t456 = bt444.1 then (some true) else (some false))))) else (some false))))) else (some false))))) else (some false))))) else (some false))))) else (some false)))) = some r:=H
  have A9:=Aside0.mk A90;clear A90;replace H:=Option.bind_eq_some_iff.mp H;obtain ⟨⟨t431,t434⟩,A100,H⟩:=H;replace H:((laws_eqIntSS.f k t431 t422).bind fun t435=>(if t435 = true then (if (t434 != t425) = true then (some false) else ((laws_toGame.f k a0_0 l0_1).bind fun bt436=>((laws_eqGame.f k t426 t427 bt436.1 bt436.2).bind fun t440=>(if t440 = true then ((laws_markGame.f k t426 t427 1).bind fun bt441=>(if bt441.1 < 0 then (some false) else ((laws_eqIntSS.f k t431 t422).bind fun t443=>(if t443 = true then ((laws_markIntSS.f k t431 1).bind fun bt444=>((laws_heldIntSS.f k bt444.2 1).bind fun t446=>(if t446 < 0 then (some false) else (if t446 = bt444.1 then ((laws_toGame.f k a0_0 l0_1).bind fun bt447=>((impl_ClassesOf.f k bt447.1 bt447.2).bind fun bt451=>((laws_eqIntSS.f k bt451.1 t422).bind fun t455=>(if t455 = true then (if (bt451.2 != t425) = true then (some false) else ((laws_heldIntSS.f k bt444.2 1).bind fun t456=>(if t456 < 0 then (some false) else (if t456 = bt444.1 then (some true) else (some false))))) else (some false))))) else (some false))))) else (some false))))) else (some false))))) else (some false))) = some r:=H;have A10:=Aside0.mk A100;clear A100;replace H:=Option.bind_eq_some_iff.mp H;obtain ⟨t435,A110,H⟩:=H;replace H:(if t435 = true then (if (t434 != t425) = true then (some false) else ((laws_toGame.f k a0_0 l0_1).bind fun bt436=>((laws_eqGame.f k t426 t427 bt436.1 bt436.2).bind fun t440=>(if t440 = true then ((laws_markGame.f k t426 t427 1).bind fun bt441=>(if bt441.1 < 0 then (some false) else ((laws_eqIntSS.f k t431 t422).bind fun t443=>(if t443 = true then ((laws_markIntSS.f k t431 1).bind fun bt444=>((laws_heldIntSS.f k bt444.2 1).bind fun t446=>(if t446 < 0 then (some false) else (if t446 = bt444.1 then ((laws_toGame.f k a0_0 l0_1).bind fun bt447=>((impl_ClassesOf.f k bt447.1 bt447.2).bind fun bt451=>((laws_eqIntSS.f k bt451.1 t422).bind fun t455=>(if t455 = true then (if (bt451.2 != t425) = true then (some false) else ((laws_heldIntSS.f k bt444.2 1).bind fun t456=>(if t456 < 0 then (some false) else (if t456 = bt444.1 then (some true) else (some false))))) else (some false))))) else (some false))))) else (some false))))) else (some false))))) else (some false)) = some r:=H;have A11:=Aside0.mk A110;clear A110;by_cases c12:t435 = true
  ·subst c12;have H1:(if (t434 != t425) = true then (some false) else ((laws_toGame.f k a0_0 l0_1).bind fun bt436=>((laws_eqGame.f k t426 t427 bt436.1 bt436.2).bind fun t440=>(if t440 = true then ((laws_markGame.f k t426 t427 1).bind fun bt441=>(if bt441.1 < 0 then (some false) else ((laws_eqIntSS.f k t431 t422).bind fun t443=>(if t443 = true then ((laws_markIntSS.f k t431 1).bind fun bt444=>((laws_heldIntSS.f k bt444.2 1).bind fun t446=>(if t446 < 0 then (some false) else (if t446 = bt444.1 then ((laws_toGame.f k a0_0 l0_1).bind fun bt447=>((impl_ClassesOf.f k bt447.1 bt447.2).bind fun bt451=>((laws_eqIntSS.f k bt451.1 t422).bind fun t455=>(if t455 = true then (if (bt451.2 != t425) = true then (some false) else ((laws_heldIntSS.f k bt444.2 1).bind fun t456=>(if t456 < 0 then (some false) else (if t456 = bt444.1 then (some true) else (some false))))) else (some false))))) else (some false))))) else (some false))))) else (some false))))) = some r:=by rw [if_pos rfl] at H;exact H
   clear H;have H:=H1;clear H1;by_cases c13:(t434 != t425) = true
   ·rw [if_pos c13] at H;have c13b0:(t434 != t425) = true:=c13;(try (have c13b1:decide (t434 = t425) = false:=by simpa using c13))
    (try (have c13b2:(t434 == t425) = false:=by simpa using c13))
    (try (have c13b3:¬ (t434 = t425):=by simpa using c13))
    clear c13;exact absurd (H.trans (congrArg some hr_.out)) (by simp)
   ·rw [if_neg c13] at H;have c13b0:(t434 != t425) = false:=by simpa using c13
    (try (have c13b1:decide (t434 = t425) = true:=by simpa using c13))
    (try (have c13b2:(t434 == t425) = true:=by simpa using c13))
    clear c13;replace H:=Option.bind_eq_some_iff.mp H;obtain ⟨⟨t436,t437⟩,A140,H⟩:=H;replace H:((laws_eqGame.f k t426 t427 t436 t437).bind fun t440=>(if t440 = true then ((laws_markGame.f k t426 t427 1).bind fun bt441=>(if bt441.1 < 0 then (some false) else ((laws_eqIntSS.f k t431 t422).bind fun t443=>(if t443 = true then ((laws_markIntSS.f k t431 1).bind fun bt444=>((laws_heldIntSS.f k bt444.2 1).bind fun t446=>(if t446 < 0 then (some false) else (if t446 = bt444.1 then ((laws_toGame.f k a0_0 l0_1).bind fun bt447=>((impl_ClassesOf.f k bt447.1 bt447.2).bind fun bt451=>((laws_eqIntSS.f k bt451.1 t422).bind fun t455=>(if t455 = true then (if (bt451.2 != t425) = true then (some false) else ((laws_heldIntSS.f k bt444.2 1).bind fun t456=>(if t456 < 0 then (some false) else (if t456 = bt444.1 then (some true) else (some false))))) else (some false))))) else (some false))))) else (some false))))) else (some false))) = some r:=H;have A14:=Aside0.mk A140;clear A140;replace H:=Option.bind_eq_some_iff.mp H;obtain ⟨t440,A150,H⟩:=H;replace H:(if t440 = true then ((laws_markGame.f k t426 t427 1).bind fun bt441=>(if bt441.1 < 0 then (some false) else ((laws_eqIntSS.f k t431 t422).bind fun t443=>(if t443 = true then ((laws_markIntSS.f k t431 1).bind fun bt444=>((laws_heldIntSS.f k bt444.2 1).bind fun t446=>(if t446 < 0 then (some false) else (if t446 = bt444.1 then ((laws_toGame.f k a0_0 l0_1).bind fun bt447=>((impl_ClassesOf.f k bt447.1 bt447.2).bind fun bt451=>((laws_eqIntSS.f k bt451.1 t422).bind fun t455=>(if t455 = true then (if (bt451.2 != t425) = true then (some false) else ((laws_heldIntSS.f k bt444.2 1).bind fun t456=>(if t456 < 0 then (some false) else (if t456 = bt444.1 then (some true) else (some false))))) else (some false))))) else (some false))))) else (some false))))) else (some false)) = some r:=H;have A15:=Aside0.mk A150;clear A150;by_cases c16:t440 = true
    ·subst c16;have H1:((laws_markGame.f k t426 t427 1).bind fun bt441=>(if bt441.1 < 0 then (some false) else ((laws_eqIntSS.f k t431 t422).bind fun t443=>(if t443 = true then ((laws_markIntSS.f k t431 1).bind fun bt444=>((laws_heldIntSS.f k bt444.2 1).bind fun t446=>(if t446 < 0 then (some false) else (if t446 = bt444.1 then ((laws_toGame.f k a0_0 l0_1).bind fun bt447=>((impl_ClassesOf.f k bt447.1 bt447.2).bind fun bt451=>((laws_eqIntSS.f k bt451.1 t422).bind fun t455=>(if t455 = true then (if (bt451.2 != t425) = true then (some false) else ((laws_heldIntSS.f k bt444.2 1).bind fun t456=>(if t456 < 0 then (some false) else (if t456 = bt444.1 then (some true) else (some false))))) else (some false))))) else (some false))))) else (some false))))) = some r:=by rw [if_pos rfl] at H;exact H
     clear H;have H:=H1;clear H1;replace H:=Option.bind_eq_some_iff.mp H;obtain ⟨⟨t441,t442⟩,A170,H⟩:=H;replace H:(if t441 < 0 then (some false) else ((laws_eqIntSS.f k t431 t422).bind fun t443=>(if t443 = true then ((laws_markIntSS.f k t431 1).bind fun bt444=>((laws_heldIntSS.f k bt444.2 1).bind fun t446=>(if t446 < 0 then (some false) else (if t446 = bt444.1 then ((laws_toGame.f k a0_0 l0_1).bind fun bt447=>((impl_ClassesOf.f k bt447.1 bt447.2).bind fun bt451=>((laws_eqIntSS.f k bt451.1 t422).bind fun t455=>(if t455 = true then (if (bt451.2 != t425) = true then (some false) else ((laws_heldIntSS.f k bt444.2 1).bind fun t456=>(if t456 < 0 then (some false) else (if t456 = bt444.1 then (some true) else (some false))))) else (some false))))) else (some false))))) else (some false)))) = some r:=H;have A17:=Aside0.mk A170;clear A170;by_cases c18:t441 < 0
     ·rw [if_pos c18] at H;have c18b0:decide (t441 < 0) = true:=decide_eq_true c18;clear c18;exact absurd (H.trans (congrArg some hr_.out)) (by simp)
     ·rw [if_neg c18] at H;have c18b0:decide (t441 < 0) = false:=decide_eq_false c18;clear c18;replace H:=Option.bind_eq_some_iff.mp H;obtain ⟨t443,A190,H⟩:=H;replace H:(if t443 = true then ((laws_markIntSS.f k t431 1).bind fun bt444=>((laws_heldIntSS.f k bt444.2 1).bind fun t446=>(if t446 < 0 then (some false) else (if t446 = bt444.1 then ((laws_toGame.f k a0_0 l0_1).bind fun bt447=>((impl_ClassesOf.f k bt447.1 bt447.2).bind fun bt451=>((laws_eqIntSS.f k bt451.1 t422).bind fun t455=>(if t455 = true then (if (bt451.2 != t425) = true then (some false) else ((laws_heldIntSS.f k bt444.2 1).bind fun t456=>(if t456 < 0 then (some false) else (if t456 = bt444.1 then (some true) else (some false))))) else (some false))))) else (some false))))) else (some false)) = some r:=H;have A19:=Aside0.mk A190;clear A190;by_cases c20:t443 = true
      ·subst c20;have H1:((laws_markIntSS.f k t431 1).bind fun bt444=>((laws_heldIntSS.f k bt444.2 1).bind fun t446=>(if t446 < 0 then (some false) else (if t446 = bt444.1 then ((laws_toGame.f k a0_0 l0_1).bind fun bt447=>((impl_ClassesOf.f k bt447.1 bt447.2).bind fun bt451=>((laws_eqIntSS.f k bt451.1 t422).bind fun t455=>(if t455 = true then (if (bt451.2 != t425) = true then (some false) else ((laws_heldIntSS.f k bt444.2 1).bind fun t456=>(if t456 < 0 then (some false) else (if t456 = bt444.1 then (some true) else (some false))))) else (some false))))) else (some false))))) = some r:=by rw [if_pos rfl] at H;exact H
       clear H;have H:=H1;clear H1;replace H:=Option.bind_eq_some_iff.mp H;obtain ⟨⟨t444,t445⟩,A210,H⟩:=H;replace H:((laws_heldIntSS.f k t445 1).bind fun t446=>(if t446 < 0 then (some false) else (if t446 = t444 then ((laws_toGame.f k a0_0 l0_1).bind fun bt447=>((impl_ClassesOf.f k bt447.1 bt447.2).bind fun bt451=>((laws_eqIntSS.f k bt451.1 t422).bind fun t455=>(if t455 = true then (if (bt451.2 != t425) = true then (some false) else ((laws_heldIntSS.f k t445 1).bind fun t456=>(if t456 < 0 then (some false) else (if t456 = t444 then (some true) else (some false))))) else (some false))))) else (some false)))) = some r:=H;have A21:=Aside0.mk A210;clear A210;replace H:=Option.bind_eq_some_iff.mp H;obtain ⟨t446,A220,H⟩:=H;replace H:(if t446 < 0 then (some false) else (if t446 = t444 then ((laws_toGame.f k a0_0 l0_1).bind fun bt447=>((impl_ClassesOf.f k bt447.1 bt447.2).bind fun bt451=>((laws_eqIntSS.f k bt451.1 t422).bind fun t455=>(if t455 = true then (if (bt451.2 != t425) = true then (some false) else ((laws_heldIntSS.f k t445 1).bind fun t456=>(if t456 < 0 then (some false) else (if t456 = t444 then (some true) else (some false))))) else (some false))))) else (some false))) = some r:=H;have A22:=Aside0.mk A220;clear A220;by_cases c23:t446 < 0
       ·rw [if_pos c23] at H;have c23b0:decide (t446 < 0) = true:=decide_eq_true c23;clear c23;exact absurd (H.trans (congrArg some hr_.out)) (by simp)
       ·rw [if_neg c23] at H;have c23b0:decide (t446 < 0) = false:=decide_eq_false c23;clear c23;by_cases c24:t446 = t444
        ·rw [if_pos c24] at H;have c24b0:(t446 == t444) = true:=beq_iff_eq.mpr c24;have c24b1:(t446 != t444) = false:=bne_eq_false_iff_eq.mpr c24;clear c24;replace H:=Option.bind_eq_some_iff.mp H;obtain ⟨⟨t447,t448⟩,A250,H⟩:=H;replace H:((impl_ClassesOf.f k t447 t448).bind fun bt451=>((laws_eqIntSS.f k bt451.1 t422).bind fun t455=>(if t455 = true then (if (bt451.2 != t425) = true then (some false) else ((laws_heldIntSS.f k t445 1).bind fun t456=>(if t456 < 0 then (some false) else (if t456 = t444 then (some true) else (some false))))) else (some false)))) = some r:=H;have A25:=Aside0.mk A250;clear A250;replace H:=Option.bind_eq_some_iff.mp H;obtain ⟨⟨t451,t454⟩,A260,H⟩:=H;replace H:((laws_eqIntSS.f k t451 t422).bind fun t455=>(if t455 = true then (if (t454 != t425) = true then (some false) else ((laws_heldIntSS.f k t445 1).bind fun t456=>(if t456 < 0 then (some false) else (if t456 = t444 then (some true) else (some false))))) else (some false))) = some r:=H;have A26:=Aside0.mk A260;clear A260;replace H:=Option.bind_eq_some_iff.mp H;obtain ⟨t455,A270,H⟩:=H;replace H:(if t455 = true then (if (t454 != t425) = true then (some false) else ((laws_heldIntSS.f k t445 1).bind fun t456=>(if t456 < 0 then (some false) else (if t456 = t444 then (some true) else (some false))))) else (some false)) = some r:=H;have A27:=Aside0.mk A270;clear A270;by_cases c28:t455 = true
         ·subst c28;have H1:(if (t454 != t425) = true then (some false) else ((laws_heldIntSS.f k t445 1).bind fun t456=>(if t456 < 0 then (some false) else (if t456 = t444 then (some true) else (some false))))) = some r:=by rw [if_pos rfl] at H;exact H
          clear H;have H:=H1;clear H1;by_cases c29:(t454 != t425) = true
          ·rw [if_pos c29] at H;have c29b0:(t454 != t425) = true:=c29;(try (have c29b1:decide (t454 = t425) = false:=by simpa using c29))
           (try (have c29b2:(t454 == t425) = false:=by simpa using c29))
           (try (have c29b3:¬ (t454 = t425):=by simpa using c29))
           clear c29;exact absurd (H.trans (congrArg some hr_.out)) (by simp)
          ·rw [if_neg c29] at H;have c29b0:(t454 != t425) = false:=by simpa using c29
           (try (have c29b1:decide (t454 = t425) = true:=by simpa using c29))
           (try (have c29b2:(t454 == t425) = true:=by simpa using c29))
           clear c29;replace H:=Option.bind_eq_some_iff.mp H;obtain ⟨t456,A300,H⟩:=H;replace H:(if t456 < 0 then (some false) else (if t456 = t444 then (some true) else (some false))) = some r:=H;have A30:=Aside0.mk A300;clear A300;by_cases c31:t456 < 0
           ·rw [if_pos c31] at H;have c31b0:decide (t456 < 0) = true:=decide_eq_true c31;clear c31;exact absurd (H.trans (congrArg some hr_.out)) (by simp)
           ·rw [if_neg c31] at H;have c31b0:decide (t456 < 0) = false:=decide_eq_false c31;clear c31;by_cases c32:t456 = t444
            ·rw [if_pos c32] at H;have c32b0:(t456 == t444) = true:=beq_iff_eq.mpr c32;have c32b1:(t456 != t444) = false:=bne_eq_false_iff_eq.mpr c32;clear c32;obtain rfl:=Option.some.inj H;go_enter Try.func3,Try.ntmps3
             try go_wp2_with (first|((with_reducible refine gate_dst (N:=1) rfl ?_);refine box_event ?hg (N:=1) ?hd (cs:=#[.int .i64 a0_0,.slice A0_1 l0_1.length c0_1]) (t:=24) ?hr ?_;(case hd=>rfl);(case hg=>rfl);(case hr=>first|(go_simp;done)|(go_simp;rfl));intro gb416 hg w33 hbox hb;have n0_:=Aside0.mk (below_step bw hb);have n1_:=Aside0.mk (hbox);have n2_:=Aside0.mk ((by rw [hg];exact (below_size bw):w.heap.size ≤ gb416));have n3_:=Aside0.mk ((by rw [hg];exact (below_size bw):w.heap.size ≤ gb416));clear HB;have HB:=n0_;have BK416:=n1_;have GW416:=n2_;have GE416:=n3_;clear n0_ n1_ n2_ n3_;clear hb hbox hg;have hcz34_0:w33.cell? ⟨gb416,0,none⟩ = some (.int .i64 a0_0):=(blk_cell BK416.out 0).trans rfl;have hcz34_1:w33.cell? ⟨gb416,1,none⟩ = some (.slice A0_1 l0_1.length c0_1):=(blk_cell BK416.out 1).trans rfl;have hfz34_0:=blk_frozen BK416.out 0;have hfz34_1:=blk_frozen BK416.out 1)|((with_reducible refine gate_callee (f:=11) rfl ?_);refine goesL_ (some 16) rfl rfl Try.func11 (by kernel_rfl) rfl #[.agg #[.int .i64 a0_0,.slice A0_1 l0_1.length c0_1],.int .i64 1048576] rfl mq ?_;(with_reducible refine (laws_szGame.calls k a0_0 _ _ l0_1 1048576 t417 _ ?side1 ?side2 A2.out).mono ?_);(case side1=>repeat (first|exact (Kd.C_below HR0_1.out HB.out)|(with_reducible refine Kd.C_alloc ?_ _)|(with_reducible refine Kd.C_drewN ?_ _)|(with_reducible refine Kd.C_drew ?_)));(case side2=>exact HC0_1.out);rintro e w35 ⟨rfl,hb⟩;refine ⟨_,rfl,?_⟩;have n0_:=Aside0.mk (blk_below (g:=gb416) (o:=.cells #[.int .i64 a0_0,.slice A0_1 l0_1.length c0_1] 24 (0,0)) bk hb);have n1_:=Aside0.mk (below_step bw hb);clear BK416;clear HB;have BK416:=n0_;have HB:=n1_;clear n0_ n1_;(try clear hb);(try clear hb2);(try clear hk);(try clear hi);have hcz36_0:w35.cell? ⟨gb416,0,none⟩ = some (.int .i64 a0_0):=(blk_cell BK416.out 0).trans rfl;have hcz36_1:w35.cell? ⟨gb416,1,none⟩ = some (.slice A0_1 l0_1.length c0_1):=(blk_cell BK416.out 1).trans rfl;have hfz36_0:=blk_frozen BK416.out 0;have hfz36_1:=blk_frozen BK416.out 1)|((with_reducible refine gate_callee (f:=13) rfl ?_);refine goesL_ (some 21) rfl rfl Try.func13 (by kernel_rfl) rfl #[.agg #[.int .i64 a0_0,.slice A0_1 l0_1.length c0_1]] rfl mq ?_;(with_reducible refine (laws_toGame.calls k a0_0 _ _ l0_1 t418 t419 _ ?side1 ?side2 A7.out).mono ?_);(case side1=>repeat (first|exact (Kd.C_below HR0_1.out HB.out)|(with_reducible refine Kd.C_alloc ?_ _)|(with_reducible refine Kd.C_drewN ?_ _)|(with_reducible refine Kd.C_drew ?_)));(case side2=>exact HC0_1.out);rintro e w37 ⟨v420,rfl,ho0,hb⟩;refine ⟨_,rfl,?_⟩;obtain ⟨NL38,eNL38,ho0⟩:=S_split ho0;have n0_:=Aside0.mk (Kd.S_lower ho0 (below_size bw));have n1_:=Aside0.mk (blk_below (g:=gb416) (o:=.cells #[.int .i64 a0_0,.slice A0_1 l0_1.length c0_1] 24 (0,0)) bk hb);have n2_:=Aside0.mk (below_step bw hb);clear BK416;clear HB;have HO421:=n0_;have BK416:=n1_;have HB:=n2_;clear n0_ n1_ n2_;(try clear hb);(try clear hb2);(try clear hk);(try clear hi);(try clear ho0);(try clear eNL38);obtain ⟨Ao39,co39,eo39⟩:=Kd.S_slice HO421.out;subst eo39)|((with_reducible refine gate_callee (f:=12) rfl ?_);refine goesL_ (some 22) rfl rfl Try.func12 (by kernel_rfl) rfl #[.agg #[.int .i64 t418,.slice Ao39 t419.length co39]] rfl mq ?_;(with_reducible refine (spec_ClassesOf.calls k t418 _ _ t419 t422 t425 _ ?side1 ?side2 A8.out).mono ?_);(case side1=>repeat (first|exact (Kd.S_reads' HO421.out).2.2|(with_reducible refine Kd.C_alloc ?_ _)|(with_reducible refine Kd.C_drewN ?_ _)|(with_reducible refine Kd.C_drew ?_)));(case side2=>exact (Kd.S_reads' HO421.out).2.1);rintro e w40 ⟨v423,rfl,ho0,hb⟩;refine ⟨_,rfl,?_⟩;obtain ⟨NL41,eNL41,ho0⟩:=S_split ho0;have n0_:=Aside0.mk (Kd.S_told (S_elderN (by (with_reducible repeat (first|apply Kd.S_alloc|apply Kd.S_drewN|apply Kd.S_drew));exact HO421.out) hb eNL41) (fun k_ e_=>Nat.le_trans (Nat.le_of_eq eNL41) (Kd.S_base ho0 k_ e_)));have n1_:=Aside0.mk (Kd.S_lower (Kd.S_new' ho0 (Kd.S_lt (by (with_reducible repeat (first|apply Kd.S_alloc|apply Kd.S_drewN|apply Kd.S_drew));exact HO421.out))) (below_size bw));have n2_:=Aside0.mk (blk_below (g:=gb416) (o:=.cells #[.int .i64 a0_0,.slice A0_1 l0_1.length c0_1] 24 (0,0)) bk hb);have n3_:=Aside0.mk (below_step bw hb);clear HO421;clear BK416;clear HB;have HO421:=n0_;have HO424:=n1_;have BK416:=n2_;have HB:=n3_;clear n0_ n1_ n2_ n3_;(try clear hb);(try clear hb2);(try clear hk);(try clear hi);(try clear ho0);(try clear eNL41);have hcz42_0:w40.cell? ⟨gb416,0,none⟩ = some (.int .i64 a0_0):=(blk_cell BK416.out 0).trans rfl;have hcz42_1:w40.cell? ⟨gb416,1,none⟩ = some (.slice A0_1 l0_1.length c0_1):=(blk_cell BK416.out 1).trans rfl;have hfz42_0:=blk_frozen BK416.out 0;have hfz42_1:=blk_frozen BK416.out 1)|((with_reducible refine gate_callee (f:=13) rfl ?_);refine goesL_ (some 26) rfl rfl Try.func13 (by kernel_rfl) rfl #[.agg #[.int .i64 a0_0,.slice A0_1 l0_1.length c0_1]] rfl mq ?_;(with_reducible refine (laws_toGame.calls k a0_0 _ _ l0_1 t426 t427 _ ?side1 ?side2 A9.out).mono ?_);(case side1=>repeat (first|exact (Kd.C_below HR0_1.out HB.out)|(with_reducible refine Kd.C_alloc ?_ _)|(with_reducible refine Kd.C_drewN ?_ _)|(with_reducible refine Kd.C_drew ?_)));(case side2=>exact HC0_1.out);rintro e w43 ⟨v428,rfl,ho0,hb⟩;refine ⟨_,rfl,?_⟩;obtain ⟨NL44,eNL44,ho0⟩:=S_split ho0;have n0_:=Aside0.mk (Kd.S_told (S_elderN (by (with_reducible repeat (first|apply Kd.S_alloc|apply Kd.S_drewN|apply Kd.S_drew));exact HO421.out) hb eNL44) (fun k_ e_=>Nat.le_trans (Nat.le_of_eq eNL44) (Kd.S_base ho0 k_ e_)));have n1_:=Aside0.mk (Kd.S_told (S_elderN (by (with_reducible repeat (first|apply Kd.S_alloc|apply Kd.S_drewN|apply Kd.S_drew));exact HO424.out) hb eNL44) (fun k_ e_=>Nat.le_trans (Nat.le_of_eq eNL44) (Kd.S_base ho0 k_ e_)));have n2_:=Aside0.mk (Kd.S_lower (Kd.S_new' (Kd.S_new' ho0 (Kd.S_lt (by (with_reducible repeat (first|apply Kd.S_alloc|apply Kd.S_drewN|apply Kd.S_drew));exact HO421.out))) (Kd.S_lt (by (with_reducible repeat (first|apply Kd.S_alloc|apply Kd.S_drewN|apply Kd.S_drew));exact HO424.out))) (below_size bw));have n3_:=Aside0.mk (blk_below (g:=gb416) (o:=.cells #[.int .i64 a0_0,.slice A0_1 l0_1.length c0_1] 24 (0,0)) bk hb);have n4_:=Aside0.mk (below_step bw hb);clear HO421;clear HO424;clear BK416;clear HB;have HO421:=n0_;have HO424:=n1_;have HO429:=n2_;have BK416:=n3_;have HB:=n4_;clear n0_ n1_ n2_ n3_ n4_;(try clear hb);(try clear hb2);(try clear hk);(try clear hi);(try clear ho0);(try clear eNL44))|((with_reducible refine gate_dst (N:=6) rfl ?_);refine box_event ?hg (N:=6) ?hd (cs:=#[.int .i64 0,.slice none 0 0]) (t:=28) ?hr ?_;(case hd=>rfl);(case hg=>rfl);(case hr=>first|(go_simp;done)|(go_simp;rfl));intro gb430 hg w45 hbox hb;have n0_:=Aside0.mk (Kd.S_below (by (with_reducible repeat (first|apply Kd.S_alloc|apply Kd.S_drewN|apply Kd.S_drew));exact HO421.out) hb);have n1_:=Aside0.mk (Kd.S_below (by (with_reducible repeat (first|apply Kd.S_alloc|apply Kd.S_drewN|apply Kd.S_drew));exact HO424.out) hb);have n2_:=Aside0.mk (Kd.S_below (by (with_reducible repeat (first|apply Kd.S_alloc|apply Kd.S_drewN|apply Kd.S_drew));exact HO429.out) hb);have n3_:=Aside0.mk (blk_below (g:=gb416) (o:=.cells #[.int .i64 a0_0,.slice A0_1 l0_1.length c0_1] 24 (0,0)) bk hb);have n4_:=Aside0.mk (below_step bw hb);have n5_:=Aside0.mk (hbox);have n6_:=Aside0.mk ((by rw [hg];exact (below_size bw):w.heap.size ≤ gb430));have n7_:=Aside0.mk ((by rw [hg];exact (below_size bw):w.heap.size ≤ gb430));have n8_:=Aside0.mk ((by rw [hg];exact Nat.ne_of_lt (blk_lt (g:=gb416) (o:=.cells #[.int .i64 a0_0,.slice A0_1 l0_1.length c0_1] 24 (0,0)) bk):gb416 ≠ gb430));have n9_:=Aside0.mk ((by rw [hg];exact Nat.ne_of_gt (blk_lt (g:=gb416) (o:=.cells #[.int .i64 a0_0,.slice A0_1 l0_1.length c0_1] 24 (0,0)) bk):gb430 ≠ gb416));clear HO421;clear HO424;clear HO429;clear BK416;clear HB;have HO421:=n0_;have HO424:=n1_;have HO429:=n2_;have BK416:=n3_;have HB:=n4_;have BK430:=n5_;have GW430:=n6_;have GE430:=n7_;have NB416_430:=n8_;have NB430_416:=n9_;clear n0_ n1_ n2_ n3_ n4_ n5_ n6_ n7_ n8_ n9_;clear hb hbox hg;have hnb46:=NB430_416.out;have hnc46:=NB416_430.out;have hcz47_0:w45.cell? ⟨gb430,0,none⟩ = some (.int .i64 0):=(blk_cell BK430.out 0).trans rfl;have hcz47_1:w45.cell? ⟨gb430,1,none⟩ = some (.slice none 0 0):=(blk_cell BK430.out 1).trans rfl;have hfz47_0:=blk_frozen BK430.out 0;have hfz47_1:=blk_frozen BK430.out 1;obtain ⟨Ao48,co48,eo48⟩:=Kd.S_slice HO429.out;subst eo48)|((with_reducible refine gate_callee (f:=14) rfl ?_);refine goesL_ (some 29) rfl rfl Try.func14 (by kernel_rfl) rfl #[.agg #[.int .i64 t426,.slice Ao48 t427.length co48]] rfl mq ?_;(with_reducible refine (impl_ClassesOf.calls k t426 _ _ t427 t431 t434 _ ?side1 ?side2 A10.out).mono ?_);(case side1=>refine (Kd.S_reads' (e:=40) (base:=w.heap.size) (ok:=fun k_=>((NL44 ≤ k_ ∧ some k_ ≠ (.slice Ao39 t419.length co39:Value).ownBlock) ∧ some k_ ≠ (v423:Value).ownBlock)) (n:=t427.length) (c:=co48) ?_).2.2;exact (by (with_reducible repeat (first|apply Kd.S_alloc|apply Kd.S_drewN|apply Kd.S_drew));exact (Kd.S_mono (Kd.S_far (p:=⟨gb430,1,none⟩) (Kd.S_far (p:=⟨gb430,0,none⟩) (Kd.S_types HO429.out BK430.out (by decide)) (fun _ hk=>hk.2) (.int .i64 t426)) (fun _ hk=>hk.2) (.slice Ao48 t427.length co48)) (fun _ h_=>h_.1))));(case side2=>exact (Kd.S_reads' HO429.out).2.1);rintro e w49 ⟨v432,rfl,ho0,hb⟩;refine ⟨_,rfl,?_⟩;obtain ⟨NL50,eNL50,ho0⟩:=S_split ho0;have n0_:=Aside0.mk (Kd.S_told (S_elderN (by (with_reducible repeat (first|apply Kd.S_alloc|apply Kd.S_drewN|apply Kd.S_drew));exact (Kd.S_mono (Kd.S_far (p:=⟨gb430,1,none⟩) (Kd.S_far (p:=⟨gb430,0,none⟩) (Kd.S_types HO421.out BK430.out (by decide)) (fun _ hk=>hk.2) (.int .i64 t426)) (fun _ hk=>hk.2) (.slice Ao48 t427.length co48)) (fun _ h_=>h_.1))) hb eNL50) (fun k_ e_=>Nat.le_trans (Nat.le_of_eq eNL50) (Kd.S_base ho0 k_ e_)));have n1_:=Aside0.mk (Kd.S_told (S_elderN (by (with_reducible repeat (first|apply Kd.S_alloc|apply Kd.S_drewN|apply Kd.S_drew));exact (Kd.S_mono (Kd.S_far (p:=⟨gb430,1,none⟩) (Kd.S_far (p:=⟨gb430,0,none⟩) (Kd.S_types HO424.out BK430.out (by decide)) (fun _ hk=>hk.2) (.int .i64 t426)) (fun _ hk=>hk.2) (.slice Ao48 t427.length co48)) (fun _ h_=>h_.1))) hb eNL50) (fun k_ e_=>Nat.le_trans (Nat.le_of_eq eNL50) (Kd.S_base ho0 k_ e_)));have n2_:=Aside0.mk (Kd.S_told (S_elderN (by (with_reducible repeat (first|apply Kd.S_alloc|apply Kd.S_drewN|apply Kd.S_drew));exact (Kd.S_mono (Kd.S_far (p:=⟨gb430,1,none⟩) (Kd.S_far (p:=⟨gb430,0,none⟩) (Kd.S_types HO429.out BK430.out (by decide)) (fun _ hk=>hk.2) (.int .i64 t426)) (fun _ hk=>hk.2) (.slice Ao48 t427.length co48)) (fun _ h_=>h_.1))) hb eNL50) (fun k_ e_=>Nat.le_trans (Nat.le_of_eq eNL50) (Kd.S_base ho0 k_ e_)));have n3_:=Aside0.mk (Kd.S_lower (Kd.S_new' (Kd.S_new' (Kd.S_new' ho0 (Kd.S_lt (by (with_reducible repeat (first|apply Kd.S_alloc|apply Kd.S_drewN|apply Kd.S_drew));exact (Kd.S_mono (Kd.S_far (p:=⟨gb430,1,none⟩) (Kd.S_far (p:=⟨gb430,0,none⟩) (Kd.S_types HO421.out BK430.out (by decide)) (fun _ hk=>hk.2) (.int .i64 t426)) (fun _ hk=>hk.2) (.slice Ao48 t427.length co48)) (fun _ h_=>h_.1))))) (Kd.S_lt (by (with_reducible repeat (first|apply Kd.S_alloc|apply Kd.S_drewN|apply Kd.S_drew));exact (Kd.S_mono (Kd.S_far (p:=⟨gb430,1,none⟩) (Kd.S_far (p:=⟨gb430,0,none⟩) (Kd.S_types HO424.out BK430.out (by decide)) (fun _ hk=>hk.2) (.int .i64 t426)) (fun _ hk=>hk.2) (.slice Ao48 t427.length co48)) (fun _ h_=>h_.1))))) (Kd.S_lt (by (with_reducible repeat (first|apply Kd.S_alloc|apply Kd.S_drewN|apply Kd.S_drew));exact (Kd.S_mono (Kd.S_far (p:=⟨gb430,1,none⟩) (Kd.S_far (p:=⟨gb430,0,none⟩) (Kd.S_types HO429.out BK430.out (by decide)) (fun _ hk=>hk.2) (.int .i64 t426)) (fun _ hk=>hk.2) (.slice Ao48 t427.length co48)) (fun _ h_=>h_.1))))) (below_size bw));have n4_:=Aside0.mk (blk_below (g:=gb416) (o:=.cells #[.int .i64 a0_0,.slice A0_1 l0_1.length c0_1] 24 (0,0)) (by (with_reducible repeat (first|refine blk_drewN ?_ _|refine blk_drew ?_|refine blk_alloc ?_ _));refine blk_far ?_ NB416_430.out _;(with_reducible repeat (first|refine blk_drewN ?_ _|refine blk_drew ?_|refine blk_alloc ?_ _));refine blk_far ?_ NB416_430.out _;(with_reducible repeat (first|refine blk_drewN ?_ _|refine blk_drew ?_|refine blk_alloc ?_ _));exact BK416.out) hb);have n5_:=Aside0.mk (blk_below (g:=gb430) (o:=.cells #[.int .i64 t426,.slice Ao48 t427.length co48] 28 (0,0)) (by (with_reducible repeat (first|refine blk_drewN ?_ _|refine blk_drew ?_|refine blk_alloc ?_ _));refine blk_put (cs:=#[.int .i64 t426,.slice none 0 0]) ?_ 1 _ rfl;(with_reducible repeat (first|refine blk_drewN ?_ _|refine blk_drew ?_|refine blk_alloc ?_ _));refine blk_put (cs:=#[.int .i64 0,.slice none 0 0]) ?_ 0 _ rfl;(with_reducible repeat (first|refine blk_drewN ?_ _|refine blk_drew ?_|refine blk_alloc ?_ _));exact BK430.out) hb);have n6_:=Aside0.mk (below_step bw hb);clear HO421;clear HO424;clear HO429;clear BK416;clear BK430;clear HB;have HO421:=n0_;have HO424:=n1_;have HO429:=n2_;have HO433:=n3_;have BK416:=n4_;have BK430:=n5_;have HB:=n6_;clear n0_ n1_ n2_ n3_ n4_ n5_ n6_;(try clear hb);(try clear hb2);(try clear hk);(try clear hi);(try clear ho0);(try clear eNL50);obtain ⟨Ao51,co51,eo51⟩:=Kd.S_slice HO433.out;subst eo51;obtain ⟨Ao52,co52,eo52⟩:=Kd.S_slice HO424.out;subst eo52)|((with_reducible refine gate_callee (f:=15) rfl ?_);refine goesL_ (some 34) rfl rfl Try.func15 (by kernel_rfl) rfl #[.slice Ao51 t431.length co51,.slice Ao52 t422.length co52] rfl mq ?_;(with_reducible refine (laws_eqIntSS.calls k _ _ t431 _ _ t422 true _ ?side1 ?side2 ?side3 ?side4 A11.out).mono ?_);(case side1=>repeat (first|exact (Kd.S_reads' HO433.out).2.2|(with_reducible refine Kd.C_alloc ?_ _)|(with_reducible refine Kd.C_drewN ?_ _)|(with_reducible refine Kd.C_drew ?_)));(case side2=>exact (Kd.S_reads' HO433.out).2.1);(case side3=>repeat (first|exact (Kd.S_reads' HO424.out).2.2|(with_reducible refine Kd.C_alloc ?_ _)|(with_reducible refine Kd.C_drewN ?_ _)|(with_reducible refine Kd.C_drew ?_)));(case side4=>exact (Kd.S_reads' HO424.out).2.1);rintro e w' ⟨rfl,⟨nd,rfl⟩⟩;refine ⟨_,rfl,?_⟩))
             have n_:=Aside0.mk (Kd.S_mono (ok':=(fun k_=>some k_ ≠ (.slice Ao52 t422.length co52:Value).ownBlock ∧ some k_ ≠ (.slice Ao48 t427.length co48:Value).ownBlock ∧ some k_ ≠ (.slice Ao51 t431.length co51:Value).ownBlock ∧ k_ < NL50 ∧ k_ < NL44 ∧ k_ < NL41 ∧ NL38 ≤ k_)) HO421.out (fun k_ hk=>⟨hk.1.1.1.1.1.2,⟨hk.1.1.1.2,⟨hk.1.2,⟨hk.2,⟨hk.1.1.2,⟨hk.1.1.1.1.2,hk.1.1.1.1.1.1⟩⟩⟩⟩⟩⟩));clear HO421;have HO421:=n_;clear n_;have n_:=Aside0.mk (Kd.S_mono (ok':=(fun k_=>some k_ ≠ (.slice Ao39 t419.length co39:Value).ownBlock ∧ some k_ ≠ (.slice Ao48 t427.length co48:Value).ownBlock ∧ some k_ ≠ (.slice Ao51 t431.length co51:Value).ownBlock ∧ k_ < NL50 ∧ k_ < NL44 ∧ NL41 ≤ k_)) HO424.out (fun k_ hk=>⟨hk.1.1.1.1.2,⟨hk.1.1.1.2,⟨hk.1.2,⟨hk.2,⟨hk.1.1.2,hk.1.1.1.1.1⟩⟩⟩⟩⟩));clear HO424;have HO424:=n_;clear n_;have n_:=Aside0.mk (Kd.S_mono (ok':=(fun k_=>some k_ ≠ (.slice Ao39 t419.length co39:Value).ownBlock ∧ some k_ ≠ (.slice Ao52 t422.length co52:Value).ownBlock ∧ some k_ ≠ (.slice Ao51 t431.length co51:Value).ownBlock ∧ k_ < NL50 ∧ NL44 ≤ k_)) HO429.out (fun k_ hk=>⟨hk.1.1.1.2,⟨hk.1.1.2,⟨hk.1.2,⟨hk.2,hk.1.1.1.1⟩⟩⟩⟩));clear HO429;have HO429:=n_;clear n_;have n_:=Aside0.mk (Kd.S_mono (ok':=(fun k_=>some k_ ≠ (.slice Ao39 t419.length co39:Value).ownBlock ∧ some k_ ≠ (.slice Ao52 t422.length co52:Value).ownBlock ∧ some k_ ≠ (.slice Ao48 t427.length co48:Value).ownBlock ∧ NL50 ≤ k_)) HO433.out (fun k_ hk=>⟨hk.1.1.2,⟨hk.1.2,⟨hk.2,hk.1.1.1⟩⟩⟩));clear HO433;have HO433:=n_;clear n_;(try (rw [drewN_self w49];generalize hq_:World.drewN w49 _ = w49;have n0_:Aside0 (Kd.S (Kd.slice 3 (Kd.int .i64)) 40 w49 w.heap.size (fun k_=>some k_ ≠ (.slice Ao52 t422.length co52:Value).ownBlock ∧ some k_ ≠ (.slice Ao48 t427.length co48:Value).ownBlock ∧ some k_ ≠ (.slice Ao51 t431.length co51:Value).ownBlock ∧ k_ < NL50 ∧ k_ < NL44 ∧ k_ < NL41 ∧ NL38 ≤ k_) (.slice Ao39 t419.length co39) t419):=⟨by rw [← hq_];exact (by (with_reducible repeat (first|apply Kd.S_alloc|apply Kd.S_drewN|apply Kd.S_drew));exact HO421.out)⟩;have n1_:Aside0 (Kd.S (Kd.slice 3 (Kd.int .i64)) 40 w49 w.heap.size (fun k_=>some k_ ≠ (.slice Ao39 t419.length co39:Value).ownBlock ∧ some k_ ≠ (.slice Ao48 t427.length co48:Value).ownBlock ∧ some k_ ≠ (.slice Ao51 t431.length co51:Value).ownBlock ∧ k_ < NL50 ∧ k_ < NL44 ∧ NL41 ≤ k_) (.slice Ao52 t422.length co52) t422):=⟨by rw [← hq_];exact (by (with_reducible repeat (first|apply Kd.S_alloc|apply Kd.S_drewN|apply Kd.S_drew));exact HO424.out)⟩;have n2_:Aside0 (Kd.S (Kd.slice 3 (Kd.int .i64)) 40 w49 w.heap.size (fun k_=>some k_ ≠ (.slice Ao39 t419.length co39:Value).ownBlock ∧ some k_ ≠ (.slice Ao52 t422.length co52:Value).ownBlock ∧ some k_ ≠ (.slice Ao51 t431.length co51:Value).ownBlock ∧ k_ < NL50 ∧ NL44 ≤ k_) (.slice Ao48 t427.length co48) t427):=⟨by rw [← hq_];exact (by (with_reducible repeat (first|apply Kd.S_alloc|apply Kd.S_drewN|apply Kd.S_drew));exact HO429.out)⟩;have n3_:Aside0 (Kd.S (Kd.slice 3 (Kd.int .i64)) 40 w49 w.heap.size (fun k_=>some k_ ≠ (.slice Ao39 t419.length co39:Value).ownBlock ∧ some k_ ≠ (.slice Ao52 t422.length co52:Value).ownBlock ∧ some k_ ≠ (.slice Ao48 t427.length co48:Value).ownBlock ∧ NL50 ≤ k_) (.slice Ao51 t431.length co51) t431):=⟨by rw [← hq_];exact (by (with_reducible repeat (first|apply Kd.S_alloc|apply Kd.S_drewN|apply Kd.S_drew));exact HO433.out)⟩;have n4_:Aside0 (w49.heap[gb416]? = some (.cells #[.int .i64 a0_0,.slice A0_1 l0_1.length c0_1] 24 (0,0))):=⟨by rw [← hq_];exact bk⟩;have n5_:Aside0 (w49.heap[gb430]? = some (.cells #[.int .i64 t426,.slice Ao48 t427.length co48] 28 (0,0))):=⟨by rw [← hq_];exact bk⟩;have n6_:Aside0 (Below w.heap.size w w49):=⟨by rw [← hq_];exact bw⟩;clear HO421 HO424 HO429 HO433 BK416 BK430 HB hq_;have HO421:=n0_;have HO424:=n1_;have HO429:=n2_;have HO433:=n3_;have BK416:=n4_;have BK430:=n5_;have HB:=n6_;clear n0_ n1_ n2_ n3_ n4_ n5_ n6_))
             have n0_:=Aside0.mk (Kd.S_drew HO421.out);have n1_:=Aside0.mk (Kd.S_drew HO424.out);have n2_:=Aside0.mk (Kd.S_drew HO429.out);have n3_:=Aside0.mk (Kd.S_drew HO433.out);have n4_:=Aside0.mk (blk_drew BK416.out);have n5_:=Aside0.mk (blk_drew BK430.out);have n6_:=Aside0.mk (below_drew1 HB.out);clear HO421;clear HO424;clear HO429;clear HO433;clear BK416;clear BK430;clear HB;have HO421:=n0_;have HO424:=n1_;have HO429:=n2_;have HO433:=n3_;have BK416:=n4_;have BK430:=n5_;have HB:=n6_;clear n0_ n1_ n2_ n3_ n4_ n5_ n6_;refine start_ (n:=5) (S:=fun w'=>w'.cell? ⟨gb430,0,none⟩ = some (.int .i64 t426) ∧ w'.cell? ⟨gb430,1,none⟩ = some (.slice Ao48 t427.length co48) ∧ w'.cell? ⟨gb416,0,none⟩ = some (.int .i64 a0_0) ∧ w'.cell? ⟨gb416,1,none⟩ = some (.slice A0_1 l0_1.length c0_1)) (ds:=[]) #[false,false,false,false,false] (by kernel_rfl) rfl rfl ⟨(blk_cell BK430.out 0).trans rfl,(blk_cell BK430.out 1).trans rfl,(blk_cell BK416.out 0).trans rfl,(blk_cell BK416.out 1).trans rfl⟩ (fun hHeld=>?_);generalize w49.drew = w53 at HO421 HO424 HO429 HO433 BK416 BK430 HB hHeld ⊢
             refine take_ (i:=0) (N:=some 41) (v:=?_) (a':=?_) #[true,false,false,false,false] rfl rfl (by kernel_rfl) (fun _ _ _ h=>h) (Or.inl ⟨by rfl,?_⟩) hHeld ?_ ?_;rotate_left
             ·rintro w' ⟨s0,s1,s2,s3⟩
              go_simp
              with_reducible rfl
             rotate_left
             ·simp only [Act.put,sA,sZ,sS,i64_w,i32_w];rfl
             refine take_ (i:=1) (N:=some 42) (v:=?_) (a':=?_) #[true,true,false,false,false] rfl rfl (by kernel_rfl) (fun _ _ _ h=>h) (Or.inl ⟨by rfl,?_⟩) hHeld ?_ ?_;rotate_left
             ·rintro w' ⟨s0,s1,s2,s3⟩
              go_simp
              with_reducible rfl
             rotate_left
             ·simp only [Act.put,sA,sZ,sS,i64_w,i32_w];rfl
             refine one_ (i:=2) (N:=some 43) #[true,true,true,false,false] rfl rfl (by kernel_rfl) (by decide) (fun K hK=>?_);refine goes_ Try.func13 (by kernel_rfl) rfl #[.agg #[.int .i64 a0_0,.slice A0_1 l0_1.length c0_1]] (by rfl) rfl rfl mq ?_
             with_reducible refine (laws_toGame.calls k a0_0 _ _ l0_1 t436 t437 _ ?side1 ?side2 A14.out).mono ?_
             (case side1=>repeat (first|exact (Kd.C_below HR0_1.out HB.out)|(with_reducible refine Kd.C_alloc ?_ _)|(with_reducible refine Kd.C_drewN ?_ _)|(with_reducible refine Kd.C_drew ?_)))
             (case side2=>exact HC0_1.out)
             rintro e w54 ⟨v438,rfl,ho0,hb⟩
             refine ⟨_,rfl,?_⟩;obtain ⟨NL55,eNL55,ho0⟩:=S_split ho0;have n0_:=Aside0.mk (Kd.S_told (S_elderN (by (with_reducible repeat (first|apply Kd.S_alloc|apply Kd.S_drewN|apply Kd.S_drew));exact HO421.out) hb eNL55) (fun k_ e_=>Nat.le_trans (Nat.le_of_eq eNL55) (Kd.S_base ho0 k_ e_)));have n1_:=Aside0.mk (Kd.S_told (S_elderN (by (with_reducible repeat (first|apply Kd.S_alloc|apply Kd.S_drewN|apply Kd.S_drew));exact HO424.out) hb eNL55) (fun k_ e_=>Nat.le_trans (Nat.le_of_eq eNL55) (Kd.S_base ho0 k_ e_)));have n2_:=Aside0.mk (Kd.S_told (S_elderN (by (with_reducible repeat (first|apply Kd.S_alloc|apply Kd.S_drewN|apply Kd.S_drew));exact HO429.out) hb eNL55) (fun k_ e_=>Nat.le_trans (Nat.le_of_eq eNL55) (Kd.S_base ho0 k_ e_)));have n3_:=Aside0.mk (Kd.S_told (S_elderN (by (with_reducible repeat (first|apply Kd.S_alloc|apply Kd.S_drewN|apply Kd.S_drew));exact HO433.out) hb eNL55) (fun k_ e_=>Nat.le_trans (Nat.le_of_eq eNL55) (Kd.S_base ho0 k_ e_)));have n4_:=Aside0.mk (Kd.S_lower (Kd.S_new' (Kd.S_new' (Kd.S_new' (Kd.S_new' ho0 (Kd.S_lt (by (with_reducible repeat (first|apply Kd.S_alloc|apply Kd.S_drewN|apply Kd.S_drew));exact HO421.out))) (Kd.S_lt (by (with_reducible repeat (first|apply Kd.S_alloc|apply Kd.S_drewN|apply Kd.S_drew));exact HO424.out))) (Kd.S_lt (by (with_reducible repeat (first|apply Kd.S_alloc|apply Kd.S_drewN|apply Kd.S_drew));exact HO429.out))) (Kd.S_lt (by (with_reducible repeat (first|apply Kd.S_alloc|apply Kd.S_drewN|apply Kd.S_drew));exact HO433.out))) (below_size bw));have n5_:=Aside0.mk (blk_below (g:=gb416) (o:=.cells #[.int .i64 a0_0,.slice A0_1 l0_1.length c0_1] 24 (0,0)) bk hb);have n6_:=Aside0.mk (blk_below (g:=gb430) (o:=.cells #[.int .i64 t426,.slice Ao48 t427.length co48] 28 (0,0)) bk hb);have n7_:=Aside0.mk (below_step bw hb);clear HO421;clear HO424;clear HO429;clear HO433;clear BK416;clear BK430;clear HB;have HO421:=n0_;have HO424:=n1_;have HO429:=n2_;have HO433:=n3_;have HO439:=n4_;have BK416:=n5_;have BK430:=n6_;have HB:=n7_;clear n0_ n1_ n2_ n3_ n4_ n5_ n6_ n7_;(try clear hb)
             (try clear hb2)
             (try clear hk)
             (try clear hi)
             (try clear ho0)
             (try clear eNL55)
             obtain ⟨Ao56,co56,eo56⟩:=Kd.S_slice HO439.out;(first|subst eo56|(injection eo56 with f1_ f2_ f3_;have f4_:=f1_.symm;have f5_:=f3_.symm;clear f1_ f2_ f3_;subst f4_;subst f5_))
             refine hK.out _ _ ⟨(blk_cell BK430.out 0).trans rfl,(blk_cell BK430.out 1).trans rfl,(blk_cell BK416.out 0).trans rfl,(blk_cell BK416.out 1).trans rfl⟩ (fun hHeld=>?_);clear hK K;refine norm_ (a':=?_) ?_ ?_;rotate_left
             ·show Act.put _ (some 43) _ = _;simp only [Act.put,sA,sZ,sS,i64_w,i32_w];rfl
             refine one_ (i:=3) (N:=some 44) #[true,true,true,true,false] rfl rfl (by kernel_rfl) (by decide) (fun K hK=>?_);refine goes_ Try.func16 (by kernel_rfl) rfl #[.agg #[.int .i64 t426,.slice Ao48 t427.length co48],.agg #[.int .i64 t436,.slice Ao56 t437.length co56]] (by rfl) rfl rfl mq ?_
             with_reducible refine (laws_eqGame.calls k t426 _ _ t427 t436 _ _ t437 true _ ?side1 ?side2 ?side3 ?side4 A15.out).mono ?_
             (case side1=>repeat (first|exact (Kd.S_reads' HO429.out).2.2|(with_reducible refine Kd.C_alloc ?_ _)|(with_reducible refine Kd.C_drewN ?_ _)|(with_reducible refine Kd.C_drew ?_)))
             (case side2=>exact (Kd.S_reads' HO429.out).2.1)
             (case side3=>repeat (first|exact (Kd.S_reads' HO439.out).2.2|(with_reducible refine Kd.C_alloc ?_ _)|(with_reducible refine Kd.C_drewN ?_ _)|(with_reducible refine Kd.C_drew ?_)))
             (case side4=>exact (Kd.S_reads' HO439.out).2.1)
             rintro e w57 ⟨rfl,hb⟩
             refine ⟨_,rfl,?_⟩;have n0_:=Aside0.mk (Kd.S_below (by (with_reducible repeat (first|apply Kd.S_alloc|apply Kd.S_drewN|apply Kd.S_drew));exact HO421.out) hb);have n1_:=Aside0.mk (Kd.S_below (by (with_reducible repeat (first|apply Kd.S_alloc|apply Kd.S_drewN|apply Kd.S_drew));exact HO424.out) hb);have n2_:=Aside0.mk (Kd.S_below (by (with_reducible repeat (first|apply Kd.S_alloc|apply Kd.S_drewN|apply Kd.S_drew));exact HO429.out) hb);have n3_:=Aside0.mk (Kd.S_below (by (with_reducible repeat (first|apply Kd.S_alloc|apply Kd.S_drewN|apply Kd.S_drew));exact HO433.out) hb);have n4_:=Aside0.mk (Kd.S_below (by (with_reducible repeat (first|apply Kd.S_alloc|apply Kd.S_drewN|apply Kd.S_drew));exact HO439.out) hb);have n5_:=Aside0.mk (blk_below (g:=gb416) (o:=.cells #[.int .i64 a0_0,.slice A0_1 l0_1.length c0_1] 24 (0,0)) bk hb);have n6_:=Aside0.mk (blk_below (g:=gb430) (o:=.cells #[.int .i64 t426,.slice Ao48 t427.length co48] 28 (0,0)) bk hb);have n7_:=Aside0.mk (below_step bw hb);clear HO421;clear HO424;clear HO429;clear HO433;clear HO439;clear BK416;clear BK430;clear HB;have HO421:=n0_;have HO424:=n1_;have HO429:=n2_;have HO433:=n3_;have HO439:=n4_;have BK416:=n5_;have BK430:=n6_;have HB:=n7_;clear n0_ n1_ n2_ n3_ n4_ n5_ n6_ n7_;(try clear hb)
             (try clear hb2)
             (try clear hk)
             (try clear hi)
             refine hK.out _ _ ⟨(blk_cell BK430.out 0).trans rfl,(blk_cell BK430.out 1).trans rfl,(blk_cell BK416.out 0).trans rfl,(blk_cell BK416.out 1).trans rfl⟩ (fun hHeld=>?_);clear hK K;refine norm_ (a':=?_) ?_ ?_;rotate_left
             ·show Act.put _ (some 44) _ = _;simp only [Act.put,sA,sZ,sS,i64_w,i32_w];rfl
             refine pure_ (i:=4) (N:=some 45) (v:=?_) (a':=?_) #[true,true,true,true,true] rfl rfl (by kernel_rfl) (fun _ _ _ h=>h) (Or.inl ⟨by rfl,?_⟩) ?_ ?_;rotate_left
             ·intro w';go_simp
              with_reducible rfl
             rotate_left
             ·simp only [Act.put,sA,sZ,sS,i64_w,i32_w];rfl
             refine done_ (by kernel_rfl) ?_;have hcz58_0:w57.cell? ⟨gb430,0,none⟩ = some (.int .i64 t426):=(blk_cell BK430.out 0).trans rfl;have hcz58_1:w57.cell? ⟨gb430,1,none⟩ = some (.slice Ao48 t427.length co48):=(blk_cell BK430.out 1).trans rfl;have hfz58_0:=blk_frozen BK430.out 0;have hfz58_1:=blk_frozen BK430.out 1
             try go_wp2_with (first|((with_reducible refine gate_callee (f:=17) rfl ?_);refine goesL_ (some 48) rfl rfl Try.func17 (by kernel_rfl) rfl #[.agg #[.int .i64 t426,.slice Ao48 t427.length co48],.int .i64 1] rfl mq ?_;(with_reducible refine (laws_markGame.calls k t426 (fun k_=>(((((some k_ ≠ (.slice Ao39 t419.length co39:Value).ownBlock ∧ (some k_ ≠ (.slice Ao52 t422.length co52:Value).ownBlock ∧ (some k_ ≠ (.slice Ao51 t431.length co51:Value).ownBlock ∧ (k_ < NL50 ∧ NL44 ≤ k_)))) ∧ some k_ ≠ (.slice Ao56 t437.length co56:Value).ownBlock) ∧ k_ < NL55) ∧ k_ ≠ gb416) ∧ k_ ≠ gb430)) (.slice Ao48 t427.length co48) t427 1 t441 t442 w _ ?side1 ?side2 A17.out).mono ?_);(case side1=>repeat (first|(with_reducible first|exact HB.out|apply below_alloc|apply pw_below_drewN|apply below_drew1|refine below_set ?_ GE416.out|refine below_set ?_ GE430.out)|exact HB.out));(case side2=>exact (Kd.S_types (Kd.S_types HO429.out BK416.out (by decide)) BK430.out (by decide)));rintro e w59 ⟨rfl,hy0,hb,hkp⟩;refine ⟨_,rfl,?_⟩;have n0_:=Aside0.mk (blk_kept bk hkp (fun hs_=>(fun hp_=>(hp_.1.2) rfl) hs_));have n1_:=Aside0.mk (Kd.S_mono (ok':=fun k_=>some k_ ≠ (.slice Ao52 t422.length co52:Value).ownBlock ∧ some k_ ≠ (.slice Ao48 t427.length co48:Value).ownBlock ∧ some k_ ≠ (.slice Ao51 t431.length co51:Value).ownBlock ∧ some k_ ≠ (.slice Ao56 t437.length co56:Value).ownBlock ∧ k_ < NL50 ∧ k_ < NL44 ∧ k_ < NL41 ∧ NL38 ≤ k_ ∧ k_ < NL55) (Kd.S_keptB ((Kd.S_mono HO421.out (fun k_ hk=>(⟨hk,fun hp_=>Nat.not_le.2 (hk.1.1.2.2.2.2.1) (hp_.1.1.1.1.2.2.2.2)⟩:_ ∧ ¬ ((((((some k_ ≠ (.slice Ao39 t419.length co39:Value).ownBlock ∧ (some k_ ≠ (.slice Ao52 t422.length co52:Value).ownBlock ∧ (some k_ ≠ (.slice Ao51 t431.length co51:Value).ownBlock ∧ (k_ < NL50 ∧ NL44 ≤ k_)))) ∧ some k_ ≠ (.slice Ao56 t437.length co56:Value).ownBlock) ∧ k_ < NL55) ∧ k_ ≠ gb416) ∧ k_ ≠ gb430)))))) hkp (fun k_ hk_ hs_=>(hk_.2) hs_)) (fun k_ hk_=>⟨hk_.1.1.1.1.1,hk_.1.1.1.1.2.1,hk_.1.1.1.1.2.2.1,hk_.1.1.1.2,hk_.1.1.1.1.2.2.2.1,hk_.1.1.1.1.2.2.2.2.1,hk_.1.1.1.1.2.2.2.2.2.1,hk_.1.1.1.1.2.2.2.2.2.2,hk_.1.1.2⟩));have n2_:=Aside0.mk (Kd.S_mono (ok':=fun k_=>some k_ ≠ (.slice Ao39 t419.length co39:Value).ownBlock ∧ some k_ ≠ (.slice Ao48 t427.length co48:Value).ownBlock ∧ some k_ ≠ (.slice Ao51 t431.length co51:Value).ownBlock ∧ some k_ ≠ (.slice Ao56 t437.length co56:Value).ownBlock ∧ k_ < NL50 ∧ k_ < NL44 ∧ NL41 ≤ k_ ∧ k_ < NL55) (Kd.S_keptB ((Kd.S_mono HO424.out (fun k_ hk=>(⟨hk,fun hp_=>Nat.not_le.2 (hk.1.1.2.2.2.2.1) (hp_.1.1.1.1.2.2.2.2)⟩:_ ∧ ¬ ((((((some k_ ≠ (.slice Ao39 t419.length co39:Value).ownBlock ∧ (some k_ ≠ (.slice Ao52 t422.length co52:Value).ownBlock ∧ (some k_ ≠ (.slice Ao51 t431.length co51:Value).ownBlock ∧ (k_ < NL50 ∧ NL44 ≤ k_)))) ∧ some k_ ≠ (.slice Ao56 t437.length co56:Value).ownBlock) ∧ k_ < NL55) ∧ k_ ≠ gb416) ∧ k_ ≠ gb430)))))) hkp (fun k_ hk_ hs_=>(hk_.2) hs_)) (fun k_ hk_=>⟨hk_.1.1.1.1.1,hk_.1.1.1.1.2.1,hk_.1.1.1.1.2.2.1,hk_.1.1.1.2,hk_.1.1.1.1.2.2.2.1,hk_.1.1.1.1.2.2.2.2.1,hk_.1.1.1.1.2.2.2.2.2,hk_.1.1.2⟩));have n3_:=Aside0.mk (Kd.S_mono (ok':=fun k_=>some k_ ≠ (.slice Ao39 t419.length co39:Value).ownBlock ∧ some k_ ≠ (.slice Ao52 t422.length co52:Value).ownBlock ∧ some k_ ≠ (.slice Ao51 t431.length co51:Value).ownBlock ∧ some k_ ≠ (.slice Ao56 t437.length co56:Value).ownBlock ∧ k_ ≠ gb416 ∧ k_ ≠ gb430 ∧ k_ < NL50 ∧ NL44 ≤ k_ ∧ k_ < NL55) hy0 (fun k_ hk_=>⟨hk_.1.1.1.1.1,hk_.1.1.1.1.2.1,hk_.1.1.1.1.2.2.1,hk_.1.1.1.2,hk_.1.2,hk_.2,hk_.1.1.1.1.2.2.2.1,hk_.1.1.1.1.2.2.2.2,hk_.1.1.2⟩));have n4_:=Aside0.mk (blk_kept bk hkp (fun hs_=>(fun hp_=>(hp_.2) rfl) hs_));have n5_:=Aside0.mk (Kd.S_mono (ok':=fun k_=>some k_ ≠ (.slice Ao39 t419.length co39:Value).ownBlock ∧ some k_ ≠ (.slice Ao52 t422.length co52:Value).ownBlock ∧ some k_ ≠ (.slice Ao48 t427.length co48:Value).ownBlock ∧ some k_ ≠ (.slice Ao56 t437.length co56:Value).ownBlock ∧ NL50 ≤ k_ ∧ k_ < NL55) (Kd.S_keptB ((Kd.S_mono HO433.out (fun k_ hk=>(⟨hk,fun hp_=>Nat.not_le.2 (hp_.1.1.1.1.2.2.2.1) (hk.1.1.2.2.2)⟩:_ ∧ ¬ ((((((some k_ ≠ (.slice Ao39 t419.length co39:Value).ownBlock ∧ (some k_ ≠ (.slice Ao52 t422.length co52:Value).ownBlock ∧ (some k_ ≠ (.slice Ao51 t431.length co51:Value).ownBlock ∧ (k_ < NL50 ∧ NL44 ≤ k_)))) ∧ some k_ ≠ (.slice Ao56 t437.length co56:Value).ownBlock) ∧ k_ < NL55) ∧ k_ ≠ gb416) ∧ k_ ≠ gb430)))))) hkp (fun k_ hk_ hs_=>(hk_.2) hs_)) (fun k_ hk_=>⟨hk_.1.1.1.1.1,hk_.1.1.1.1.2.1,hk_.1.1.1.1.2.2.1,hk_.1.1.1.2,hk_.1.1.1.1.2.2.2,hk_.1.1.2⟩));have n6_:=Aside0.mk (Kd.S_mono (ok':=fun k_=>some k_ ≠ (.slice Ao39 t419.length co39:Value).ownBlock ∧ some k_ ≠ (.slice Ao52 t422.length co52:Value).ownBlock ∧ some k_ ≠ (.slice Ao48 t427.length co48:Value).ownBlock ∧ some k_ ≠ (.slice Ao51 t431.length co51:Value).ownBlock ∧ NL55 ≤ k_) (Kd.S_keptB ((Kd.S_mono HO439.out (fun k_ hk=>(⟨hk,fun hp_=>Nat.not_le.2 (hp_.1.1.2) (hk.1.1.1.1)⟩:_ ∧ ¬ ((((((some k_ ≠ (.slice Ao39 t419.length co39:Value).ownBlock ∧ (some k_ ≠ (.slice Ao52 t422.length co52:Value).ownBlock ∧ (some k_ ≠ (.slice Ao51 t431.length co51:Value).ownBlock ∧ (k_ < NL50 ∧ NL44 ≤ k_)))) ∧ some k_ ≠ (.slice Ao56 t437.length co56:Value).ownBlock) ∧ k_ < NL55) ∧ k_ ≠ gb416) ∧ k_ ≠ gb430)))))) hkp (fun k_ hk_ hs_=>(hk_.2) hs_)) (fun k_ hk_=>⟨hk_.1.1.1.1.1.2,hk_.1.1.1.1.2,hk_.1.1.1.2,hk_.1.1.2,hk_.1.1.1.1.1.1⟩));have n7_:=Aside0.mk (hb);clear BK416;clear HO421;clear HO424;clear HO429;clear BK430;clear HO433;clear HO439;clear HB;have BK416:=n0_;have HO421:=n1_;have HO424:=n2_;have HO429:=n3_;have BK430:=n4_;have HO433:=n5_;have HO439:=n6_;have HB:=n7_;clear n0_ n1_ n2_ n3_ n4_ n5_ n6_ n7_;(try clear hb);(try clear hkp);(try clear hy0))|(go_at_call 15;(with_reducible refine (laws_eqIntSS.calls k _ _ t431 _ _ t422 true _ ?side1 ?side2 ?side3 ?side4 A19.out).mono ?_);(case side1=>repeat (first|exact (Kd.S_reads' HO433.out).2.2|(with_reducible refine Kd.C_alloc ?_ _)|(with_reducible refine Kd.C_drewN ?_ _)|(with_reducible refine Kd.C_drew ?_)));(case side2=>exact (Kd.S_reads' HO433.out).2.1);(case side3=>repeat (first|exact (Kd.S_reads' HO424.out).2.2|(with_reducible refine Kd.C_alloc ?_ _)|(with_reducible refine Kd.C_drewN ?_ _)|(with_reducible refine Kd.C_drew ?_)));(case side4=>exact (Kd.S_reads' HO424.out).2.1);rintro e w' ⟨rfl,⟨nd,rfl⟩⟩)|((with_reducible refine gate_callee (f:=18) rfl ?_);refine goesL_ (some 64) rfl rfl Try.func18 (by kernel_rfl) rfl #[.slice Ao51 t431.length co51,.int .i64 1] rfl mq ?_;(with_reducible refine (laws_markIntSS.calls k (fun k_=>(((some k_ ≠ (.slice Ao39 t419.length co39:Value).ownBlock ∧ (some k_ ≠ (.slice Ao52 t422.length co52:Value).ownBlock ∧ (some k_ ≠ (.slice Ao48 t427.length co48:Value).ownBlock ∧ (some k_ ≠ (.slice Ao56 t437.length co56:Value).ownBlock ∧ (NL50 ≤ k_ ∧ k_ < NL55))))) ∧ k_ ≠ gb416) ∧ k_ ≠ gb430)) (.slice Ao51 t431.length co51) t431 1 t444 t445 w _ ?side1 ?side2 A21.out).mono ?_);(case side1=>repeat (first|(with_reducible first|exact HB.out|apply below_alloc|apply pw_below_drewN|apply below_drew1|refine below_set ?_ GE416.out|refine below_set ?_ GE430.out)|exact HB.out));(case side2=>exact (Kd.S_types (Kd.S_types HO433.out BK416.out (by decide)) BK430.out (by decide)));rintro e w60 ⟨rfl,hy0,hb,hkp⟩;refine ⟨_,rfl,?_⟩;have n0_:=Aside0.mk (blk_kept bk hkp (fun hs_=>(fun hp_=>(hp_.1.2) rfl) hs_));have n1_:=Aside0.mk (Kd.S_mono (ok':=fun k_=>some k_ ≠ (.slice Ao52 t422.length co52:Value).ownBlock ∧ some k_ ≠ (.slice Ao48 t427.length co48:Value).ownBlock ∧ some k_ ≠ (.slice Ao51 t431.length co51:Value).ownBlock ∧ some k_ ≠ (.slice Ao56 t437.length co56:Value).ownBlock ∧ k_ < NL50 ∧ k_ < NL44 ∧ k_ < NL41 ∧ NL38 ≤ k_ ∧ k_ < NL55) (Kd.S_keptB ((Kd.S_mono HO421.out (fun k_ hk=>(⟨hk,fun hp_=>Nat.not_le.2 (hk.2.2.2.2.1) (hp_.1.1.2.2.2.2.1)⟩:_ ∧ ¬ ((((some k_ ≠ (.slice Ao39 t419.length co39:Value).ownBlock ∧ (some k_ ≠ (.slice Ao52 t422.length co52:Value).ownBlock ∧ (some k_ ≠ (.slice Ao48 t427.length co48:Value).ownBlock ∧ (some k_ ≠ (.slice Ao56 t437.length co56:Value).ownBlock ∧ (NL50 ≤ k_ ∧ k_ < NL55))))) ∧ k_ ≠ gb416) ∧ k_ ≠ gb430)))))) hkp (fun k_ hk_ hs_=>(hk_.2) hs_)) (fun k_ hk_=>⟨hk_.1.1.1,hk_.1.1.2.1,hk_.1.1.2.2.1,hk_.1.1.2.2.2.1,hk_.1.1.2.2.2.2.1,hk_.1.1.2.2.2.2.2.1,hk_.1.1.2.2.2.2.2.2.1,hk_.1.1.2.2.2.2.2.2.2.1,hk_.1.1.2.2.2.2.2.2.2.2⟩));have n2_:=Aside0.mk (Kd.S_mono (ok':=fun k_=>some k_ ≠ (.slice Ao39 t419.length co39:Value).ownBlock ∧ some k_ ≠ (.slice Ao48 t427.length co48:Value).ownBlock ∧ some k_ ≠ (.slice Ao51 t431.length co51:Value).ownBlock ∧ some k_ ≠ (.slice Ao56 t437.length co56:Value).ownBlock ∧ k_ < NL50 ∧ k_ < NL44 ∧ NL41 ≤ k_ ∧ k_ < NL55) (Kd.S_keptB ((Kd.S_mono HO424.out (fun k_ hk=>(⟨hk,fun hp_=>Nat.not_le.2 (hk.2.2.2.2.1) (hp_.1.1.2.2.2.2.1)⟩:_ ∧ ¬ ((((some k_ ≠ (.slice Ao39 t419.length co39:Value).ownBlock ∧ (some k_ ≠ (.slice Ao52 t422.length co52:Value).ownBlock ∧ (some k_ ≠ (.slice Ao48 t427.length co48:Value).ownBlock ∧ (some k_ ≠ (.slice Ao56 t437.length co56:Value).ownBlock ∧ (NL50 ≤ k_ ∧ k_ < NL55))))) ∧ k_ ≠ gb416) ∧ k_ ≠ gb430)))))) hkp (fun k_ hk_ hs_=>(hk_.2) hs_)) (fun k_ hk_=>⟨hk_.1.1.1,hk_.1.1.2.1,hk_.1.1.2.2.1,hk_.1.1.2.2.2.1,hk_.1.1.2.2.2.2.1,hk_.1.1.2.2.2.2.2.1,hk_.1.1.2.2.2.2.2.2.1,hk_.1.1.2.2.2.2.2.2.2⟩));have n3_:=Aside0.mk (Kd.S_mono (ok':=fun k_=>some k_ ≠ (.slice Ao39 t419.length co39:Value).ownBlock ∧ some k_ ≠ (.slice Ao52 t422.length co52:Value).ownBlock ∧ some k_ ≠ (.slice Ao51 t431.length co51:Value).ownBlock ∧ some k_ ≠ (.slice Ao56 t437.length co56:Value).ownBlock ∧ k_ ≠ gb416 ∧ k_ ≠ gb430 ∧ k_ < NL50 ∧ NL44 ≤ k_ ∧ k_ < NL55) (Kd.S_keptB ((Kd.S_mono HO429.out (fun k_ hk=>(⟨hk,fun hp_=>Nat.not_le.2 (hk.2.2.2.2.2.2.1) (hp_.1.1.2.2.2.2.1)⟩:_ ∧ ¬ ((((some k_ ≠ (.slice Ao39 t419.length co39:Value).ownBlock ∧ (some k_ ≠ (.slice Ao52 t422.length co52:Value).ownBlock ∧ (some k_ ≠ (.slice Ao48 t427.length co48:Value).ownBlock ∧ (some k_ ≠ (.slice Ao56 t437.length co56:Value).ownBlock ∧ (NL50 ≤ k_ ∧ k_ < NL55))))) ∧ k_ ≠ gb416) ∧ k_ ≠ gb430)))))) hkp (fun k_ hk_ hs_=>(hk_.2) hs_)) (fun k_ hk_=>⟨hk_.1.1.1,hk_.1.1.2.1,hk_.1.1.2.2.1,hk_.1.1.2.2.2.1,hk_.1.1.2.2.2.2.1,hk_.1.1.2.2.2.2.2.1,hk_.1.1.2.2.2.2.2.2.1,hk_.1.1.2.2.2.2.2.2.2.1,hk_.1.1.2.2.2.2.2.2.2.2⟩));have n4_:=Aside0.mk (blk_kept bk hkp (fun hs_=>(fun hp_=>(hp_.2) rfl) hs_));have n5_:=Aside0.mk (Kd.S_mono (ok':=fun k_=>some k_ ≠ (.slice Ao39 t419.length co39:Value).ownBlock ∧ some k_ ≠ (.slice Ao52 t422.length co52:Value).ownBlock ∧ some k_ ≠ (.slice Ao48 t427.length co48:Value).ownBlock ∧ some k_ ≠ (.slice Ao56 t437.length co56:Value).ownBlock ∧ k_ ≠ gb416 ∧ k_ ≠ gb430 ∧ NL50 ≤ k_ ∧ k_ < NL55) hy0 (fun k_ hk_=>⟨hk_.1.1.1,hk_.1.1.2.1,hk_.1.1.2.2.1,hk_.1.1.2.2.2.1,hk_.1.2,hk_.2,hk_.1.1.2.2.2.2.1,hk_.1.1.2.2.2.2.2⟩));have n6_:=Aside0.mk (Kd.S_mono (ok':=fun k_=>some k_ ≠ (.slice Ao39 t419.length co39:Value).ownBlock ∧ some k_ ≠ (.slice Ao52 t422.length co52:Value).ownBlock ∧ some k_ ≠ (.slice Ao48 t427.length co48:Value).ownBlock ∧ some k_ ≠ (.slice Ao51 t431.length co51:Value).ownBlock ∧ NL55 ≤ k_) (Kd.S_keptB ((Kd.S_mono HO439.out (fun k_ hk=>(⟨hk,fun hp_=>Nat.not_le.2 (hp_.1.1.2.2.2.2.2) (hk.2.2.2.2)⟩:_ ∧ ¬ ((((some k_ ≠ (.slice Ao39 t419.length co39:Value).ownBlock ∧ (some k_ ≠ (.slice Ao52 t422.length co52:Value).ownBlock ∧ (some k_ ≠ (.slice Ao48 t427.length co48:Value).ownBlock ∧ (some k_ ≠ (.slice Ao56 t437.length co56:Value).ownBlock ∧ (NL50 ≤ k_ ∧ k_ < NL55))))) ∧ k_ ≠ gb416) ∧ k_ ≠ gb430)))))) hkp (fun k_ hk_ hs_=>(hk_.2) hs_)) (fun k_ hk_=>⟨hk_.1.1.1,hk_.1.1.2.1,hk_.1.1.2.2.1,hk_.1.1.2.2.2.1,hk_.1.1.2.2.2.2⟩));have n7_:=Aside0.mk (hb);clear BK416;clear HO421;clear HO424;clear HO429;clear BK430;clear HO433;clear HO439;clear HB;have BK416:=n0_;have HO421:=n1_;have HO424:=n2_;have HO429:=n3_;have BK430:=n4_;have HO433:=n5_;have HO439:=n6_;have HB:=n7_;clear n0_ n1_ n2_ n3_ n4_ n5_ n6_ n7_;(try clear hb);(try clear hkp);(try clear hy0))|((with_reducible refine gate_callee (f:=19) rfl ?_);refine goesL_ (some 67) rfl rfl Try.func19 (by kernel_rfl) rfl #[.slice Ao51 t445.length co51,.int .i64 1] rfl (by (try simp only [List.map_toArray,List.map_cons,List.map_nil]);first|done|(rw [show t445.length = t431.length from (Kd.S_reads' HO433.out).1.symm] <;> rfl)|rfl|(simp only [List.length_drop,List.length_take];rfl)) ?_;(with_reducible refine (laws_heldIntSS.calls k _ _ t445 1 t446 _ ?side1 ?side2 A22.out).mono ?_);(case side1=>repeat (first|exact (Kd.S_reads' HO433.out).2.2|(with_reducible refine Kd.C_alloc ?_ _)|(with_reducible refine Kd.C_drewN ?_ _)|(with_reducible refine Kd.C_drew ?_)));(case side2=>rw [show t445.length = t431.length from (Kd.S_reads' HO433.out).1.symm];exact (Kd.S_reads' HO433.out).2.1);rintro e w' ⟨rfl,⟨nd,rfl⟩⟩;refine ⟨_,rfl,?_⟩;have hcz61_0:w60.cell? ⟨gb416,0,none⟩ = some (.int .i64 a0_0):=(blk_cell BK416.out 0).trans rfl;have hcz61_1:w60.cell? ⟨gb416,1,none⟩ = some (.slice A0_1 l0_1.length c0_1):=(blk_cell BK416.out 1).trans rfl;have hfz61_0:=blk_frozen BK416.out 0;have hfz61_1:=blk_frozen BK416.out 1)|((with_reducible refine gate_callee (f:=13) rfl ?_);refine goesL_ (some 75) rfl rfl Try.func13 (by kernel_rfl) rfl #[.agg #[.int .i64 a0_0,.slice A0_1 l0_1.length c0_1]] rfl mq ?_;(with_reducible refine (laws_toGame.calls k a0_0 _ _ l0_1 t447 t448 _ ?side1 ?side2 A25.out).mono ?_);(case side1=>repeat (first|exact (Kd.C_below HR0_1.out bw)|(with_reducible refine Kd.C_alloc ?_ _)|(with_reducible refine Kd.C_drewN ?_ _)|(with_reducible refine Kd.C_drew ?_)));(case side2=>exact HC0_1.out);rintro e w62 ⟨v449,rfl,ho0,hb⟩;refine ⟨_,rfl,?_⟩;obtain ⟨NL63,eNL63,ho0⟩:=S_split ho0;have n0_:=Aside0.mk (Kd.S_told (S_elderN (by (with_reducible repeat (first|apply Kd.S_alloc|apply Kd.S_drewN|apply Kd.S_drew));exact HO421.out) hb eNL63) (fun k_ e_=>Nat.le_trans (Nat.le_of_eq eNL63) (Kd.S_base ho0 k_ e_)));have n1_:=Aside0.mk (Kd.S_told (S_elderN (by (with_reducible repeat (first|apply Kd.S_alloc|apply Kd.S_drewN|apply Kd.S_drew));exact HO424.out) hb eNL63) (fun k_ e_=>Nat.le_trans (Nat.le_of_eq eNL63) (Kd.S_base ho0 k_ e_)));have n2_:=Aside0.mk (Kd.S_told (S_elderN (by (with_reducible repeat (first|apply Kd.S_alloc|apply Kd.S_drewN|apply Kd.S_drew));exact HO429.out) hb eNL63) (fun k_ e_=>Nat.le_trans (Nat.le_of_eq eNL63) (Kd.S_base ho0 k_ e_)));have n3_:=Aside0.mk (Kd.S_told (S_elderN (by (with_reducible repeat (first|apply Kd.S_alloc|apply Kd.S_drewN|apply Kd.S_drew));exact HO433.out) hb eNL63) (fun k_ e_=>Nat.le_trans (Nat.le_of_eq eNL63) (Kd.S_base ho0 k_ e_)));have n4_:=Aside0.mk (Kd.S_told (S_elderN (by (with_reducible repeat (first|apply Kd.S_alloc|apply Kd.S_drewN|apply Kd.S_drew));exact HO439.out) hb eNL63) (fun k_ e_=>Nat.le_trans (Nat.le_of_eq eNL63) (Kd.S_base ho0 k_ e_)));have n5_:=Aside0.mk (Kd.S_lower (Kd.S_new' (Kd.S_new' (Kd.S_new' (Kd.S_new' (Kd.S_new' ho0 (Kd.S_lt (by (with_reducible repeat (first|apply Kd.S_alloc|apply Kd.S_drewN|apply Kd.S_drew));exact HO421.out))) (Kd.S_lt (by (with_reducible repeat (first|apply Kd.S_alloc|apply Kd.S_drewN|apply Kd.S_drew));exact HO424.out))) (Kd.S_lt (by (with_reducible repeat (first|apply Kd.S_alloc|apply Kd.S_drewN|apply Kd.S_drew));exact HO429.out))) (Kd.S_lt (by (with_reducible repeat (first|apply Kd.S_alloc|apply Kd.S_drewN|apply Kd.S_drew));exact HO433.out))) (Kd.S_lt (by (with_reducible repeat (first|apply Kd.S_alloc|apply Kd.S_drewN|apply Kd.S_drew));exact HO439.out))) (below_size bw));have n6_:=Aside0.mk (blk_below (g:=gb416) (o:=.cells #[.int .i64 a0_0,.slice A0_1 l0_1.length c0_1] 24 (0,0)) bk hb);have n7_:=Aside0.mk (blk_below (g:=gb430) (o:=.cells #[.int .i64 t426,.slice Ao48 t427.length co48] 28 (0,0)) bk hb);have n8_:=Aside0.mk (below_step bw hb);clear HO421;clear HO424;clear HO429;clear HO433;clear HO439;clear BK416;clear BK430;clear HB;have HO421:=n0_;have HO424:=n1_;have HO429:=n2_;have HO433:=n3_;have HO439:=n4_;have HO450:=n5_;have BK416:=n6_;have BK430:=n7_;have HB:=n8_;clear n0_ n1_ n2_ n3_ n4_ n5_ n6_ n7_ n8_;(try clear hb);(try clear hb2);(try clear hk);(try clear hi);(try clear ho0);(try clear eNL63);obtain ⟨Ao64,co64,eo64⟩:=Kd.S_slice HO450.out;subst eo64)|((with_reducible refine gate_callee (f:=14) rfl ?_);refine goesL_ (some 76) rfl rfl Try.func14 (by kernel_rfl) rfl #[.agg #[.int .i64 t447,.slice Ao64 t448.length co64]] rfl mq ?_;(with_reducible refine (impl_ClassesOf.calls k t447 _ _ t448 t451 t454 _ ?side1 ?side2 A26.out).mono ?_);(case side1=>repeat (first|exact (Kd.S_reads' HO450.out).2.2|(with_reducible refine Kd.C_alloc ?_ _)|(with_reducible refine Kd.C_drewN ?_ _)|(with_reducible refine Kd.C_drew ?_)));(case side2=>exact (Kd.S_reads' HO450.out).2.1);rintro e w65 ⟨v452,rfl,ho0,hb⟩;refine ⟨_,rfl,?_⟩;obtain ⟨NL66,eNL66,ho0⟩:=S_split ho0;have n0_:=Aside0.mk (Kd.S_told (S_elderN (by (with_reducible repeat (first|apply Kd.S_alloc|apply Kd.S_drewN|apply Kd.S_drew));exact HO421.out) hb eNL66) (fun k_ e_=>Nat.le_trans (Nat.le_of_eq eNL66) (Kd.S_base ho0 k_ e_)));have n1_:=Aside0.mk (Kd.S_told (S_elderN (by (with_reducible repeat (first|apply Kd.S_alloc|apply Kd.S_drewN|apply Kd.S_drew));exact HO424.out) hb eNL66) (fun k_ e_=>Nat.le_trans (Nat.le_of_eq eNL66) (Kd.S_base ho0 k_ e_)));have n2_:=Aside0.mk (Kd.S_told (S_elderN (by (with_reducible repeat (first|apply Kd.S_alloc|apply Kd.S_drewN|apply Kd.S_drew));exact HO429.out) hb eNL66) (fun k_ e_=>Nat.le_trans (Nat.le_of_eq eNL66) (Kd.S_base ho0 k_ e_)));have n3_:=Aside0.mk (Kd.S_told (S_elderN (by (with_reducible repeat (first|apply Kd.S_alloc|apply Kd.S_drewN|apply Kd.S_drew));exact HO433.out) hb eNL66) (fun k_ e_=>Nat.le_trans (Nat.le_of_eq eNL66) (Kd.S_base ho0 k_ e_)));have n4_:=Aside0.mk (Kd.S_told (S_elderN (by (with_reducible repeat (first|apply Kd.S_alloc|apply Kd.S_drewN|apply Kd.S_drew));exact HO439.out) hb eNL66) (fun k_ e_=>Nat.le_trans (Nat.le_of_eq eNL66) (Kd.S_base ho0 k_ e_)));have n5_:=Aside0.mk (Kd.S_told (S_elderN (by (with_reducible repeat (first|apply Kd.S_alloc|apply Kd.S_drewN|apply Kd.S_drew));exact HO450.out) hb eNL66) (fun k_ e_=>Nat.le_trans (Nat.le_of_eq eNL66) (Kd.S_base ho0 k_ e_)));have n6_:=Aside0.mk (Kd.S_lower (Kd.S_new' (Kd.S_new' (Kd.S_new' (Kd.S_new' (Kd.S_new' (Kd.S_new' ho0 (Kd.S_lt (by (with_reducible repeat (first|apply Kd.S_alloc|apply Kd.S_drewN|apply Kd.S_drew));exact HO421.out))) (Kd.S_lt (by (with_reducible repeat (first|apply Kd.S_alloc|apply Kd.S_drewN|apply Kd.S_drew));exact HO424.out))) (Kd.S_lt (by (with_reducible repeat (first|apply Kd.S_alloc|apply Kd.S_drewN|apply Kd.S_drew));exact HO429.out))) (Kd.S_lt (by (with_reducible repeat (first|apply Kd.S_alloc|apply Kd.S_drewN|apply Kd.S_drew));exact HO433.out))) (Kd.S_lt (by (with_reducible repeat (first|apply Kd.S_alloc|apply Kd.S_drewN|apply Kd.S_drew));exact HO439.out))) (Kd.S_lt (by (with_reducible repeat (first|apply Kd.S_alloc|apply Kd.S_drewN|apply Kd.S_drew));exact HO450.out))) (below_size bw));have n7_:=Aside0.mk (blk_below (g:=gb416) (o:=.cells #[.int .i64 a0_0,.slice A0_1 l0_1.length c0_1] 24 (0,0)) bk hb);have n8_:=Aside0.mk (blk_below (g:=gb430) (o:=.cells #[.int .i64 t426,.slice Ao48 t427.length co48] 28 (0,0)) bk hb);have n9_:=Aside0.mk (below_step bw hb);clear HO421;clear HO424;clear HO429;clear HO433;clear HO439;clear HO450;clear BK416;clear BK430;clear HB;have HO421:=n0_;have HO424:=n1_;have HO429:=n2_;have HO433:=n3_;have HO439:=n4_;have HO450:=n5_;have HO453:=n6_;have BK416:=n7_;have BK430:=n8_;have HB:=n9_;clear n0_ n1_ n2_ n3_ n4_ n5_ n6_ n7_ n8_ n9_;(try clear hb);(try clear hb2);(try clear hk);(try clear hi);(try clear ho0);(try clear eNL66);obtain ⟨Ao67,co67,eo67⟩:=Kd.S_slice HO453.out;subst eo67)|((with_reducible refine gate_callee (f:=15) rfl ?_);refine goesL_ (some 81) rfl rfl Try.func15 (by kernel_rfl) rfl #[.slice Ao67 t451.length co67,.slice Ao52 t422.length co52] rfl mq ?_;(with_reducible refine (laws_eqIntSS.calls k _ _ t451 _ _ t422 true _ ?side1 ?side2 ?side3 ?side4 A27.out).mono ?_);(case side1=>repeat (first|exact (Kd.S_reads' HO453.out).2.2|(with_reducible refine Kd.C_alloc ?_ _)|(with_reducible refine Kd.C_drewN ?_ _)|(with_reducible refine Kd.C_drew ?_)));(case side2=>exact (Kd.S_reads' HO453.out).2.1);(case side3=>repeat (first|exact (Kd.S_reads' HO424.out).2.2|(with_reducible refine Kd.C_alloc ?_ _)|(with_reducible refine Kd.C_drewN ?_ _)|(with_reducible refine Kd.C_drew ?_)));(case side4=>exact (Kd.S_reads' HO424.out).2.1);rintro e w' ⟨rfl,⟨nd,rfl⟩⟩;refine ⟨_,rfl,?_⟩)|((with_reducible refine gate_callee (f:=19) rfl ?_);refine goesL_ (some 90) rfl rfl Try.func19 (by kernel_rfl) rfl #[.slice Ao51 t445.length co51,.int .i64 1] rfl (by (try simp only [List.map_toArray,List.map_cons,List.map_nil]);first|done|(rw [show t445.length = t431.length from (Kd.S_reads' HO433.out).1.symm] <;> rfl)|rfl|(simp only [List.length_drop,List.length_take];rfl)) ?_;(with_reducible refine (laws_heldIntSS.calls k _ _ t445 1 t456 _ ?side1 ?side2 A30.out).mono ?_);(case side1=>repeat (first|exact (Kd.S_reads' HO433.out).2.2|(with_reducible refine Kd.C_alloc ?_ _)|(with_reducible refine Kd.C_drewN ?_ _)|(with_reducible refine Kd.C_drew ?_)));(case side2=>rw [show t445.length = t431.length from (Kd.S_reads' HO433.out).1.symm];exact (Kd.S_reads' HO433.out).2.1);rintro e w' ⟨rfl,⟨nd,rfl⟩⟩;refine ⟨_,rfl,?_⟩))
             go_ret
             exact ⟨by first|rfl|(simp [errW_none,errW_some] <;> rfl)|(simp [*,errW_none,errW_some] <;> rfl),by repeat (first|(with_reducible first|exact HB.out|apply below_alloc|apply pw_below_drewN|apply below_drew1|refine below_set ?_ GE416.out|refine below_set ?_ GE430.out)|exact HB.out)⟩
            ·rw [if_neg c32] at H;have c32b0:(t456 == t444) = false:=beq_eq_false_iff_ne.mpr c32;have c32b1:(t456 != t444) = true:=bne_iff_ne.mpr c32;exact absurd (H.trans (congrArg some hr_.out)) (by simp)
         ·replace c28:=Bool.eq_false_iff.mpr c28;subst c28;have H1:(some false) = some r:=by rw [if_neg (show ¬ (false = true) by decide)] at H;exact H
          clear H;have H:=H1;clear H1;exact absurd (H.trans (congrArg some hr_.out)) (by simp)
        ·rw [if_neg c24] at H;have c24b0:(t446 == t444) = false:=beq_eq_false_iff_ne.mpr c24;have c24b1:(t446 != t444) = true:=bne_iff_ne.mpr c24;exact absurd (H.trans (congrArg some hr_.out)) (by simp)
      ·replace c20:=Bool.eq_false_iff.mpr c20;subst c20;have H1:(some false) = some r:=by rw [if_neg (show ¬ (false = true) by decide)] at H;exact H
       clear H;have H:=H1;clear H1;exact absurd (H.trans (congrArg some hr_.out)) (by simp)
    ·replace c16:=Bool.eq_false_iff.mpr c16;subst c16;have H1:(some false) = some r:=by rw [if_neg (show ¬ (false = true) by decide)] at H;exact H
     clear H;have H:=H1;clear H1;exact absurd (H.trans (congrArg some hr_.out)) (by simp)
  ·replace c12:=Bool.eq_false_iff.mpr c12;subst c12;have H1:(some false) = some r:=by rw [if_neg (show ¬ (false = true) by decide)] at H;exact H
   clear H;have H:=H1;clear H1;exact absurd (H.trans (congrArg some hr_.out)) (by simp)


/-! ### impl_sumOf: function 109 -/
def impl_sumOf.l0:Nat → Int → List Int → Int → Int → Option (Int)
 | 0,_,_,_,_=>none
 | k + 1,x3,x6,x7,x8=>if x8 < x7 then (if 0 ≤ x8 then (if x8 < (x6.length:Int) then (impl_sumOf.l0 k (wrap64 (x3 + (rd x6 x8))) x6 x7 (wrap64 (x8 + 1))) else (none)) else (none)) else (some x3)
def impl_sumOf.f (k:Nat) (l0:List Int):Option (Int):=impl_sumOf.l0 k 0 l0 (l0.length:Int) 0
theorem impl_sumOf.mono_l:∀ k,(∀ y0 y1 y2 y3,LeO (impl_sumOf.l0 k y0 y1 y2 y3) (impl_sumOf.l0 (k + 1) y0 y1 y2 y3))
 | 0=>fun _ _ _ _ r h=>by simp [impl_sumOf.l0] at h
 | k + 1=>by
  have ih0:=impl_sumOf.mono_l k
  ·intro y0 y1 y2 y3;unfold impl_sumOf.l0
   repeat' with_reducible first|exact ih0 _ _ _ _|exact LeO.refl _|exact LeO.none _|refine LeO.ite ?_ ?_|refine LeO.bind ?_ (fun _=>?_)
theorem impl_sumOf.mono:∀ a0 k,LeO (impl_sumOf.f k a0) (impl_sumOf.f (k + 1) a0):=by
 intro a0 k;have ih0:=impl_sumOf.mono_l k;unfold impl_sumOf.f
 repeat' with_reducible first|exact ih0 _ _ _ _|exact LeO.refl _|exact LeO.none _|refine LeO.ite ?_ ?_|refine LeO.bind ?_ (fun _=>?_)
set_option maxHeartbeats 8000000 in
set_option maxRecDepth 100000 in
theorem impl_sumOf.calls (k:Nat) (A0:Option Addr) (c0:Nat) (l0:List Int) (r:Int) (w:World) (hr0:Kd.C (Kd.int .i64) w A0 l0.length l0) (hc0:l0.length ≤ c0) (h:impl_sumOf.f k l0 = some r) :
  Calls Try.prog 109 #[.slice A0 l0.length c0] w fun e w'=>e = .returned (.int .i64 r) ∧ Drawn0 w w':=by
 have HR0:=Aside0.mk hr0;have HC0:=Aside0.mk hc0;clear hr0 hc0;have H:(impl_sumOf.l0 k 0 l0 (l0.length:Int) 0) = some r:=h;clear h;have H':=Aside0.mk H;clear H;go_enter Try.func109,Try.ntmps109;go_wp2
 go_loopg [3,8] k (fun kq v3 v8 w'=>∃ (x3_1:Int) (x8_1:Int),v3 = .int .i64 x3_1 ∧ v8 = .int .i64 x8_1 ∧ Aside0 (impl_sumOf.l0 kq x3_1 l0 (l0.length:Int) x8_1 = some r) ∧ Aside0 (kq ≤ k) ∧ Drawn0 w w')
 case atStart=>exact ⟨(0),(0),(by first|rfl|(simp;done)|(simp [*];done)),(by first|rfl|(simp;done)|(simp [*];done)),H',⟨Nat.le_refl _⟩,by repeat (first|exact Drawn0.refl _|apply Drawn0.step)⟩
 case round =>
  clear H'
  try clear c1
  obtain ⟨x3_1,x8_1,rfl,rfl,HA,HK1,⟨m1,rfl⟩⟩:=hrel
  cases gk with
  | zero=>exact absurd HA.out (by simp [impl_sumOf.l0])
  | succ k1 =>
   have H:=HA.out;clear HA;simp only [impl_sumOf.l0] at H;by_cases c2:x8_1 < (l0.length:Int)
   ·rw [if_pos c2] at H;have c2b0:decide (x8_1 < (l0.length:Int)) = true:=decide_eq_true c2;clear c2;by_cases c3:0 ≤ x8_1
    ·rw [if_pos c3] at H;have c3b0:decide (0 ≤ x8_1) = true:=decide_eq_true c3;clear c3;by_cases c4:x8_1 < (l0.length:Int)
     ·rw [if_pos c4] at H;have c4b0:decide (x8_1 < (l0.length:Int)) = true:=decide_eq_true c4;clear c4;have H':=Aside0.mk H;clear H;have p775:0 ≤ (x8_1:Int):=of_decide_eq_true ab;have q775:x8_1 < (l0.length:Int):=of_decide_eq_true ab;obtain ⟨ad775,e775,hx775_0⟩:=Kd.at_int HR0.out x8_1 p775 q775;cases e775
      replace p775:=eq_true p775;replace q775:=eq_true q775;go_wp2
      go_roundg k1
      case measure=>have:=HK1.out;omega
      case rel=>exact ⟨(wrap64 (x3_1 + (rd l0 x8_1))),(wrap64 (x8_1 + 1)),(by first|rfl|(simp;done)|(simp [*];done)),(by first|rfl|(simp;done)|(simp [*];done)),H',⟨by have:=HK1.out;omega⟩,by repeat (first|exact Drawn0.refl _|apply Drawn0.step)⟩
     ·rw [if_neg c4] at H;exact absurd H (by simp)
    ·rw [if_neg c3] at H;exact absurd H (by simp)
   ·rw [if_neg c2] at H;have c2b0:decide (x8_1 < (l0.length:Int)) = false:=decide_eq_false c2;clear c2;obtain rfl:=Option.some.inj H;go_wp2
    go_ret
    exact ⟨by first|rfl|(simp;done)|(simp [*];done),by repeat (first|exact Drawn0.refl _|apply Drawn0.step)⟩


/-! ### impl_IsCommittee: function 68 -/
def impl_IsCommittee.f (k:Nat) (a0_0:Int) (l0_1:List Int):Option (Bool):=if (l0_1.length:Int) ≥ 1 then (if (l0_1.length:Int) ≤ 9 then ((impl_areIn.f k l0_1 0 1000).bind fun t777=>(if t777 = true then ((impl_sumOf.f k l0_1).bind fun t778=>((impl_within.f a0_0 1 t778).bind fun t779=>(some t779))) else (some false))) else (some false)) else (some false)
theorem impl_IsCommittee.mono:∀ a0 a1 k,LeO (impl_IsCommittee.f k a0 a1) (impl_IsCommittee.f (k + 1) a0 a1):=by
 intro a0 a1 k;unfold impl_IsCommittee.f
 repeat' with_reducible first|exact impl_areIn.mono _ _ _ _|exact impl_sumOf.mono _ _|exact LeO.refl _|exact LeO.none _|refine LeO.ite ?_ ?_|refine LeO.bind ?_ (fun _=>?_)
def impl_IsCommittee.T1:Bool × List (List Nat × List Nat):=(true,[([],[]),([0],[0]),([1],[1]),([2],[2]),([3],[3]),([4],[4]),([5,4],[4,5]),([6,4],[4,6]),([7,4],[4,7]),([4,8],[4,8]),([9,4],[9]),([10],[10]),([11,10],[10,11]),([12,10,10],[10,12]),([10,13],[10,13]),([14,13],[14]),([15],[15]),([16,15],[15,16]),([15],[15]),([18,15],[15,18]),([19,15,15],[15,19]),([17,20,20,15],[15,17,20]),([15,21],[15,21]),([22,21,0,1,2,3,4,5,6,7,8,9,10,11,12,13,14,15,16,17,18,19,20,21,22],[22])])
def impl_IsCommittee.B1:List Nat:=[0,1,3,7,15,31,63,127,255,511,1023,2047,4095,8191,16383,32767,65535,131071,65535,327679,851967,2097151,4194303,8388607]
theorem impl_IsCommittee.tab1:rtab .any (opsOf Try.f68 1) = impl_IsCommittee.T1:=by kernel_rfl
theorem impl_IsCommittee.bits1:waitsOk impl_IsCommittee.T1.2 impl_IsCommittee.B1 = true:=by kernel_rfl
set_option maxHeartbeats 8000000 in
set_option maxRecDepth 100000 in
theorem impl_IsCommittee.calls (k:Nat) (a0_0:Int) (A0_1:Option Addr) (c0_1:Nat) (l0_1:List Int) (r:Bool) (w:World) (hr0_1:Kd.C (Kd.int .i64) w A0_1 l0_1.length l0_1) (hc0_1:l0_1.length ≤ c0_1) (h:impl_IsCommittee.f k a0_0 l0_1 = some r) :
  Calls Try.prog 68 #[.agg #[.int .i64 a0_0,.slice A0_1 l0_1.length c0_1]] w fun e w'=>e = .returned (.bool r) ∧ Below w.heap.size w w':=by
 have hu46:=Try.underlying46;have HR0_1:=Aside0.mk hr0_1;have HC0_1:=Aside0.mk hc0_1;clear hr0_1 hc0_1;have HB:=Aside0.mk (Below.refl w.heap.size w);have H:(if (l0_1.length:Int) ≥ 1 then (if (l0_1.length:Int) ≤ 9 then ((impl_areIn.f k l0_1 0 1000).bind fun t777=>(if t777 = true then ((impl_sumOf.f k l0_1).bind fun t778=>((impl_within.f a0_0 1 t778).bind fun t779=>(some t779))) else (some false))) else (some false)) else (some false)) = some r:=h;clear h;by_cases c2:(l0_1.length:Int) ≥ 1
 ·rw [if_pos c2] at H;have c2b0:decide (1 ≤ (l0_1.length:Int)) = true:=decide_eq_true c2;have c2b1:decide (1 ≤ l0_1.length) = true:=decide_eq_true (by omega);clear c2;by_cases c3:(l0_1.length:Int) ≤ 9
  ·rw [if_pos c3] at H;have c3b0:decide ((l0_1.length:Int) ≤ 9) = true:=decide_eq_true c3;have c3b1:decide (l0_1.length ≤ 9) = true:=decide_eq_true (by omega);clear c3;replace H:=Option.bind_eq_some_iff.mp H;obtain ⟨t777,A40,H⟩:=H;replace H:(if t777 = true then ((impl_sumOf.f k l0_1).bind fun t778=>((impl_within.f a0_0 1 t778).bind fun t779=>(some t779))) else (some false)) = some r:=H;have A4:=Aside0.mk A40;clear A40;by_cases c5:t777 = true
   ·subst c5;have H1:((impl_sumOf.f k l0_1).bind fun t778=>((impl_within.f a0_0 1 t778).bind fun t779=>(some t779))) = some r:=by rw [if_pos rfl] at H;exact H
    clear H;have H:=H1;clear H1;replace H:=Option.bind_eq_some_iff.mp H;obtain ⟨t778,A60,H⟩:=H;replace H:((impl_within.f a0_0 1 t778).bind fun t779=>(some t779)) = some r:=H;have A6:=Aside0.mk A60;clear A60;replace H:=Option.bind_eq_some_iff.mp H;obtain ⟨t779,A70,H⟩:=H;replace H:(some t779) = some r:=H;have A7:=Aside0.mk A70;clear A70;obtain rfl:=Option.some.inj H;go_enter Try.func68,Try.ntmps68
    try go_wp2_with (first|((with_reducible refine gate_dst (N:=1) rfl ?_);(try (refine gate_guard (by rfl) ?_;dsimp only));refine box_event ?hg (N:=1) ?hd (cs:=#[.int .i64 a0_0,.slice A0_1 l0_1.length c0_1]) (t:=46) ?hr ?_;(case hd=>rfl);(case hg=>rfl);(case hr=>first|(go_simp;done)|(go_simp;rfl));intro gb776 hg w8 hbox hb;have n0_:=Aside0.mk (below_step bw hb);have n1_:=Aside0.mk (hbox);have n2_:=Aside0.mk ((by rw [hg];exact (below_size bw):w.heap.size ≤ gb776));have n3_:=Aside0.mk ((by rw [hg];exact (below_size bw):w.heap.size ≤ gb776));clear HB;have HB:=n0_;have BK776:=n1_;have GW776:=n2_;have GE776:=n3_;clear n0_ n1_ n2_ n3_;clear hb hbox hg))
    have n0_:=Aside0.mk (blk_drew BK776.out);have n1_:=Aside0.mk (below_drew1 HB.out);clear BK776;clear HB;have BK776:=n0_;have HB:=n1_;clear n0_ n1_;refine start_ (n:=24) (S:=fun w'=>w'.cell? ⟨gb776,0,none⟩ = some (.int .i64 a0_0) ∧ w'.cell? ⟨gb776,1,none⟩ = some (.slice A0_1 l0_1.length c0_1)) (ds:=[]) #[false,false,false,false,false,false,false,false,false,false,false,false,false,false,false,false,false,false,false,false,false,false,false,false] (by kernel_rfl) rfl rfl ⟨(blk_cell BK776.out 0).trans rfl,(blk_cell BK776.out 1).trans rfl⟩ (fun hHeld=>?_);refine with_tabW impl_IsCommittee.tab1 impl_IsCommittee.bits1 (fun HT_ HW_=>?_)
    generalize w8.drew = w9 at BK776 HB hHeld ⊢
    refine pure_ (i:=0) (N:=some 3) (v:=?_) (a':=?_) #[true,false,false,false,false,false,false,false,false,false,false,false,false,false,false,false,false,false,false,false,false,false,false,false] rfl rfl (any_of HT_.out (by kernel_rfl)) (fun _ _ _ h=>h) (Or.inl ⟨by rfl,?_⟩) ?_ ?_;rotate_left
    ·intro w';go_simp
     with_reducible rfl
    rotate_left
    ·simp only [Act.put,sA,sZ,sS,i64_w,i32_w];rfl
    refine take_ (i:=1) (N:=some 4) (v:=?_) (a':=?_) #[true,true,false,false,false,false,false,false,false,false,false,false,false,false,false,false,false,false,false,false,false,false,false,false] rfl rfl (take_ofW HT_.out HW_.out (by kernel_rfl)) (fun _ _ _ h=>h) (Or.inl ⟨by rfl,?_⟩) hHeld ?_ ?_;rotate_left
    ·rintro w' ⟨s0,s1⟩
     go_simp
     with_reducible rfl
    rotate_left
    ·simp only [Act.put,sA,sZ,sS,i64_w,i32_w];rfl
    refine pure_ (i:=2) (N:=some 5) (v:=?_) (a':=?_) #[true,true,true,false,false,false,false,false,false,false,false,false,false,false,false,false,false,false,false,false,false,false,false,false] rfl rfl (any_of HT_.out (by kernel_rfl)) (fun _ _ _ h=>h) (Or.inl ⟨by rfl,?_⟩) ?_ ?_;rotate_left
    ·intro w';go_simp
     with_reducible rfl
    rotate_left
    ·simp only [Act.put,sA,sZ,sS,i64_w,i32_w];rfl
    refine pure_ (i:=3) (N:=some 6) (v:=?_) (a':=?_) #[true,true,true,true,false,false,false,false,false,false,false,false,false,false,false,false,false,false,false,false,false,false,false,false] rfl rfl (any_of HT_.out (by kernel_rfl)) (fun _ _ _ h=>h) (Or.inl ⟨by rfl,?_⟩) ?_ ?_;rotate_left
    ·intro w';go_simp
     with_reducible rfl
    rotate_left
    ·simp only [Act.put,sA,sZ,sS,i64_w,i32_w];rfl
    refine pure_ (i:=4) (N:=some 7) (v:=?_) (a':=?_) #[true,true,true,true,true,false,false,false,false,false,false,false,false,false,false,false,false,false,false,false,false,false,false,false] rfl rfl (any_of HT_.out (by kernel_rfl)) (fun _ _ _ h=>h) (Or.inl ⟨by rfl,?_⟩) ?_ ?_;rotate_left
    ·intro w';go_simp
     with_reducible rfl
    rotate_left
    ·simp only [Act.put,sA,sZ,sS,i64_w,i32_w];rfl
    refine pure_ (i:=5) (N:=some 8) (v:=?_) (a':=?_) #[true,true,true,true,true,true,false,false,false,false,false,false,false,false,false,false,false,false,false,false,false,false,false,false] rfl rfl (any_of HT_.out (by kernel_rfl)) (fun _ _ _ h=>h) (Or.inl ⟨by rfl,?_⟩) ?_ ?_;rotate_left
    ·intro w';go_simp
     with_reducible rfl
    rotate_left
    ·simp only [Act.put,sA,sZ,sS,i64_w,i32_w];rfl
    refine take_ (i:=6) (N:=some 9) (v:=?_) (a':=?_) #[true,true,true,true,true,true,true,false,false,false,false,false,false,false,false,false,false,false,false,false,false,false,false,false] rfl rfl (take_ofW HT_.out HW_.out (by kernel_rfl)) (fun _ _ _ h=>h) (Or.inl ⟨by rfl,?_⟩) hHeld ?_ ?_;rotate_left
    ·rintro w' ⟨s0,s1⟩
     go_simp
     with_reducible rfl
    rotate_left
    ·simp only [Act.put,sA,sZ,sS,i64_w,i32_w];rfl
    refine pure_ (i:=7) (N:=some 10) (v:=?_) (a':=?_) #[true,true,true,true,true,true,true,true,false,false,false,false,false,false,false,false,false,false,false,false,false,false,false,false] rfl rfl (any_of HT_.out (by kernel_rfl)) (fun _ _ _ h=>h) (Or.inl ⟨by rfl,?_⟩) ?_ ?_;rotate_left
    ·intro w';go_simp
     with_reducible rfl
    rotate_left
    ·simp only [Act.put,sA,sZ,sS,i64_w,i32_w];rfl
    refine pure_ (i:=8) (N:=some 11) (v:=?_) (a':=?_) #[true,true,true,true,true,true,true,true,true,false,false,false,false,false,false,false,false,false,false,false,false,false,false,false] rfl rfl (any_of HT_.out (by kernel_rfl)) (fun _ _ _ h=>h) (Or.inl ⟨by rfl,?_⟩) ?_ ?_;rotate_left
    ·intro w';go_simp
     with_reducible rfl
    rotate_left
    ·simp only [Act.put,sA,sZ,sS,i64_w,i32_w];rfl
    refine pure_ (i:=9) (N:=some 12) (v:=?_) (a':=?_) #[true,true,true,true,true,true,true,true,true,true,false,false,false,false,false,false,false,false,false,false,false,false,false,false] rfl rfl (any_of HT_.out (by kernel_rfl)) (fun _ _ _ h=>h) (Or.inl ⟨by rfl,?_⟩) ?_ ?_;rotate_left
    ·intro w';go_simp
     with_reducible rfl
    rotate_left
    ·simp only [Act.put,sA,sZ,sS,i64_w,i32_w];rfl
    refine pure_ (i:=10) (N:=some 13) (v:=?_) (a':=?_) #[true,true,true,true,true,true,true,true,true,true,true,false,false,false,false,false,false,false,false,false,false,false,false,false] rfl rfl (any_of HT_.out (by kernel_rfl)) (fun _ _ _ h=>h) (Or.inl ⟨by rfl,?_⟩) ?_ ?_;rotate_left
    ·intro w';go_simp
     with_reducible rfl
    rotate_left
    ·simp only [Act.put,sA,sZ,sS,i64_w,i32_w];rfl
    refine pure_ (i:=11) (N:=some 14) (v:=?_) (a':=?_) #[true,true,true,true,true,true,true,true,true,true,true,true,false,false,false,false,false,false,false,false,false,false,false,false] rfl rfl (any_of HT_.out (by kernel_rfl)) (fun _ _ _ h=>h) (Or.inl ⟨by rfl,?_⟩) ?_ ?_;rotate_left
    ·intro w';go_simp
     with_reducible rfl
    rotate_left
    ·simp only [Act.put,sA,sZ,sS,i64_w,i32_w];rfl
    refine take_ (i:=12) (N:=some 15) (v:=?_) (a':=?_) #[true,true,true,true,true,true,true,true,true,true,true,true,true,false,false,false,false,false,false,false,false,false,false,false] rfl rfl (take_ofW HT_.out HW_.out (by kernel_rfl)) (fun _ _ _ h=>h) (Or.inl ⟨by rfl,?_⟩) hHeld ?_ ?_;rotate_left
    ·rintro w' ⟨s0,s1⟩
     go_simp
     with_reducible rfl
    rotate_left
    ·simp only [Act.put,sA,sZ,sS,i64_w,i32_w];rfl
    refine one_ (i:=13) (N:=some 16) #[true,true,true,true,true,true,true,true,true,true,true,true,true,true,false,false,false,false,false,false,false,false,false,false] rfl rfl (one_of HT_.out (by kernel_rfl)) (by decide) (fun K hK=>?_);refine goes_ Try.func108 (by kernel_rfl) rfl #[.slice A0_1 l0_1.length c0_1,.int .i64 0,.int .i64 1000] (by rfl) rfl rfl mq ?_
    with_reducible refine (impl_areIn.calls k _ _ l0_1 0 1000 true _ ?side1 ?side2 A4.out).mono ?_
    (case side1=>repeat (first|exact (Kd.C_below HR0_1.out HB.out)|(with_reducible refine Kd.C_alloc ?_ _)|(with_reducible refine Kd.C_drewN ?_ _)|(with_reducible refine Kd.C_drew ?_)))
    (case side2=>exact HC0_1.out)
    rintro e w10 ⟨rfl,hb⟩
    refine ⟨_,rfl,?_⟩;have n0_:=Aside0.mk (blk_below (g:=gb776) (o:=.cells #[.int .i64 a0_0,.slice A0_1 l0_1.length c0_1] 46 (0,0)) bk hb);have n1_:=Aside0.mk (below_step bw hb);clear BK776;clear HB;have BK776:=n0_;have HB:=n1_;clear n0_ n1_;(try clear hb)
    (try clear hb2)
    (try clear hk)
    (try clear hi)
    refine hK.out _ _ ⟨(blk_cell BK776.out 0).trans rfl,(blk_cell BK776.out 1).trans rfl⟩ (fun hHeld=>?_);clear hK K;refine norm_ (a':=?_) ?_ ?_;rotate_left
    ·show Act.put _ (some 16) _ = _;simp only [Act.put,sA,sZ,sS,i64_w,i32_w];rfl
    refine pure_ (i:=14) (N:=some 17) (v:=?_) (a':=?_) #[true,true,true,true,true,true,true,true,true,true,true,true,true,true,true,false,false,false,false,false,false,false,false,false] rfl rfl (any_of HT_.out (by kernel_rfl)) (fun _ _ _ h=>h) (Or.inl ⟨by rfl,?_⟩) ?_ ?_;rotate_left
    ·intro w';go_simp
     with_reducible rfl
    rotate_left
    ·simp only [Act.put,sA,sZ,sS,i64_w,i32_w];rfl
    refine pure_ (i:=15) (N:=some 18) (v:=?_) (a':=?_) #[true,true,true,true,true,true,true,true,true,true,true,true,true,true,true,true,false,false,false,false,false,false,false,false] rfl rfl (any_of HT_.out (by kernel_rfl)) (fun _ _ _ h=>h) (Or.inl ⟨by rfl,?_⟩) ?_ ?_;rotate_left
    ·intro w';go_simp
     with_reducible rfl
    rotate_left
    ·simp only [Act.put,sA,sZ,sS,i64_w,i32_w];rfl
    refine pure_ (i:=16) (N:=some 19) (v:=?_) (a':=?_) #[true,true,true,true,true,true,true,true,true,true,true,true,true,true,true,true,true,false,false,false,false,false,false,false] rfl rfl (any_of HT_.out (by kernel_rfl)) (fun _ _ _ h=>h) (Or.inl ⟨by rfl,?_⟩) ?_ ?_;rotate_left
    ·intro w';go_simp
     with_reducible rfl
    rotate_left
    ·simp only [Act.put,sA,sZ,sS,i64_w,i32_w];rfl
    refine pure_ (i:=18) (N:=some 21) (v:=?_) (a':=?_) #[true,true,true,true,true,true,true,true,true,true,true,true,true,true,true,true,true,false,true,false,false,false,false,false] rfl rfl (any_of HT_.out (by kernel_rfl)) (fun _ _ _ h=>h) (Or.inl ⟨by rfl,?_⟩) ?_ ?_;rotate_left
    ·intro w';go_simp
     with_reducible rfl
    rotate_left
    ·simp only [Act.put,sA,sZ,sS,i64_w,i32_w];rfl
    refine take_ (i:=17) (N:=some 20) (v:=?_) (a':=?_) #[true,true,true,true,true,true,true,true,true,true,true,true,true,true,true,true,true,true,true,false,false,false,false,false] rfl rfl (take_ofW HT_.out HW_.out (by kernel_rfl)) (fun _ _ _ h=>h) (Or.inl ⟨by rfl,?_⟩) hHeld ?_ ?_;rotate_left
    ·rintro w' ⟨s0,s1⟩
     go_simp
     with_reducible rfl
    rotate_left
    ·simp only [Act.put,sA,sZ,sS,i64_w,i32_w];rfl
    refine take_ (i:=19) (N:=some 22) (v:=?_) (a':=?_) #[true,true,true,true,true,true,true,true,true,true,true,true,true,true,true,true,true,true,true,true,false,false,false,false] rfl rfl (take_ofW HT_.out HW_.out (by kernel_rfl)) (fun _ _ _ h=>h) (Or.inl ⟨by rfl,?_⟩) hHeld ?_ ?_;rotate_left
    ·rintro w' ⟨s0,s1⟩
     go_simp
     with_reducible rfl
    rotate_left
    ·simp only [Act.put,sA,sZ,sS,i64_w,i32_w];rfl
    refine one_ (i:=20) (N:=some 23) #[true,true,true,true,true,true,true,true,true,true,true,true,true,true,true,true,true,true,true,true,true,false,false,false] rfl rfl (one_of HT_.out (by kernel_rfl)) (by decide) (fun K hK=>?_);refine goes_ Try.func109 (by kernel_rfl) rfl #[.slice A0_1 l0_1.length c0_1] (by rfl) rfl rfl mq ?_
    with_reducible refine (impl_sumOf.calls k _ _ l0_1 t778 _ ?side1 ?side2 A6.out).mono ?_
    (case side1=>repeat (first|exact (Kd.C_below HR0_1.out HB.out)|(with_reducible refine Kd.C_alloc ?_ _)|(with_reducible refine Kd.C_drewN ?_ _)|(with_reducible refine Kd.C_drew ?_)))
    (case side2=>exact HC0_1.out)
    rintro e w' ⟨rfl,⟨nd,rfl⟩⟩
    refine ⟨_,rfl,?_⟩;refine hK.out _ _ ⟨(blk_cell BK776.out 0).trans rfl,(blk_cell BK776.out 1).trans rfl⟩ (fun hHeld=>?_);clear hK K;refine norm_ (a':=?_) ?_ ?_;rotate_left
    ·show Act.put _ (some 23) _ = _;simp only [Act.put,sA,sZ,sS,i64_w,i32_w];rfl
    refine one_ (i:=21) (N:=some 24) #[true,true,true,true,true,true,true,true,true,true,true,true,true,true,true,true,true,true,true,true,true,true,false,false] rfl rfl (one_of HT_.out (by kernel_rfl)) (by decide) (fun K hK=>?_);refine goes_ Try.func69 (by kernel_rfl) rfl #[.int .i64 a0_0,.int .i64 1,.int .i64 t778] (by rfl) rfl rfl mq ?_
    with_reducible refine (impl_within.calls a0_0 1 t778 t779 _ A7.out).mono ?_
    rintro e w' ⟨rfl,⟨nd,rfl⟩⟩
    refine ⟨_,rfl,?_⟩;refine hK.out _ _ ⟨(blk_cell BK776.out 0).trans rfl,(blk_cell BK776.out 1).trans rfl⟩ (fun hHeld=>?_);clear hK K;refine norm_ (a':=?_) ?_ ?_;rotate_left
    ·show Act.put _ (some 24) _ = _;simp only [Act.put,sA,sZ,sS,i64_w,i32_w];rfl
    refine pure_ (i:=22) (N:=some 25) (v:=?_) (a':=?_) #[true,true,true,true,true,true,true,true,true,true,true,true,true,true,true,true,true,true,true,true,true,true,true,false] rfl rfl (any_of HT_.out (by kernel_rfl)) (fun _ _ _ h=>h) (Or.inl ⟨by rfl,?_⟩) ?_ ?_;rotate_left
    ·intro w';go_simp
     with_reducible rfl
    rotate_left
    ·simp only [Act.put,sA,sZ,sS,i64_w,i32_w];rfl
    refine pure_ (i:=23) (N:=some 2) (v:=?_) (a':=?_) #[true,true,true,true,true,true,true,true,true,true,true,true,true,true,true,true,true,true,true,true,true,true,true,true] rfl rfl (any_of HT_.out (by kernel_rfl)) (fun _ _ _ h=>h) (Or.inl ⟨by rfl,?_⟩) ?_ ?_;rotate_left
    ·intro w';go_simp
     with_reducible rfl
    rotate_left
    ·simp only [Act.put,sA,sZ,sS,i64_w,i32_w];rfl
    refine done_ (done_of HT_.out (by kernel_rfl)) ?_
    try go_wp2
    go_ret
    exact ⟨by first|rfl|(simp [errW_none,errW_some] <;> rfl)|(simp [*,errW_none,errW_some] <;> rfl),by repeat (first|(with_reducible first|exact HB.out|apply below_alloc|apply pw_below_drewN|apply below_drew1|refine below_set ?_ GE776.out)|exact HB.out)⟩
   ·replace c5:=Bool.eq_false_iff.mpr c5;subst c5;have H1:(some false) = some r:=by rw [if_neg (show ¬ (false = true) by decide)] at H;exact H
    clear H;have H:=H1;clear H1;obtain rfl:=Option.some.inj H;go_enter Try.func68,Try.ntmps68
    try go_wp2_with (first|((with_reducible refine gate_dst (N:=1) rfl ?_);(try (refine gate_guard (by rfl) ?_;dsimp only));refine box_event ?hg (N:=1) ?hd (cs:=#[.int .i64 a0_0,.slice A0_1 l0_1.length c0_1]) (t:=46) ?hr ?_;(case hd=>rfl);(case hg=>rfl);(case hr=>first|(go_simp;done)|(go_simp;rfl));intro gb776 hg w11 hbox hb;have n0_:=Aside0.mk (below_step bw hb);have n1_:=Aside0.mk (hbox);have n2_:=Aside0.mk ((by rw [hg];exact (below_size bw):w.heap.size ≤ gb776));have n3_:=Aside0.mk ((by rw [hg];exact (below_size bw):w.heap.size ≤ gb776));clear HB;have HB:=n0_;have BK776:=n1_;have GW776:=n2_;have GE776:=n3_;clear n0_ n1_ n2_ n3_;clear hb hbox hg))
    have n0_:=Aside0.mk (blk_drew BK776.out);have n1_:=Aside0.mk (below_drew1 HB.out);clear BK776;clear HB;have BK776:=n0_;have HB:=n1_;clear n0_ n1_;refine start_ (n:=24) (S:=fun w'=>w'.cell? ⟨gb776,0,none⟩ = some (.int .i64 a0_0) ∧ w'.cell? ⟨gb776,1,none⟩ = some (.slice A0_1 l0_1.length c0_1)) (ds:=[]) #[false,false,false,false,false,false,false,false,false,false,false,false,false,false,false,false,false,false,false,false,false,false,false,false] (by kernel_rfl) rfl rfl ⟨(blk_cell BK776.out 0).trans rfl,(blk_cell BK776.out 1).trans rfl⟩ (fun hHeld=>?_);refine with_tabW impl_IsCommittee.tab1 impl_IsCommittee.bits1 (fun HT_ HW_=>?_)
    generalize w11.drew = w12 at BK776 HB hHeld ⊢
    refine pure_ (i:=0) (N:=some 3) (v:=?_) (a':=?_) #[true,false,false,false,false,false,false,false,false,false,false,false,false,false,false,false,false,false,false,false,false,false,false,false] rfl rfl (any_of HT_.out (by kernel_rfl)) (fun _ _ _ h=>h) (Or.inl ⟨by rfl,?_⟩) ?_ ?_;rotate_left
    ·intro w';go_simp
     with_reducible rfl
    rotate_left
    ·simp only [Act.put,sA,sZ,sS,i64_w,i32_w];rfl
    refine take_ (i:=1) (N:=some 4) (v:=?_) (a':=?_) #[true,true,false,false,false,false,false,false,false,false,false,false,false,false,false,false,false,false,false,false,false,false,false,false] rfl rfl (take_ofW HT_.out HW_.out (by kernel_rfl)) (fun _ _ _ h=>h) (Or.inl ⟨by rfl,?_⟩) hHeld ?_ ?_;rotate_left
    ·rintro w' ⟨s0,s1⟩
     go_simp
     with_reducible rfl
    rotate_left
    ·simp only [Act.put,sA,sZ,sS,i64_w,i32_w];rfl
    refine pure_ (i:=2) (N:=some 5) (v:=?_) (a':=?_) #[true,true,true,false,false,false,false,false,false,false,false,false,false,false,false,false,false,false,false,false,false,false,false,false] rfl rfl (any_of HT_.out (by kernel_rfl)) (fun _ _ _ h=>h) (Or.inl ⟨by rfl,?_⟩) ?_ ?_;rotate_left
    ·intro w';go_simp
     with_reducible rfl
    rotate_left
    ·simp only [Act.put,sA,sZ,sS,i64_w,i32_w];rfl
    refine pure_ (i:=3) (N:=some 6) (v:=?_) (a':=?_) #[true,true,true,true,false,false,false,false,false,false,false,false,false,false,false,false,false,false,false,false,false,false,false,false] rfl rfl (any_of HT_.out (by kernel_rfl)) (fun _ _ _ h=>h) (Or.inl ⟨by rfl,?_⟩) ?_ ?_;rotate_left
    ·intro w';go_simp
     with_reducible rfl
    rotate_left
    ·simp only [Act.put,sA,sZ,sS,i64_w,i32_w];rfl
    refine pure_ (i:=4) (N:=some 7) (v:=?_) (a':=?_) #[true,true,true,true,true,false,false,false,false,false,false,false,false,false,false,false,false,false,false,false,false,false,false,false] rfl rfl (any_of HT_.out (by kernel_rfl)) (fun _ _ _ h=>h) (Or.inl ⟨by rfl,?_⟩) ?_ ?_;rotate_left
    ·intro w';go_simp
     with_reducible rfl
    rotate_left
    ·simp only [Act.put,sA,sZ,sS,i64_w,i32_w];rfl
    refine pure_ (i:=5) (N:=some 8) (v:=?_) (a':=?_) #[true,true,true,true,true,true,false,false,false,false,false,false,false,false,false,false,false,false,false,false,false,false,false,false] rfl rfl (any_of HT_.out (by kernel_rfl)) (fun _ _ _ h=>h) (Or.inl ⟨by rfl,?_⟩) ?_ ?_;rotate_left
    ·intro w';go_simp
     with_reducible rfl
    rotate_left
    ·simp only [Act.put,sA,sZ,sS,i64_w,i32_w];rfl
    refine take_ (i:=6) (N:=some 9) (v:=?_) (a':=?_) #[true,true,true,true,true,true,true,false,false,false,false,false,false,false,false,false,false,false,false,false,false,false,false,false] rfl rfl (take_ofW HT_.out HW_.out (by kernel_rfl)) (fun _ _ _ h=>h) (Or.inl ⟨by rfl,?_⟩) hHeld ?_ ?_;rotate_left
    ·rintro w' ⟨s0,s1⟩
     go_simp
     with_reducible rfl
    rotate_left
    ·simp only [Act.put,sA,sZ,sS,i64_w,i32_w];rfl
    refine pure_ (i:=7) (N:=some 10) (v:=?_) (a':=?_) #[true,true,true,true,true,true,true,true,false,false,false,false,false,false,false,false,false,false,false,false,false,false,false,false] rfl rfl (any_of HT_.out (by kernel_rfl)) (fun _ _ _ h=>h) (Or.inl ⟨by rfl,?_⟩) ?_ ?_;rotate_left
    ·intro w';go_simp
     with_reducible rfl
    rotate_left
    ·simp only [Act.put,sA,sZ,sS,i64_w,i32_w];rfl
    refine pure_ (i:=8) (N:=some 11) (v:=?_) (a':=?_) #[true,true,true,true,true,true,true,true,true,false,false,false,false,false,false,false,false,false,false,false,false,false,false,false] rfl rfl (any_of HT_.out (by kernel_rfl)) (fun _ _ _ h=>h) (Or.inl ⟨by rfl,?_⟩) ?_ ?_;rotate_left
    ·intro w';go_simp
     with_reducible rfl
    rotate_left
    ·simp only [Act.put,sA,sZ,sS,i64_w,i32_w];rfl
    refine pure_ (i:=9) (N:=some 12) (v:=?_) (a':=?_) #[true,true,true,true,true,true,true,true,true,true,false,false,false,false,false,false,false,false,false,false,false,false,false,false] rfl rfl (any_of HT_.out (by kernel_rfl)) (fun _ _ _ h=>h) (Or.inl ⟨by rfl,?_⟩) ?_ ?_;rotate_left
    ·intro w';go_simp
     with_reducible rfl
    rotate_left
    ·simp only [Act.put,sA,sZ,sS,i64_w,i32_w];rfl
    refine pure_ (i:=10) (N:=some 13) (v:=?_) (a':=?_) #[true,true,true,true,true,true,true,true,true,true,true,false,false,false,false,false,false,false,false,false,false,false,false,false] rfl rfl (any_of HT_.out (by kernel_rfl)) (fun _ _ _ h=>h) (Or.inl ⟨by rfl,?_⟩) ?_ ?_;rotate_left
    ·intro w';go_simp
     with_reducible rfl
    rotate_left
    ·simp only [Act.put,sA,sZ,sS,i64_w,i32_w];rfl
    refine pure_ (i:=11) (N:=some 14) (v:=?_) (a':=?_) #[true,true,true,true,true,true,true,true,true,true,true,true,false,false,false,false,false,false,false,false,false,false,false,false] rfl rfl (any_of HT_.out (by kernel_rfl)) (fun _ _ _ h=>h) (Or.inl ⟨by rfl,?_⟩) ?_ ?_;rotate_left
    ·intro w';go_simp
     with_reducible rfl
    rotate_left
    ·simp only [Act.put,sA,sZ,sS,i64_w,i32_w];rfl
    refine take_ (i:=12) (N:=some 15) (v:=?_) (a':=?_) #[true,true,true,true,true,true,true,true,true,true,true,true,true,false,false,false,false,false,false,false,false,false,false,false] rfl rfl (take_ofW HT_.out HW_.out (by kernel_rfl)) (fun _ _ _ h=>h) (Or.inl ⟨by rfl,?_⟩) hHeld ?_ ?_;rotate_left
    ·rintro w' ⟨s0,s1⟩
     go_simp
     with_reducible rfl
    rotate_left
    ·simp only [Act.put,sA,sZ,sS,i64_w,i32_w];rfl
    refine one_ (i:=13) (N:=some 16) #[true,true,true,true,true,true,true,true,true,true,true,true,true,true,false,false,false,false,false,false,false,false,false,false] rfl rfl (one_of HT_.out (by kernel_rfl)) (by decide) (fun K hK=>?_);refine goes_ Try.func108 (by kernel_rfl) rfl #[.slice A0_1 l0_1.length c0_1,.int .i64 0,.int .i64 1000] (by rfl) rfl rfl mq ?_
    with_reducible refine (impl_areIn.calls k _ _ l0_1 0 1000 false _ ?side1 ?side2 A4.out).mono ?_
    (case side1=>repeat (first|exact (Kd.C_below HR0_1.out HB.out)|(with_reducible refine Kd.C_alloc ?_ _)|(with_reducible refine Kd.C_drewN ?_ _)|(with_reducible refine Kd.C_drew ?_)))
    (case side2=>exact HC0_1.out)
    rintro e w13 ⟨rfl,hb⟩
    refine ⟨_,rfl,?_⟩;have n0_:=Aside0.mk (blk_below (g:=gb776) (o:=.cells #[.int .i64 a0_0,.slice A0_1 l0_1.length c0_1] 46 (0,0)) bk hb);have n1_:=Aside0.mk (below_step bw hb);clear BK776;clear HB;have BK776:=n0_;have HB:=n1_;clear n0_ n1_;(try clear hb)
    (try clear hb2)
    (try clear hk)
    (try clear hi)
    refine hK.out _ _ ⟨(blk_cell BK776.out 0).trans rfl,(blk_cell BK776.out 1).trans rfl⟩ (fun hHeld=>?_);clear hK K;refine norm_ (a':=?_) ?_ ?_;rotate_left
    ·show Act.put _ (some 16) _ = _;simp only [Act.put,sA,sZ,sS,i64_w,i32_w];rfl
    refine pure_ (i:=14) (N:=some 17) (v:=?_) (a':=?_) #[true,true,true,true,true,true,true,true,true,true,true,true,true,true,true,false,false,false,false,false,false,false,false,false] rfl rfl (any_of HT_.out (by kernel_rfl)) (fun _ _ _ h=>h) (Or.inl ⟨by rfl,?_⟩) ?_ ?_;rotate_left
    ·intro w';go_simp
     with_reducible rfl
    rotate_left
    ·simp only [Act.put,sA,sZ,sS,i64_w,i32_w];rfl
    refine pure_ (i:=15) (N:=some 18) (v:=?_) (a':=?_) #[true,true,true,true,true,true,true,true,true,true,true,true,true,true,true,true,false,false,false,false,false,false,false,false] rfl rfl (any_of HT_.out (by kernel_rfl)) (fun _ _ _ h=>h) (Or.inl ⟨by rfl,?_⟩) ?_ ?_;rotate_left
    ·intro w';go_simp
     with_reducible rfl
    rotate_left
    ·simp only [Act.put,sA,sZ,sS,i64_w,i32_w];rfl
    refine pure_ (i:=16) (N:=some 19) (v:=undef) (a':=?_) #[true,true,true,true,true,true,true,true,true,true,true,true,true,true,true,true,true,false,false,false,false,false,false,false] rfl rfl (any_of HT_.out (by kernel_rfl)) (fun _ _ _ h=>h) (Or.inr ⟨by rfl,rfl⟩) ?_ ?_;rotate_left
    ·simp only [Act.put,sA,sZ,sS,i64_w,i32_w];rfl
    refine pure_ (i:=17) (N:=some 20) (v:=undef) (a':=?_) #[true,true,true,true,true,true,true,true,true,true,true,true,true,true,true,true,true,true,false,false,false,false,false,false] rfl rfl (any_of HT_.out (by kernel_rfl)) (fun _ _ _ h=>h) (Or.inr ⟨by rfl,rfl⟩) ?_ ?_;rotate_left
    ·simp only [Act.put,sA,sZ,sS,i64_w,i32_w];rfl
    refine pure_ (i:=18) (N:=some 21) (v:=undef) (a':=?_) #[true,true,true,true,true,true,true,true,true,true,true,true,true,true,true,true,true,true,true,false,false,false,false,false] rfl rfl (any_of HT_.out (by kernel_rfl)) (fun _ _ _ h=>h) (Or.inr ⟨by rfl,rfl⟩) ?_ ?_;rotate_left
    ·simp only [Act.put,sA,sZ,sS,i64_w,i32_w];rfl
    refine pure_ (i:=19) (N:=some 22) (v:=undef) (a':=?_) #[true,true,true,true,true,true,true,true,true,true,true,true,true,true,true,true,true,true,true,true,false,false,false,false] rfl rfl (any_of HT_.out (by kernel_rfl)) (fun _ _ _ h=>h) (Or.inr ⟨by rfl,rfl⟩) ?_ ?_;rotate_left
    ·simp only [Act.put,sA,sZ,sS,i64_w,i32_w];rfl
    refine pure_ (i:=20) (N:=some 23) (v:=undef) (a':=?_) #[true,true,true,true,true,true,true,true,true,true,true,true,true,true,true,true,true,true,true,true,true,false,false,false] rfl rfl (any_of HT_.out (by kernel_rfl)) (fun _ _ _ h=>h) (Or.inr ⟨by rfl,rfl⟩) ?_ ?_;rotate_left
    ·simp only [Act.put,sA,sZ,sS,i64_w,i32_w];rfl
    refine pure_ (i:=21) (N:=some 24) (v:=undef) (a':=?_) #[true,true,true,true,true,true,true,true,true,true,true,true,true,true,true,true,true,true,true,true,true,true,false,false] rfl rfl (any_of HT_.out (by kernel_rfl)) (fun _ _ _ h=>h) (Or.inr ⟨by rfl,rfl⟩) ?_ ?_;rotate_left
    ·simp only [Act.put,sA,sZ,sS,i64_w,i32_w];rfl
    refine pure_ (i:=22) (N:=some 25) (v:=?_) (a':=?_) #[true,true,true,true,true,true,true,true,true,true,true,true,true,true,true,true,true,true,true,true,true,true,true,false] rfl rfl (any_of HT_.out (by kernel_rfl)) (fun _ _ _ h=>h) (Or.inl ⟨by rfl,?_⟩) ?_ ?_;rotate_left
    ·intro w';go_simp
     with_reducible rfl
    rotate_left
    ·simp only [Act.put,sA,sZ,sS,i64_w,i32_w];rfl
    refine pure_ (i:=23) (N:=some 2) (v:=?_) (a':=?_) #[true,true,true,true,true,true,true,true,true,true,true,true,true,true,true,true,true,true,true,true,true,true,true,true] rfl rfl (any_of HT_.out (by kernel_rfl)) (fun _ _ _ h=>h) (Or.inl ⟨by rfl,?_⟩) ?_ ?_;rotate_left
    ·intro w';go_simp
     with_reducible rfl
    rotate_left
    ·simp only [Act.put,sA,sZ,sS,i64_w,i32_w];rfl
    refine done_ (done_of HT_.out (by kernel_rfl)) ?_
    try go_wp2
    go_ret
    exact ⟨by first|rfl|(simp [errW_none,errW_some] <;> rfl)|(simp [*,errW_none,errW_some] <;> rfl),by repeat (first|(with_reducible first|exact HB.out|apply below_alloc|apply pw_below_drewN|apply below_drew1|refine below_set ?_ GE776.out)|exact HB.out)⟩
  ·rw [if_neg c3] at H;have c3b0:decide ((l0_1.length:Int) ≤ 9) = false:=decide_eq_false c3;have c3b1:decide (l0_1.length ≤ 9) = false:=decide_eq_false (by omega);clear c3;obtain rfl:=Option.some.inj H;go_enter Try.func68,Try.ntmps68
   try go_wp2_with (first|((with_reducible refine gate_dst (N:=1) rfl ?_);(try (refine gate_guard (by rfl) ?_;dsimp only));refine box_event ?hg (N:=1) ?hd (cs:=#[.int .i64 a0_0,.slice A0_1 l0_1.length c0_1]) (t:=46) ?hr ?_;(case hd=>rfl);(case hg=>rfl);(case hr=>first|(go_simp;done)|(go_simp;rfl));intro gb776 hg w14 hbox hb;have n0_:=Aside0.mk (below_step bw hb);have n1_:=Aside0.mk (hbox);have n2_:=Aside0.mk ((by rw [hg];exact (below_size bw):w.heap.size ≤ gb776));have n3_:=Aside0.mk ((by rw [hg];exact (below_size bw):w.heap.size ≤ gb776));clear HB;have HB:=n0_;have BK776:=n1_;have GW776:=n2_;have GE776:=n3_;clear n0_ n1_ n2_ n3_;clear hb hbox hg))
   have n0_:=Aside0.mk (blk_drew BK776.out);have n1_:=Aside0.mk (below_drew1 HB.out);clear BK776;clear HB;have BK776:=n0_;have HB:=n1_;clear n0_ n1_;refine start_ (n:=24) (S:=fun w'=>w'.cell? ⟨gb776,0,none⟩ = some (.int .i64 a0_0) ∧ w'.cell? ⟨gb776,1,none⟩ = some (.slice A0_1 l0_1.length c0_1)) (ds:=[]) #[false,false,false,false,false,false,false,false,false,false,false,false,false,false,false,false,false,false,false,false,false,false,false,false] (by kernel_rfl) rfl rfl ⟨(blk_cell BK776.out 0).trans rfl,(blk_cell BK776.out 1).trans rfl⟩ (fun hHeld=>?_);refine with_tabW impl_IsCommittee.tab1 impl_IsCommittee.bits1 (fun HT_ HW_=>?_)
   generalize w14.drew = w15 at BK776 HB hHeld ⊢
   refine pure_ (i:=0) (N:=some 3) (v:=?_) (a':=?_) #[true,false,false,false,false,false,false,false,false,false,false,false,false,false,false,false,false,false,false,false,false,false,false,false] rfl rfl (any_of HT_.out (by kernel_rfl)) (fun _ _ _ h=>h) (Or.inl ⟨by rfl,?_⟩) ?_ ?_;rotate_left
   ·intro w';go_simp
    with_reducible rfl
   rotate_left
   ·simp only [Act.put,sA,sZ,sS,i64_w,i32_w];rfl
   refine take_ (i:=1) (N:=some 4) (v:=?_) (a':=?_) #[true,true,false,false,false,false,false,false,false,false,false,false,false,false,false,false,false,false,false,false,false,false,false,false] rfl rfl (take_ofW HT_.out HW_.out (by kernel_rfl)) (fun _ _ _ h=>h) (Or.inl ⟨by rfl,?_⟩) hHeld ?_ ?_;rotate_left
   ·rintro w' ⟨s0,s1⟩
    go_simp
    with_reducible rfl
   rotate_left
   ·simp only [Act.put,sA,sZ,sS,i64_w,i32_w];rfl
   refine pure_ (i:=2) (N:=some 5) (v:=?_) (a':=?_) #[true,true,true,false,false,false,false,false,false,false,false,false,false,false,false,false,false,false,false,false,false,false,false,false] rfl rfl (any_of HT_.out (by kernel_rfl)) (fun _ _ _ h=>h) (Or.inl ⟨by rfl,?_⟩) ?_ ?_;rotate_left
   ·intro w';go_simp
    with_reducible rfl
   rotate_left
   ·simp only [Act.put,sA,sZ,sS,i64_w,i32_w];rfl
   refine pure_ (i:=3) (N:=some 6) (v:=?_) (a':=?_) #[true,true,true,true,false,false,false,false,false,false,false,false,false,false,false,false,false,false,false,false,false,false,false,false] rfl rfl (any_of HT_.out (by kernel_rfl)) (fun _ _ _ h=>h) (Or.inl ⟨by rfl,?_⟩) ?_ ?_;rotate_left
   ·intro w';go_simp
    with_reducible rfl
   rotate_left
   ·simp only [Act.put,sA,sZ,sS,i64_w,i32_w];rfl
   refine pure_ (i:=4) (N:=some 7) (v:=?_) (a':=?_) #[true,true,true,true,true,false,false,false,false,false,false,false,false,false,false,false,false,false,false,false,false,false,false,false] rfl rfl (any_of HT_.out (by kernel_rfl)) (fun _ _ _ h=>h) (Or.inl ⟨by rfl,?_⟩) ?_ ?_;rotate_left
   ·intro w';go_simp
    with_reducible rfl
   rotate_left
   ·simp only [Act.put,sA,sZ,sS,i64_w,i32_w];rfl
   refine pure_ (i:=5) (N:=some 8) (v:=?_) (a':=?_) #[true,true,true,true,true,true,false,false,false,false,false,false,false,false,false,false,false,false,false,false,false,false,false,false] rfl rfl (any_of HT_.out (by kernel_rfl)) (fun _ _ _ h=>h) (Or.inl ⟨by rfl,?_⟩) ?_ ?_;rotate_left
   ·intro w';go_simp
    with_reducible rfl
   rotate_left
   ·simp only [Act.put,sA,sZ,sS,i64_w,i32_w];rfl
   refine take_ (i:=6) (N:=some 9) (v:=?_) (a':=?_) #[true,true,true,true,true,true,true,false,false,false,false,false,false,false,false,false,false,false,false,false,false,false,false,false] rfl rfl (take_ofW HT_.out HW_.out (by kernel_rfl)) (fun _ _ _ h=>h) (Or.inl ⟨by rfl,?_⟩) hHeld ?_ ?_;rotate_left
   ·rintro w' ⟨s0,s1⟩
    go_simp
    with_reducible rfl
   rotate_left
   ·simp only [Act.put,sA,sZ,sS,i64_w,i32_w];rfl
   refine pure_ (i:=7) (N:=some 10) (v:=?_) (a':=?_) #[true,true,true,true,true,true,true,true,false,false,false,false,false,false,false,false,false,false,false,false,false,false,false,false] rfl rfl (any_of HT_.out (by kernel_rfl)) (fun _ _ _ h=>h) (Or.inl ⟨by rfl,?_⟩) ?_ ?_;rotate_left
   ·intro w';go_simp
    with_reducible rfl
   rotate_left
   ·simp only [Act.put,sA,sZ,sS,i64_w,i32_w];rfl
   refine pure_ (i:=8) (N:=some 11) (v:=?_) (a':=?_) #[true,true,true,true,true,true,true,true,true,false,false,false,false,false,false,false,false,false,false,false,false,false,false,false] rfl rfl (any_of HT_.out (by kernel_rfl)) (fun _ _ _ h=>h) (Or.inl ⟨by rfl,?_⟩) ?_ ?_;rotate_left
   ·intro w';go_simp
    with_reducible rfl
   rotate_left
   ·simp only [Act.put,sA,sZ,sS,i64_w,i32_w];rfl
   refine pure_ (i:=9) (N:=some 12) (v:=?_) (a':=?_) #[true,true,true,true,true,true,true,true,true,true,false,false,false,false,false,false,false,false,false,false,false,false,false,false] rfl rfl (any_of HT_.out (by kernel_rfl)) (fun _ _ _ h=>h) (Or.inl ⟨by rfl,?_⟩) ?_ ?_;rotate_left
   ·intro w';go_simp
    with_reducible rfl
   rotate_left
   ·simp only [Act.put,sA,sZ,sS,i64_w,i32_w];rfl
   refine pure_ (i:=10) (N:=some 13) (v:=?_) (a':=?_) #[true,true,true,true,true,true,true,true,true,true,true,false,false,false,false,false,false,false,false,false,false,false,false,false] rfl rfl (any_of HT_.out (by kernel_rfl)) (fun _ _ _ h=>h) (Or.inl ⟨by rfl,?_⟩) ?_ ?_;rotate_left
   ·intro w';go_simp
    with_reducible rfl
   rotate_left
   ·simp only [Act.put,sA,sZ,sS,i64_w,i32_w];rfl
   refine pure_ (i:=11) (N:=some 14) (v:=undef) (a':=?_) #[true,true,true,true,true,true,true,true,true,true,true,true,false,false,false,false,false,false,false,false,false,false,false,false] rfl rfl (any_of HT_.out (by kernel_rfl)) (fun _ _ _ h=>h) (Or.inr ⟨by rfl,rfl⟩) ?_ ?_;rotate_left
   ·simp only [Act.put,sA,sZ,sS,i64_w,i32_w];rfl
   refine pure_ (i:=12) (N:=some 15) (v:=undef) (a':=?_) #[true,true,true,true,true,true,true,true,true,true,true,true,true,false,false,false,false,false,false,false,false,false,false,false] rfl rfl (any_of HT_.out (by kernel_rfl)) (fun _ _ _ h=>h) (Or.inr ⟨by rfl,rfl⟩) ?_ ?_;rotate_left
   ·simp only [Act.put,sA,sZ,sS,i64_w,i32_w];rfl
   refine pure_ (i:=13) (N:=some 16) (v:=undef) (a':=?_) #[true,true,true,true,true,true,true,true,true,true,true,true,true,true,false,false,false,false,false,false,false,false,false,false] rfl rfl (any_of HT_.out (by kernel_rfl)) (fun _ _ _ h=>h) (Or.inr ⟨by rfl,rfl⟩) ?_ ?_;rotate_left
   ·simp only [Act.put,sA,sZ,sS,i64_w,i32_w];rfl
   refine pure_ (i:=14) (N:=some 17) (v:=?_) (a':=?_) #[true,true,true,true,true,true,true,true,true,true,true,true,true,true,true,false,false,false,false,false,false,false,false,false] rfl rfl (any_of HT_.out (by kernel_rfl)) (fun _ _ _ h=>h) (Or.inl ⟨by rfl,?_⟩) ?_ ?_;rotate_left
   ·intro w';go_simp
    with_reducible rfl
   rotate_left
   ·simp only [Act.put,sA,sZ,sS,i64_w,i32_w];rfl
   refine pure_ (i:=15) (N:=some 18) (v:=?_) (a':=?_) #[true,true,true,true,true,true,true,true,true,true,true,true,true,true,true,true,false,false,false,false,false,false,false,false] rfl rfl (any_of HT_.out (by kernel_rfl)) (fun _ _ _ h=>h) (Or.inl ⟨by rfl,?_⟩) ?_ ?_;rotate_left
   ·intro w';go_simp
    with_reducible rfl
   rotate_left
   ·simp only [Act.put,sA,sZ,sS,i64_w,i32_w];rfl
   refine pure_ (i:=16) (N:=some 19) (v:=undef) (a':=?_) #[true,true,true,true,true,true,true,true,true,true,true,true,true,true,true,true,true,false,false,false,false,false,false,false] rfl rfl (any_of HT_.out (by kernel_rfl)) (fun _ _ _ h=>h) (Or.inr ⟨by rfl,rfl⟩) ?_ ?_;rotate_left
   ·simp only [Act.put,sA,sZ,sS,i64_w,i32_w];rfl
   refine pure_ (i:=17) (N:=some 20) (v:=undef) (a':=?_) #[true,true,true,true,true,true,true,true,true,true,true,true,true,true,true,true,true,true,false,false,false,false,false,false] rfl rfl (any_of HT_.out (by kernel_rfl)) (fun _ _ _ h=>h) (Or.inr ⟨by rfl,rfl⟩) ?_ ?_;rotate_left
   ·simp only [Act.put,sA,sZ,sS,i64_w,i32_w];rfl
   refine pure_ (i:=18) (N:=some 21) (v:=undef) (a':=?_) #[true,true,true,true,true,true,true,true,true,true,true,true,true,true,true,true,true,true,true,false,false,false,false,false] rfl rfl (any_of HT_.out (by kernel_rfl)) (fun _ _ _ h=>h) (Or.inr ⟨by rfl,rfl⟩) ?_ ?_;rotate_left
   ·simp only [Act.put,sA,sZ,sS,i64_w,i32_w];rfl
   refine pure_ (i:=19) (N:=some 22) (v:=undef) (a':=?_) #[true,true,true,true,true,true,true,true,true,true,true,true,true,true,true,true,true,true,true,true,false,false,false,false] rfl rfl (any_of HT_.out (by kernel_rfl)) (fun _ _ _ h=>h) (Or.inr ⟨by rfl,rfl⟩) ?_ ?_;rotate_left
   ·simp only [Act.put,sA,sZ,sS,i64_w,i32_w];rfl
   refine pure_ (i:=20) (N:=some 23) (v:=undef) (a':=?_) #[true,true,true,true,true,true,true,true,true,true,true,true,true,true,true,true,true,true,true,true,true,false,false,false] rfl rfl (any_of HT_.out (by kernel_rfl)) (fun _ _ _ h=>h) (Or.inr ⟨by rfl,rfl⟩) ?_ ?_;rotate_left
   ·simp only [Act.put,sA,sZ,sS,i64_w,i32_w];rfl
   refine pure_ (i:=21) (N:=some 24) (v:=undef) (a':=?_) #[true,true,true,true,true,true,true,true,true,true,true,true,true,true,true,true,true,true,true,true,true,true,false,false] rfl rfl (any_of HT_.out (by kernel_rfl)) (fun _ _ _ h=>h) (Or.inr ⟨by rfl,rfl⟩) ?_ ?_;rotate_left
   ·simp only [Act.put,sA,sZ,sS,i64_w,i32_w];rfl
   refine pure_ (i:=22) (N:=some 25) (v:=?_) (a':=?_) #[true,true,true,true,true,true,true,true,true,true,true,true,true,true,true,true,true,true,true,true,true,true,true,false] rfl rfl (any_of HT_.out (by kernel_rfl)) (fun _ _ _ h=>h) (Or.inl ⟨by rfl,?_⟩) ?_ ?_;rotate_left
   ·intro w';go_simp
    with_reducible rfl
   rotate_left
   ·simp only [Act.put,sA,sZ,sS,i64_w,i32_w];rfl
   refine pure_ (i:=23) (N:=some 2) (v:=?_) (a':=?_) #[true,true,true,true,true,true,true,true,true,true,true,true,true,true,true,true,true,true,true,true,true,true,true,true] rfl rfl (any_of HT_.out (by kernel_rfl)) (fun _ _ _ h=>h) (Or.inl ⟨by rfl,?_⟩) ?_ ?_;rotate_left
   ·intro w';go_simp
    with_reducible rfl
   rotate_left
   ·simp only [Act.put,sA,sZ,sS,i64_w,i32_w];rfl
   refine done_ (done_of HT_.out (by kernel_rfl)) ?_
   try go_wp2
   go_ret
   exact ⟨by first|rfl|(simp [errW_none,errW_some] <;> rfl)|(simp [*,errW_none,errW_some] <;> rfl),by repeat (first|(with_reducible first|exact HB.out|apply below_alloc|apply pw_below_drewN|apply below_drew1|refine below_set ?_ GE776.out)|exact HB.out)⟩
 ·rw [if_neg c2] at H;have c2b0:decide (1 ≤ (l0_1.length:Int)) = false:=decide_eq_false c2;have c2b1:decide (1 ≤ l0_1.length) = false:=decide_eq_false (by omega);clear c2;obtain rfl:=Option.some.inj H;go_enter Try.func68,Try.ntmps68
  try go_wp2_with (first|((with_reducible refine gate_dst (N:=1) rfl ?_);(try (refine gate_guard (by rfl) ?_;dsimp only));refine box_event ?hg (N:=1) ?hd (cs:=#[.int .i64 a0_0,.slice A0_1 l0_1.length c0_1]) (t:=46) ?hr ?_;(case hd=>rfl);(case hg=>rfl);(case hr=>first|(go_simp;done)|(go_simp;rfl));intro gb776 hg w16 hbox hb;have n0_:=Aside0.mk (below_step bw hb);have n1_:=Aside0.mk (hbox);have n2_:=Aside0.mk ((by rw [hg];exact (below_size bw):w.heap.size ≤ gb776));have n3_:=Aside0.mk ((by rw [hg];exact (below_size bw):w.heap.size ≤ gb776));clear HB;have HB:=n0_;have BK776:=n1_;have GW776:=n2_;have GE776:=n3_;clear n0_ n1_ n2_ n3_;clear hb hbox hg))
  have n0_:=Aside0.mk (blk_drew BK776.out);have n1_:=Aside0.mk (below_drew1 HB.out);clear BK776;clear HB;have BK776:=n0_;have HB:=n1_;clear n0_ n1_;refine start_ (n:=24) (S:=fun w'=>w'.cell? ⟨gb776,0,none⟩ = some (.int .i64 a0_0) ∧ w'.cell? ⟨gb776,1,none⟩ = some (.slice A0_1 l0_1.length c0_1)) (ds:=[]) #[false,false,false,false,false,false,false,false,false,false,false,false,false,false,false,false,false,false,false,false,false,false,false,false] (by kernel_rfl) rfl rfl ⟨(blk_cell BK776.out 0).trans rfl,(blk_cell BK776.out 1).trans rfl⟩ (fun hHeld=>?_);refine with_tabW impl_IsCommittee.tab1 impl_IsCommittee.bits1 (fun HT_ HW_=>?_)
  generalize w16.drew = w17 at BK776 HB hHeld ⊢
  refine pure_ (i:=0) (N:=some 3) (v:=?_) (a':=?_) #[true,false,false,false,false,false,false,false,false,false,false,false,false,false,false,false,false,false,false,false,false,false,false,false] rfl rfl (any_of HT_.out (by kernel_rfl)) (fun _ _ _ h=>h) (Or.inl ⟨by rfl,?_⟩) ?_ ?_;rotate_left
  ·intro w';go_simp
   with_reducible rfl
  rotate_left
  ·simp only [Act.put,sA,sZ,sS,i64_w,i32_w];rfl
  refine take_ (i:=1) (N:=some 4) (v:=?_) (a':=?_) #[true,true,false,false,false,false,false,false,false,false,false,false,false,false,false,false,false,false,false,false,false,false,false,false] rfl rfl (take_ofW HT_.out HW_.out (by kernel_rfl)) (fun _ _ _ h=>h) (Or.inl ⟨by rfl,?_⟩) hHeld ?_ ?_;rotate_left
  ·rintro w' ⟨s0,s1⟩
   go_simp
   with_reducible rfl
  rotate_left
  ·simp only [Act.put,sA,sZ,sS,i64_w,i32_w];rfl
  refine pure_ (i:=2) (N:=some 5) (v:=?_) (a':=?_) #[true,true,true,false,false,false,false,false,false,false,false,false,false,false,false,false,false,false,false,false,false,false,false,false] rfl rfl (any_of HT_.out (by kernel_rfl)) (fun _ _ _ h=>h) (Or.inl ⟨by rfl,?_⟩) ?_ ?_;rotate_left
  ·intro w';go_simp
   with_reducible rfl
  rotate_left
  ·simp only [Act.put,sA,sZ,sS,i64_w,i32_w];rfl
  refine pure_ (i:=3) (N:=some 6) (v:=?_) (a':=?_) #[true,true,true,true,false,false,false,false,false,false,false,false,false,false,false,false,false,false,false,false,false,false,false,false] rfl rfl (any_of HT_.out (by kernel_rfl)) (fun _ _ _ h=>h) (Or.inl ⟨by rfl,?_⟩) ?_ ?_;rotate_left
  ·intro w';go_simp
   with_reducible rfl
  rotate_left
  ·simp only [Act.put,sA,sZ,sS,i64_w,i32_w];rfl
  refine pure_ (i:=4) (N:=some 7) (v:=?_) (a':=?_) #[true,true,true,true,true,false,false,false,false,false,false,false,false,false,false,false,false,false,false,false,false,false,false,false] rfl rfl (any_of HT_.out (by kernel_rfl)) (fun _ _ _ h=>h) (Or.inl ⟨by rfl,?_⟩) ?_ ?_;rotate_left
  ·intro w';go_simp
   with_reducible rfl
  rotate_left
  ·simp only [Act.put,sA,sZ,sS,i64_w,i32_w];rfl
  refine pure_ (i:=5) (N:=some 8) (v:=undef) (a':=?_) #[true,true,true,true,true,true,false,false,false,false,false,false,false,false,false,false,false,false,false,false,false,false,false,false] rfl rfl (any_of HT_.out (by kernel_rfl)) (fun _ _ _ h=>h) (Or.inr ⟨by rfl,rfl⟩) ?_ ?_;rotate_left
  ·simp only [Act.put,sA,sZ,sS,i64_w,i32_w];rfl
  refine pure_ (i:=6) (N:=some 9) (v:=undef) (a':=?_) #[true,true,true,true,true,true,true,false,false,false,false,false,false,false,false,false,false,false,false,false,false,false,false,false] rfl rfl (any_of HT_.out (by kernel_rfl)) (fun _ _ _ h=>h) (Or.inr ⟨by rfl,rfl⟩) ?_ ?_;rotate_left
  ·simp only [Act.put,sA,sZ,sS,i64_w,i32_w];rfl
  refine pure_ (i:=7) (N:=some 10) (v:=undef) (a':=?_) #[true,true,true,true,true,true,true,true,false,false,false,false,false,false,false,false,false,false,false,false,false,false,false,false] rfl rfl (any_of HT_.out (by kernel_rfl)) (fun _ _ _ h=>h) (Or.inr ⟨by rfl,rfl⟩) ?_ ?_;rotate_left
  ·simp only [Act.put,sA,sZ,sS,i64_w,i32_w];rfl
  refine pure_ (i:=8) (N:=some 11) (v:=undef) (a':=?_) #[true,true,true,true,true,true,true,true,true,false,false,false,false,false,false,false,false,false,false,false,false,false,false,false] rfl rfl (any_of HT_.out (by kernel_rfl)) (fun _ _ _ h=>h) (Or.inr ⟨by rfl,rfl⟩) ?_ ?_;rotate_left
  ·simp only [Act.put,sA,sZ,sS,i64_w,i32_w];rfl
  refine pure_ (i:=9) (N:=some 12) (v:=?_) (a':=?_) #[true,true,true,true,true,true,true,true,true,true,false,false,false,false,false,false,false,false,false,false,false,false,false,false] rfl rfl (any_of HT_.out (by kernel_rfl)) (fun _ _ _ h=>h) (Or.inl ⟨by rfl,?_⟩) ?_ ?_;rotate_left
  ·intro w';go_simp
   with_reducible rfl
  rotate_left
  ·simp only [Act.put,sA,sZ,sS,i64_w,i32_w];rfl
  refine pure_ (i:=10) (N:=some 13) (v:=?_) (a':=?_) #[true,true,true,true,true,true,true,true,true,true,true,false,false,false,false,false,false,false,false,false,false,false,false,false] rfl rfl (any_of HT_.out (by kernel_rfl)) (fun _ _ _ h=>h) (Or.inl ⟨by rfl,?_⟩) ?_ ?_;rotate_left
  ·intro w';go_simp
   with_reducible rfl
  rotate_left
  ·simp only [Act.put,sA,sZ,sS,i64_w,i32_w];rfl
  refine pure_ (i:=11) (N:=some 14) (v:=undef) (a':=?_) #[true,true,true,true,true,true,true,true,true,true,true,true,false,false,false,false,false,false,false,false,false,false,false,false] rfl rfl (any_of HT_.out (by kernel_rfl)) (fun _ _ _ h=>h) (Or.inr ⟨by rfl,rfl⟩) ?_ ?_;rotate_left
  ·simp only [Act.put,sA,sZ,sS,i64_w,i32_w];rfl
  refine pure_ (i:=12) (N:=some 15) (v:=undef) (a':=?_) #[true,true,true,true,true,true,true,true,true,true,true,true,true,false,false,false,false,false,false,false,false,false,false,false] rfl rfl (any_of HT_.out (by kernel_rfl)) (fun _ _ _ h=>h) (Or.inr ⟨by rfl,rfl⟩) ?_ ?_;rotate_left
  ·simp only [Act.put,sA,sZ,sS,i64_w,i32_w];rfl
  refine pure_ (i:=13) (N:=some 16) (v:=undef) (a':=?_) #[true,true,true,true,true,true,true,true,true,true,true,true,true,true,false,false,false,false,false,false,false,false,false,false] rfl rfl (any_of HT_.out (by kernel_rfl)) (fun _ _ _ h=>h) (Or.inr ⟨by rfl,rfl⟩) ?_ ?_;rotate_left
  ·simp only [Act.put,sA,sZ,sS,i64_w,i32_w];rfl
  refine pure_ (i:=14) (N:=some 17) (v:=?_) (a':=?_) #[true,true,true,true,true,true,true,true,true,true,true,true,true,true,true,false,false,false,false,false,false,false,false,false] rfl rfl (any_of HT_.out (by kernel_rfl)) (fun _ _ _ h=>h) (Or.inl ⟨by rfl,?_⟩) ?_ ?_;rotate_left
  ·intro w';go_simp
   with_reducible rfl
  rotate_left
  ·simp only [Act.put,sA,sZ,sS,i64_w,i32_w];rfl
  refine pure_ (i:=15) (N:=some 18) (v:=?_) (a':=?_) #[true,true,true,true,true,true,true,true,true,true,true,true,true,true,true,true,false,false,false,false,false,false,false,false] rfl rfl (any_of HT_.out (by kernel_rfl)) (fun _ _ _ h=>h) (Or.inl ⟨by rfl,?_⟩) ?_ ?_;rotate_left
  ·intro w';go_simp
   with_reducible rfl
  rotate_left
  ·simp only [Act.put,sA,sZ,sS,i64_w,i32_w];rfl
  refine pure_ (i:=16) (N:=some 19) (v:=undef) (a':=?_) #[true,true,true,true,true,true,true,true,true,true,true,true,true,true,true,true,true,false,false,false,false,false,false,false] rfl rfl (any_of HT_.out (by kernel_rfl)) (fun _ _ _ h=>h) (Or.inr ⟨by rfl,rfl⟩) ?_ ?_;rotate_left
  ·simp only [Act.put,sA,sZ,sS,i64_w,i32_w];rfl
  refine pure_ (i:=17) (N:=some 20) (v:=undef) (a':=?_) #[true,true,true,true,true,true,true,true,true,true,true,true,true,true,true,true,true,true,false,false,false,false,false,false] rfl rfl (any_of HT_.out (by kernel_rfl)) (fun _ _ _ h=>h) (Or.inr ⟨by rfl,rfl⟩) ?_ ?_;rotate_left
  ·simp only [Act.put,sA,sZ,sS,i64_w,i32_w];rfl
  refine pure_ (i:=18) (N:=some 21) (v:=undef) (a':=?_) #[true,true,true,true,true,true,true,true,true,true,true,true,true,true,true,true,true,true,true,false,false,false,false,false] rfl rfl (any_of HT_.out (by kernel_rfl)) (fun _ _ _ h=>h) (Or.inr ⟨by rfl,rfl⟩) ?_ ?_;rotate_left
  ·simp only [Act.put,sA,sZ,sS,i64_w,i32_w];rfl
  refine pure_ (i:=19) (N:=some 22) (v:=undef) (a':=?_) #[true,true,true,true,true,true,true,true,true,true,true,true,true,true,true,true,true,true,true,true,false,false,false,false] rfl rfl (any_of HT_.out (by kernel_rfl)) (fun _ _ _ h=>h) (Or.inr ⟨by rfl,rfl⟩) ?_ ?_;rotate_left
  ·simp only [Act.put,sA,sZ,sS,i64_w,i32_w];rfl
  refine pure_ (i:=20) (N:=some 23) (v:=undef) (a':=?_) #[true,true,true,true,true,true,true,true,true,true,true,true,true,true,true,true,true,true,true,true,true,false,false,false] rfl rfl (any_of HT_.out (by kernel_rfl)) (fun _ _ _ h=>h) (Or.inr ⟨by rfl,rfl⟩) ?_ ?_;rotate_left
  ·simp only [Act.put,sA,sZ,sS,i64_w,i32_w];rfl
  refine pure_ (i:=21) (N:=some 24) (v:=undef) (a':=?_) #[true,true,true,true,true,true,true,true,true,true,true,true,true,true,true,true,true,true,true,true,true,true,false,false] rfl rfl (any_of HT_.out (by kernel_rfl)) (fun _ _ _ h=>h) (Or.inr ⟨by rfl,rfl⟩) ?_ ?_;rotate_left
  ·simp only [Act.put,sA,sZ,sS,i64_w,i32_w];rfl
  refine pure_ (i:=22) (N:=some 25) (v:=?_) (a':=?_) #[true,true,true,true,true,true,true,true,true,true,true,true,true,true,true,true,true,true,true,true,true,true,true,false] rfl rfl (any_of HT_.out (by kernel_rfl)) (fun _ _ _ h=>h) (Or.inl ⟨by rfl,?_⟩) ?_ ?_;rotate_left
  ·intro w';go_simp
   with_reducible rfl
  rotate_left
  ·simp only [Act.put,sA,sZ,sS,i64_w,i32_w];rfl
  refine pure_ (i:=23) (N:=some 2) (v:=?_) (a':=?_) #[true,true,true,true,true,true,true,true,true,true,true,true,true,true,true,true,true,true,true,true,true,true,true,true] rfl rfl (any_of HT_.out (by kernel_rfl)) (fun _ _ _ h=>h) (Or.inl ⟨by rfl,?_⟩) ?_ ?_;rotate_left
  ·intro w';go_simp
   with_reducible rfl
  rotate_left
  ·simp only [Act.put,sA,sZ,sS,i64_w,i32_w];rfl
  refine done_ (done_of HT_.out (by kernel_rfl)) ?_
  try go_wp2
  go_ret
  exact ⟨by first|rfl|(simp [errW_none,errW_some] <;> rfl)|(simp [*,errW_none,errW_some] <;> rfl),by repeat (first|(with_reducible first|exact HB.out|apply below_alloc|apply pw_below_drewN|apply below_drew1|refine below_set ?_ GE776.out)|exact HB.out)⟩


/-! ### spec_l1All: function 103 -/
def spec_l1All.l0:Nat → Int → Int → List Int → Int → Int → Option (Bool)
 | 0,_,_,_,_,_=>none
 | k + 1,x1,x2,x9,x10,x11=>if x11 < x10 then (if 0 ≤ x11 then (if x11 < (x9.length:Int) then ((spec_l1In.f (rd x9 x11) x1 x2).bind fun t726=>(if t726 = true then (spec_l1All.l0 k x1 x2 x9 x10 (wrap64 (x11 + 1))) else (some false))) else (none)) else (none)) else (some true)
def spec_l1All.f (k:Nat) (l0:List Int) (a1:Int) (a2:Int):Option (Bool):=spec_l1All.l0 k a1 a2 l0 (l0.length:Int) 0
theorem spec_l1All.mono_l:∀ k,(∀ y0 y1 y2 y3 y4,LeO (spec_l1All.l0 k y0 y1 y2 y3 y4) (spec_l1All.l0 (k + 1) y0 y1 y2 y3 y4))
 | 0=>fun _ _ _ _ _ r h=>by simp [spec_l1All.l0] at h
 | k + 1=>by
  have ih0:=spec_l1All.mono_l k
  ·intro y0 y1 y2 y3 y4;unfold spec_l1All.l0
   repeat' with_reducible first|exact ih0 _ _ _ _ _|exact LeO.refl _|exact LeO.none _|refine LeO.ite ?_ ?_|refine LeO.bind ?_ (fun _=>?_)
theorem spec_l1All.mono:∀ a0 a1 a2 k,LeO (spec_l1All.f k a0 a1 a2) (spec_l1All.f (k + 1) a0 a1 a2):=by
 intro a0 a1 a2 k;have ih0:=spec_l1All.mono_l k;unfold spec_l1All.f
 repeat' with_reducible first|exact ih0 _ _ _ _ _|exact LeO.refl _|exact LeO.none _|refine LeO.ite ?_ ?_|refine LeO.bind ?_ (fun _=>?_)
set_option maxHeartbeats 8000000 in
set_option maxRecDepth 100000 in
theorem spec_l1All.calls (k:Nat) (A0:Option Addr) (c0:Nat) (l0:List Int) (a1:Int) (a2:Int) (r:Bool) (w:World) (hr0:Kd.C (Kd.int .i64) w A0 l0.length l0) (hc0:l0.length ≤ c0) (h:spec_l1All.f k l0 a1 a2 = some r) :
  Calls Try.prog 103 #[.slice A0 l0.length c0,.int .i64 a1,.int .i64 a2] w fun e w'=>e = .returned (.bool r) ∧ Drawn0 w w':=by
 have HR0:=Aside0.mk hr0;have HC0:=Aside0.mk hc0;clear hr0 hc0;have H:(spec_l1All.l0 k a1 a2 l0 (l0.length:Int) 0) = some r:=h;clear h;have H':=Aside0.mk H;clear H;go_enter Try.func103,Try.ntmps103;go_wp2
 go_loopg [11] k (fun kq v11 w'=>∃ (x11_1:Int),v11 = .int .i64 x11_1 ∧ Aside0 (spec_l1All.l0 kq a1 a2 l0 (l0.length:Int) x11_1 = some r) ∧ Aside0 (kq ≤ k) ∧ Drawn0 w w')
 case atStart=>exact ⟨(0),(by first|rfl|(simp;done)|(simp [*];done)),H',⟨Nat.le_refl _⟩,by repeat (first|exact Drawn0.refl _|apply Drawn0.step)⟩
 case round =>
  clear H'
  try clear c1
  try clear p2
  obtain ⟨x11_1,rfl,HA,HK1,⟨m1,rfl⟩⟩:=hrel
  cases gk with
  | zero=>exact absurd HA.out (by simp [spec_l1All.l0])
  | succ k1 =>
   have H:=HA.out;clear HA;simp only [spec_l1All.l0] at H;by_cases c4:x11_1 < (l0.length:Int)
   ·rw [if_pos c4] at H;have c4b0:decide (x11_1 < (l0.length:Int)) = true:=decide_eq_true c4;clear c4;by_cases c5:0 ≤ x11_1
    ·rw [if_pos c5] at H;have c5b0:decide (0 ≤ x11_1) = true:=decide_eq_true c5;clear c5;by_cases c6:x11_1 < (l0.length:Int)
     ·rw [if_pos c6] at H;have c6b0:decide (x11_1 < (l0.length:Int)) = true:=decide_eq_true c6;clear c6;replace H:=Option.bind_eq_some_iff.mp H;obtain ⟨t726,A70,H⟩:=H;replace H:(if t726 = true then (spec_l1All.l0 k1 a1 a2 l0 (l0.length:Int) (wrap64 (x11_1 + 1))) else (some false)) = some r:=H;have A7:=Aside0.mk A70;clear A70;by_cases c8:t726 = true
      ·subst c8;have H1:(spec_l1All.l0 k1 a1 a2 l0 (l0.length:Int) (wrap64 (x11_1 + 1))) = some r:=by rw [if_pos rfl] at H;exact H
       clear H;have H:=H1;clear H1;have H':=Aside0.mk H;clear H;have p725:0 ≤ (x11_1:Int):=of_decide_eq_true ab;have q725:x11_1 < (l0.length:Int):=of_decide_eq_true ab;obtain ⟨ad725,e725,hx725_0⟩:=Kd.at_int HR0.out x11_1 p725 q725;cases e725
       replace p725:=eq_true p725;replace q725:=eq_true q725;go_wp2_with (first|((with_reducible refine gate_callee (f:=54) rfl ?_);refine goesL_ (some 18) rfl rfl Try.func54 (by kernel_rfl) rfl #[.int .i64 (rd l0 x11_1),.int .i64 a1,.int .i64 a2] rfl mq ?_;(with_reducible refine (spec_l1In.calls (rd l0 x11_1) a1 a2 true _ A7.out).mono ?_);rintro e w' ⟨rfl,⟨nd,rfl⟩⟩;refine ⟨_,rfl,?_⟩))
       go_roundg k1
       case measure=>have:=HK1.out;omega
       case rel=>exact ⟨(wrap64 (x11_1 + 1)),(by first|rfl|(simp;done)|(simp [*];done)),H',⟨by have:=HK1.out;omega⟩,by repeat (first|exact Drawn0.refl _|apply Drawn0.step)⟩
      ·replace c8:=Bool.eq_false_iff.mpr c8;subst c8;have H1:(some false) = some r:=by rw [if_neg (show ¬ (false = true) by decide)] at H;exact H
       clear H;have H:=H1;clear H1;obtain rfl:=Option.some.inj H;have p725:0 ≤ (x11_1:Int):=of_decide_eq_true ab;have q725:x11_1 < (l0.length:Int):=of_decide_eq_true ab;obtain ⟨ad725,e725,hx725_0⟩:=Kd.at_int HR0.out x11_1 p725 q725;cases e725
       replace p725:=eq_true p725;replace q725:=eq_true q725;go_wp2_with (first|((with_reducible refine gate_callee (f:=54) rfl ?_);refine goesL_ (some 18) rfl rfl Try.func54 (by kernel_rfl) rfl #[.int .i64 (rd l0 x11_1),.int .i64 a1,.int .i64 a2] rfl mq ?_;(with_reducible refine (spec_l1In.calls (rd l0 x11_1) a1 a2 false _ A7.out).mono ?_);rintro e w' ⟨rfl,⟨nd,rfl⟩⟩;refine ⟨_,rfl,?_⟩))
       go_ret
       exact ⟨by first|rfl|(simp;done)|(simp [*];done),by repeat (first|exact Drawn0.refl _|apply Drawn0.step)⟩
     ·rw [if_neg c6] at H;exact absurd H (by simp)
    ·rw [if_neg c5] at H;exact absurd H (by simp)
   ·rw [if_neg c4] at H;have c4b0:decide (x11_1 < (l0.length:Int)) = false:=decide_eq_false c4;clear c4;obtain rfl:=Option.some.inj H;go_wp2
    go_ret
    exact ⟨by first|rfl|(simp;done)|(simp [*];done),by repeat (first|exact Drawn0.refl _|apply Drawn0.step)⟩


/-! ### spec_voSum: function 104 -/
def spec_voSum.l0:Nat → Int → List Int → Int → Int → Option (Int)
 | 0,_,_,_,_=>none
 | k + 1,x3,x6,x7,x8=>if x8 < x7 then (if 0 ≤ x8 then (if x8 < (x6.length:Int) then (spec_voSum.l0 k (wrap64 (x3 + (rd x6 x8))) x6 x7 (wrap64 (x8 + 1))) else (none)) else (none)) else (some x3)
def spec_voSum.f (k:Nat) (l0:List Int):Option (Int):=spec_voSum.l0 k 0 l0 (l0.length:Int) 0
theorem spec_voSum.mono_l:∀ k,(∀ y0 y1 y2 y3,LeO (spec_voSum.l0 k y0 y1 y2 y3) (spec_voSum.l0 (k + 1) y0 y1 y2 y3))
 | 0=>fun _ _ _ _ r h=>by simp [spec_voSum.l0] at h
 | k + 1=>by
  have ih0:=spec_voSum.mono_l k
  ·intro y0 y1 y2 y3;unfold spec_voSum.l0
   repeat' with_reducible first|exact ih0 _ _ _ _|exact LeO.refl _|exact LeO.none _|refine LeO.ite ?_ ?_|refine LeO.bind ?_ (fun _=>?_)
theorem spec_voSum.mono:∀ a0 k,LeO (spec_voSum.f k a0) (spec_voSum.f (k + 1) a0):=by
 intro a0 k;have ih0:=spec_voSum.mono_l k;unfold spec_voSum.f
 repeat' with_reducible first|exact ih0 _ _ _ _|exact LeO.refl _|exact LeO.none _|refine LeO.ite ?_ ?_|refine LeO.bind ?_ (fun _=>?_)
set_option maxHeartbeats 8000000 in
set_option maxRecDepth 100000 in
theorem spec_voSum.calls (k:Nat) (A0:Option Addr) (c0:Nat) (l0:List Int) (r:Int) (w:World) (hr0:Kd.C (Kd.int .i64) w A0 l0.length l0) (hc0:l0.length ≤ c0) (h:spec_voSum.f k l0 = some r) :
  Calls Try.prog 104 #[.slice A0 l0.length c0] w fun e w'=>e = .returned (.int .i64 r) ∧ Drawn0 w w':=by
 have HR0:=Aside0.mk hr0;have HC0:=Aside0.mk hc0;clear hr0 hc0;have H:(spec_voSum.l0 k 0 l0 (l0.length:Int) 0) = some r:=h;clear h;have H':=Aside0.mk H;clear H;go_enter Try.func104,Try.ntmps104;go_wp2
 go_loopg [3,8] k (fun kq v3 v8 w'=>∃ (x3_1:Int) (x8_1:Int),v3 = .int .i64 x3_1 ∧ v8 = .int .i64 x8_1 ∧ Aside0 (spec_voSum.l0 kq x3_1 l0 (l0.length:Int) x8_1 = some r) ∧ Aside0 (kq ≤ k) ∧ Drawn0 w w')
 case atStart=>exact ⟨(0),(0),(by first|rfl|(simp;done)|(simp [*];done)),(by first|rfl|(simp;done)|(simp [*];done)),H',⟨Nat.le_refl _⟩,by repeat (first|exact Drawn0.refl _|apply Drawn0.step)⟩
 case round =>
  clear H'
  try clear c1
  obtain ⟨x3_1,x8_1,rfl,rfl,HA,HK1,⟨m1,rfl⟩⟩:=hrel
  cases gk with
  | zero=>exact absurd HA.out (by simp [spec_voSum.l0])
  | succ k1 =>
   have H:=HA.out;clear HA;simp only [spec_voSum.l0] at H;by_cases c2:x8_1 < (l0.length:Int)
   ·rw [if_pos c2] at H;have c2b0:decide (x8_1 < (l0.length:Int)) = true:=decide_eq_true c2;clear c2;by_cases c3:0 ≤ x8_1
    ·rw [if_pos c3] at H;have c3b0:decide (0 ≤ x8_1) = true:=decide_eq_true c3;clear c3;by_cases c4:x8_1 < (l0.length:Int)
     ·rw [if_pos c4] at H;have c4b0:decide (x8_1 < (l0.length:Int)) = true:=decide_eq_true c4;clear c4;have H':=Aside0.mk H;clear H;have p727:0 ≤ (x8_1:Int):=of_decide_eq_true ab;have q727:x8_1 < (l0.length:Int):=of_decide_eq_true ab;obtain ⟨ad727,e727,hx727_0⟩:=Kd.at_int HR0.out x8_1 p727 q727;cases e727
      replace p727:=eq_true p727;replace q727:=eq_true q727;go_wp2
      go_roundg k1
      case measure=>have:=HK1.out;omega
      case rel=>exact ⟨(wrap64 (x3_1 + (rd l0 x8_1))),(wrap64 (x8_1 + 1)),(by first|rfl|(simp;done)|(simp [*];done)),(by first|rfl|(simp;done)|(simp [*];done)),H',⟨by have:=HK1.out;omega⟩,by repeat (first|exact Drawn0.refl _|apply Drawn0.step)⟩
     ·rw [if_neg c4] at H;exact absurd H (by simp)
    ·rw [if_neg c3] at H;exact absurd H (by simp)
   ·rw [if_neg c2] at H;have c2b0:decide (x8_1 < (l0.length:Int)) = false:=decide_eq_false c2;clear c2;obtain rfl:=Option.some.inj H;go_wp2
    go_ret
    exact ⟨by first|rfl|(simp;done)|(simp [*];done),by repeat (first|exact Drawn0.refl _|apply Drawn0.step)⟩


/-! ### spec_voGood: function 63 -/
def spec_voGood.j0:Nat → Bool → Int → List Int → Option (Bool)
 | 0,_,_,_=>none
 | k + 1,x13,x729000,x729001=>if x13 = true then (some false) else ((spec_voSum.f k x729001).bind fun t731=>((spec_l1In.f x729000 1 t731).bind fun t732=>(some t732)))
def spec_voGood.f (k:Nat) (a0_0:Int) (l0_1:List Int):Option (Bool):=(spec_l1In.f (l0_1.length:Int) 1 9).bind fun t729=>(if t729 = true then ((spec_l1All.f k l0_1 0 1000).bind fun t730=>(spec_voGood.j0 k (!t730) a0_0 l0_1)) else (spec_voGood.j0 k true a0_0 l0_1))
theorem spec_voGood.mono_l:∀ k,(∀ y0 y1 y2,LeO (spec_voGood.j0 k y0 y1 y2) (spec_voGood.j0 (k + 1) y0 y1 y2))
 | 0=>fun _ _ _ r h=>by simp [spec_voGood.j0] at h
 | k + 1=>by
  have ih0:=spec_voGood.mono_l k
  ·intro y0 y1 y2;unfold spec_voGood.j0
   repeat' with_reducible first|exact ih0 _ _ _|exact spec_l1All.mono _ _ _ _|exact spec_voSum.mono _ _|exact LeO.refl _|exact LeO.none _|refine LeO.ite ?_ ?_|refine LeO.bind ?_ (fun _=>?_)
theorem spec_voGood.mono:∀ a0 a1 k,LeO (spec_voGood.f k a0 a1) (spec_voGood.f (k + 1) a0 a1):=by
 intro a0 a1 k;have ih0:=spec_voGood.mono_l k;unfold spec_voGood.f
 repeat' with_reducible first|exact ih0 _ _ _|exact spec_l1All.mono _ _ _ _|exact spec_voSum.mono _ _|exact LeO.refl _|exact LeO.none _|refine LeO.ite ?_ ?_|refine LeO.bind ?_ (fun _=>?_)
set_option maxHeartbeats 8000000 in
set_option maxRecDepth 100000 in
theorem spec_voGood.calls (k:Nat) (a0_0:Int) (A0_1:Option Addr) (c0_1:Nat) (l0_1:List Int) (r:Bool) (w:World) (hr0_1:Kd.C (Kd.int .i64) w A0_1 l0_1.length l0_1) (hc0_1:l0_1.length ≤ c0_1) (h:spec_voGood.f k a0_0 l0_1 = some r) :
  Calls Try.prog 63 #[.agg #[.int .i64 a0_0,.slice A0_1 l0_1.length c0_1]] w fun e w'=>e = .returned (.bool r) ∧ Below w.heap.size w w':=by
 have hu46:=Try.underlying46;have HR0_1:=Aside0.mk hr0_1;have HC0_1:=Aside0.mk hc0_1;clear hr0_1 hc0_1;have HB:=Aside0.mk (Below.refl w.heap.size w);have H:((spec_l1In.f (l0_1.length:Int) 1 9).bind fun t729=>(if t729 = true then ((spec_l1All.f k l0_1 0 1000).bind fun t730=>(spec_voGood.j0 k (!t730) a0_0 l0_1)) else (spec_voGood.j0 k true a0_0 l0_1))) = some r:=h;clear h;have HC2:=Aside0.mk H;clear H;go_enter Try.func63,Try.ntmps63;go_upto_region 1 with (first|((with_reducible refine gate_dst (N:=1) rfl ?_);refine box_event ?hg (N:=1) ?hd (cs:=#[.int .i64 a0_0,.slice A0_1 l0_1.length c0_1]) (t:=46) ?hr ?_;(case hd=>rfl);(case hg=>rfl);(case hr=>first|(go_simp;done)|(go_simp;rfl));intro gb728 hg w3 hbox hb;have n0_:=Aside0.mk (below_step bw hb);have n1_:=Aside0.mk (hbox);have n2_:=Aside0.mk ((by rw [hg];exact (below_size bw):w.heap.size ≤ gb728));have n3_:=Aside0.mk ((by rw [hg];exact (below_size bw):w.heap.size ≤ gb728));clear HB;have HB:=n0_;have BK728:=n1_;have GW728:=n2_;have GE728:=n3_;clear n0_ n1_ n2_ n3_;clear hb hbox hg))
 repeat (go_quiet (first|((with_reducible refine gate_dst (N:=1) rfl ?_);refine box_event ?hg (N:=1) ?hd (cs:=#[.int .i64 a0_0,.slice A0_1 l0_1.length c0_1]) (t:=46) ?hr ?_;(case hd=>rfl);(case hg=>rfl);(case hr=>first|(go_simp;done)|(go_simp;rfl));intro gb728 hg w3 hbox hb;have n0_:=Aside0.mk (below_step bw hb);have n1_:=Aside0.mk (hbox);have n2_:=Aside0.mk ((by rw [hg];exact (below_size bw):w.heap.size ≤ gb728));have n3_:=Aside0.mk ((by rw [hg];exact (below_size bw):w.heap.size ≤ gb728));clear HB;have HB:=n0_;have BK728:=n1_;have GW728:=n2_;have GE728:=n3_;clear n0_ n1_ n2_ n3_;clear hb hbox hg));go_upto_region 1 with (first|((with_reducible refine gate_dst (N:=1) rfl ?_);refine box_event ?hg (N:=1) ?hd (cs:=#[.int .i64 a0_0,.slice A0_1 l0_1.length c0_1]) (t:=46) ?hr ?_;(case hd=>rfl);(case hg=>rfl);(case hr=>first|(go_simp;done)|(go_simp;rfl));intro gb728 hg w3 hbox hb;have n0_:=Aside0.mk (below_step bw hb);have n1_:=Aside0.mk (hbox);have n2_:=Aside0.mk ((by rw [hg];exact (below_size bw):w.heap.size ≤ gb728));have n3_:=Aside0.mk ((by rw [hg];exact (below_size bw):w.heap.size ≤ gb728));clear HB;have HB:=n0_;have BK728:=n1_;have GW728:=n2_;have GE728:=n3_;clear n0_ n1_ n2_ n3_;clear hb hbox hg)))
 (try simp only [Act.put,sA,sZ,sS])
 go_cut [13] (fun v13 wc=>∃ (kq:Nat) (x13_1:Bool),v13 = .bool x13_1 ∧ Aside0 (spec_voGood.j0 kq x13_1 a0_0 l0_1 = some r) ∧ Aside0 (kq ≤ k) ∧ Aside0 (wc.heap[gb728]? = some (.cells #[.int .i64 a0_0,(.slice A0_1 l0_1.length c0_1)] 46 (0,0))) ∧ Aside0 (Below w.heap.size w wc))
 case first =>
  have H:=HC2.out;clear HC2;replace H:=Option.bind_eq_some_iff.mp H;obtain ⟨t729,A40,H⟩:=H;replace H:(if t729 = true then ((spec_l1All.f k l0_1 0 1000).bind fun t730=>(spec_voGood.j0 k (!t730) a0_0 l0_1)) else (spec_voGood.j0 k true a0_0 l0_1)) = some r:=H;have A4:=Aside0.mk A40;clear A40;by_cases c5:t729 = true
  ·subst c5;have H1:((spec_l1All.f k l0_1 0 1000).bind fun t730=>(spec_voGood.j0 k (!t730) a0_0 l0_1)) = some r:=by rw [if_pos rfl] at H;exact H
   clear H;have H:=H1;clear H1;replace H:=Option.bind_eq_some_iff.mp H;obtain ⟨t730,A60,H⟩:=H;replace H:(spec_voGood.j0 k (!t730) a0_0 l0_1) = some r:=H;have A6:=Aside0.mk A60;clear A60;have H':=Aside0.mk H;clear H;have hcz7_0:w3.cell? ⟨gb728,0,none⟩ = some (.int .i64 a0_0):=(blk_cell BK728.out 0).trans rfl;have hcz7_1:w3.cell? ⟨gb728,1,none⟩ = some (.slice A0_1 l0_1.length c0_1):=(blk_cell BK728.out 1).trans rfl;have hfz7_0:=blk_frozen BK728.out 0;have hfz7_1:=blk_frozen BK728.out 1;go_wp2_with (first|(go_at_call 54;(with_reducible refine (spec_l1In.calls (l0_1.length:Int) 1 9 true _ A4.out).mono ?_);rintro e w' ⟨rfl,⟨nd,rfl⟩⟩;(try first|exact ⟨rfl,_,World.drewN_drewN _ _ _⟩|exact ⟨rfl,_,Eq.trans (World.drewN_drewN _ _ _) (congrArg (World.drewN _) (Nat.add_assoc _ _ _))⟩))|(go_at_call 103;(with_reducible refine (spec_l1All.calls k _ _ l0_1 0 1000 t730 _ ?side1 ?side2 A6.out).mono ?_);(case side1=>repeat (first|exact (Kd.C_below HR0_1.out bw)|(with_reducible refine Kd.C_alloc ?_ _)|(with_reducible refine Kd.C_drewN ?_ _)|(with_reducible refine Kd.C_drew ?_)));(case side2=>exact HC0_1.out);rintro e w' ⟨rfl,⟨nd,rfl⟩⟩;(try first|exact ⟨rfl,_,World.drewN_drewN _ _ _⟩|exact ⟨rfl,_,Eq.trans (World.drewN_drewN _ _ _) (congrArg (World.drewN _) (Nat.add_assoc _ _ _))⟩)))
   repeat (go_quiet (first|(go_at_call 54;(with_reducible refine (spec_l1In.calls (l0_1.length:Int) 1 9 true _ A4.out).mono ?_);rintro e w' ⟨rfl,⟨nd,rfl⟩⟩;(try first|exact ⟨rfl,_,World.drewN_drewN _ _ _⟩|exact ⟨rfl,_,Eq.trans (World.drewN_drewN _ _ _) (congrArg (World.drewN _) (Nat.add_assoc _ _ _))⟩))|(go_at_call 103;(with_reducible refine (spec_l1All.calls k _ _ l0_1 0 1000 t730 _ ?side1 ?side2 A6.out).mono ?_);(case side1=>repeat (first|exact (Kd.C_below HR0_1.out bw)|(with_reducible refine Kd.C_alloc ?_ _)|(with_reducible refine Kd.C_drewN ?_ _)|(with_reducible refine Kd.C_drew ?_)));(case side2=>exact HC0_1.out);rintro e w' ⟨rfl,⟨nd,rfl⟩⟩;(try first|exact ⟨rfl,_,World.drewN_drewN _ _ _⟩|exact ⟨rfl,_,Eq.trans (World.drewN_drewN _ _ _) (congrArg (World.drewN _) (Nat.add_assoc _ _ _))⟩)));try go_wp2_with (first|(go_at_call 54;(with_reducible refine (spec_l1In.calls (l0_1.length:Int) 1 9 true _ A4.out).mono ?_);rintro e w' ⟨rfl,⟨nd,rfl⟩⟩;(try first|exact ⟨rfl,_,World.drewN_drewN _ _ _⟩|exact ⟨rfl,_,Eq.trans (World.drewN_drewN _ _ _) (congrArg (World.drewN _) (Nat.add_assoc _ _ _))⟩))|(go_at_call 103;(with_reducible refine (spec_l1All.calls k _ _ l0_1 0 1000 t730 _ ?side1 ?side2 A6.out).mono ?_);(case side1=>repeat (first|exact (Kd.C_below HR0_1.out bw)|(with_reducible refine Kd.C_alloc ?_ _)|(with_reducible refine Kd.C_drewN ?_ _)|(with_reducible refine Kd.C_drew ?_)));(case side2=>exact HC0_1.out);rintro e w' ⟨rfl,⟨nd,rfl⟩⟩;(try first|exact ⟨rfl,_,World.drewN_drewN _ _ _⟩|exact ⟨rfl,_,Eq.trans (World.drewN_drewN _ _ _) (congrArg (World.drewN _) (Nat.add_assoc _ _ _))⟩))))
   go_meet
   case rel=>exact ⟨_,(!t730),(by first|rfl|(simp;done)|(simp [*];done)),H',⟨by first|omega|exact Nat.le_refl _⟩,⟨by (with_reducible repeat (first|refine blk_drewN ?_ _|refine blk_drew ?_|refine blk_alloc ?_ _));exact BK728.out⟩,⟨by repeat (first|(with_reducible first|exact HB.out|apply below_alloc|apply pw_below_drewN|apply below_drew1|refine below_set ?_ GE728.out)|exact HB.out)⟩⟩
  ·replace c5:=Bool.eq_false_iff.mpr c5;subst c5;have H1:(spec_voGood.j0 k true a0_0 l0_1) = some r:=by rw [if_neg (show ¬ (false = true) by decide)] at H;exact H
   clear H;have H:=H1;clear H1;have H':=Aside0.mk H;clear H;have hcz8_0:w3.cell? ⟨gb728,0,none⟩ = some (.int .i64 a0_0):=(blk_cell BK728.out 0).trans rfl;have hcz8_1:w3.cell? ⟨gb728,1,none⟩ = some (.slice A0_1 l0_1.length c0_1):=(blk_cell BK728.out 1).trans rfl;have hfz8_0:=blk_frozen BK728.out 0;have hfz8_1:=blk_frozen BK728.out 1;go_wp2_with (first|(go_at_call 54;(with_reducible refine (spec_l1In.calls (l0_1.length:Int) 1 9 false _ A4.out).mono ?_);rintro e w' ⟨rfl,⟨nd,rfl⟩⟩;(try first|exact ⟨rfl,_,World.drewN_drewN _ _ _⟩|exact ⟨rfl,_,Eq.trans (World.drewN_drewN _ _ _) (congrArg (World.drewN _) (Nat.add_assoc _ _ _))⟩)))
   repeat (go_quiet (first|(go_at_call 54;(with_reducible refine (spec_l1In.calls (l0_1.length:Int) 1 9 false _ A4.out).mono ?_);rintro e w' ⟨rfl,⟨nd,rfl⟩⟩;(try first|exact ⟨rfl,_,World.drewN_drewN _ _ _⟩|exact ⟨rfl,_,Eq.trans (World.drewN_drewN _ _ _) (congrArg (World.drewN _) (Nat.add_assoc _ _ _))⟩)));try go_wp2_with (first|(go_at_call 54;(with_reducible refine (spec_l1In.calls (l0_1.length:Int) 1 9 false _ A4.out).mono ?_);rintro e w' ⟨rfl,⟨nd,rfl⟩⟩;(try first|exact ⟨rfl,_,World.drewN_drewN _ _ _⟩|exact ⟨rfl,_,Eq.trans (World.drewN_drewN _ _ _) (congrArg (World.drewN _) (Nat.add_assoc _ _ _))⟩))))
   go_meet
   case rel=>exact ⟨_,(true),(by first|rfl|(simp;done)|(simp [*];done)),H',⟨by first|omega|exact Nat.le_refl _⟩,⟨by (with_reducible repeat (first|refine blk_drewN ?_ _|refine blk_drew ?_|refine blk_alloc ?_ _));exact BK728.out⟩,⟨by repeat (first|(with_reducible first|exact HB.out|apply below_alloc|apply pw_below_drewN|apply below_drew1|refine below_set ?_ GE728.out)|exact HB.out)⟩⟩
 case rest =>
  clear HC2
  try clear p2
  try clear c5
  try clear c6
  try clear hcz7_0
  try clear hcz7_1
  try clear hcz8_0
  try clear hcz8_1
  try clear hfz7_0
  try clear hfz7_1
  try clear hfz8_0
  try clear hfz8_1
  obtain ⟨kq,x13_1,rfl,HA,HJ1,BK728,HB⟩:=hcut
  cases kq with
  | zero=>exact absurd HA.out (by simp [spec_voGood.j0])
  | succ kj1 =>
   have H:=HA.out;clear HA;simp only [spec_voGood.j0] at H;by_cases c9:x13_1 = true
   ·subst c9;have H1:(some false) = some r:=by rw [if_pos rfl] at H;exact H
    clear H;have H:=H1;clear H1;obtain rfl:=Option.some.inj H;go_wp2
    repeat (go_quiet (fail);try go_wp2)
    go_ret
    exact ⟨by first|rfl|(simp [errW_none,errW_some] <;> rfl)|(simp [*,errW_none,errW_some] <;> rfl),by repeat (first|(with_reducible first|exact HB.out|apply below_alloc|apply pw_below_drewN|apply below_drew1|refine below_set ?_ GE728.out)|exact HB.out)⟩
   ·replace c9:=Bool.eq_false_iff.mpr c9;subst c9;have H1:((spec_voSum.f kj1 l0_1).bind fun t731=>((spec_l1In.f a0_0 1 t731).bind fun t732=>(some t732))) = some r:=by rw [if_neg (show ¬ (false = true) by decide)] at H;exact H
    clear H;have H:=H1;clear H1;replace H:=Option.bind_eq_some_iff.mp H;obtain ⟨t731,A100,H⟩:=H;replace H:((spec_l1In.f a0_0 1 t731).bind fun t732=>(some t732)) = some r:=H;have A10:=Aside0.mk A100;clear A100;replace H:=Option.bind_eq_some_iff.mp H;obtain ⟨t732,A110,H⟩:=H;replace H:(some t732) = some r:=H;have A11:=Aside0.mk A110;clear A110;obtain rfl:=Option.some.inj H;have hcz12_0:wc.cell? ⟨gb728,0,none⟩ = some (.int .i64 a0_0):=(blk_cell BK728.out 0).trans rfl;have hcz12_1:wc.cell? ⟨gb728,1,none⟩ = some (.slice A0_1 l0_1.length c0_1):=(blk_cell BK728.out 1).trans rfl;have hfz12_0:=blk_frozen BK728.out 0;have hfz12_1:=blk_frozen BK728.out 1;go_wp2_with (first|(go_at_call 104;(with_reducible refine (spec_voSum.calls kj1 _ _ l0_1 t731 _ ?side1 ?side2 A10.out).mono ?_);(case side1=>repeat (first|exact (Kd.C_below HR0_1.out HB.out)|(with_reducible refine Kd.C_alloc ?_ _)|(with_reducible refine Kd.C_drewN ?_ _)|(with_reducible refine Kd.C_drew ?_)));(case side2=>exact HC0_1.out);rintro e w' ⟨rfl,⟨nd,rfl⟩⟩;(try first|exact ⟨rfl,_,World.drewN_drewN _ _ _⟩|exact ⟨rfl,_,Eq.trans (World.drewN_drewN _ _ _) (congrArg (World.drewN _) (Nat.add_assoc _ _ _))⟩))|(go_at_call 54;(with_reducible refine (spec_l1In.calls a0_0 1 t731 t732 _ A11.out).mono ?_);rintro e w' ⟨rfl,⟨nd,rfl⟩⟩;(try first|exact ⟨rfl,_,World.drewN_drewN _ _ _⟩|exact ⟨rfl,_,Eq.trans (World.drewN_drewN _ _ _) (congrArg (World.drewN _) (Nat.add_assoc _ _ _))⟩)))
    repeat (go_quiet (first|(go_at_call 104;(with_reducible refine (spec_voSum.calls kj1 _ _ l0_1 t731 _ ?side1 ?side2 A10.out).mono ?_);(case side1=>repeat (first|exact (Kd.C_below HR0_1.out HB.out)|(with_reducible refine Kd.C_alloc ?_ _)|(with_reducible refine Kd.C_drewN ?_ _)|(with_reducible refine Kd.C_drew ?_)));(case side2=>exact HC0_1.out);rintro e w' ⟨rfl,⟨nd,rfl⟩⟩;(try first|exact ⟨rfl,_,World.drewN_drewN _ _ _⟩|exact ⟨rfl,_,Eq.trans (World.drewN_drewN _ _ _) (congrArg (World.drewN _) (Nat.add_assoc _ _ _))⟩))|(go_at_call 54;(with_reducible refine (spec_l1In.calls a0_0 1 t731 t732 _ A11.out).mono ?_);rintro e w' ⟨rfl,⟨nd,rfl⟩⟩;(try first|exact ⟨rfl,_,World.drewN_drewN _ _ _⟩|exact ⟨rfl,_,Eq.trans (World.drewN_drewN _ _ _) (congrArg (World.drewN _) (Nat.add_assoc _ _ _))⟩)));try go_wp2_with (first|(go_at_call 104;(with_reducible refine (spec_voSum.calls kj1 _ _ l0_1 t731 _ ?side1 ?side2 A10.out).mono ?_);(case side1=>repeat (first|exact (Kd.C_below HR0_1.out HB.out)|(with_reducible refine Kd.C_alloc ?_ _)|(with_reducible refine Kd.C_drewN ?_ _)|(with_reducible refine Kd.C_drew ?_)));(case side2=>exact HC0_1.out);rintro e w' ⟨rfl,⟨nd,rfl⟩⟩;(try first|exact ⟨rfl,_,World.drewN_drewN _ _ _⟩|exact ⟨rfl,_,Eq.trans (World.drewN_drewN _ _ _) (congrArg (World.drewN _) (Nat.add_assoc _ _ _))⟩))|(go_at_call 54;(with_reducible refine (spec_l1In.calls a0_0 1 t731 t732 _ A11.out).mono ?_);rintro e w' ⟨rfl,⟨nd,rfl⟩⟩;(try first|exact ⟨rfl,_,World.drewN_drewN _ _ _⟩|exact ⟨rfl,_,Eq.trans (World.drewN_drewN _ _ _) (congrArg (World.drewN _) (Nat.add_assoc _ _ _))⟩))))
    go_ret
    exact ⟨by first|rfl|(simp [errW_none,errW_some] <;> rfl)|(simp [*,errW_none,errW_some] <;> rfl),by repeat (first|(with_reducible first|exact HB.out|apply below_alloc|apply pw_below_drewN|apply below_drew1|refine below_set ?_ GE728.out)|exact HB.out)⟩


/-! ### laws_szCommittee: function 24 -/
def laws_szCommittee.f (a0_0:Int) (l0_1:List Int) (a1:Int):Option (Int):=(laws_szIntS.f l0_1 a1).bind fun t724=>(if t724 < 0 then (some (-1)) else (some t724))
set_option maxHeartbeats 8000000 in
set_option maxRecDepth 100000 in
theorem laws_szCommittee.calls (a0_0:Int) (A0_1:Option Addr) (c0_1:Nat) (l0_1:List Int) (a1:Int) (r:Int) (w:World) (hr0_1:Kd.C (Kd.int .i64) w A0_1 l0_1.length l0_1) (hc0_1:l0_1.length ≤ c0_1) (h:laws_szCommittee.f a0_0 l0_1 a1 = some r) :
  Calls Try.prog 24 #[.agg #[.int .i64 a0_0,.slice A0_1 l0_1.length c0_1],.int .i64 a1] w fun e w'=>e = .returned (.int .i64 r) ∧ Below w.heap.size w w':=by
 have hu42:=Try.underlying42;have HR0_1:=Aside0.mk hr0_1;have HC0_1:=Aside0.mk hc0_1;clear hr0_1 hc0_1;have HB:=Aside0.mk (Below.refl w.heap.size w);have H:((laws_szIntS.f l0_1 a1).bind fun t724=>(if t724 < 0 then (some (-1)) else (some t724))) = some r:=h;clear h;replace H:=Option.bind_eq_some_iff.mp H;obtain ⟨t724,A30,H⟩:=H;replace H:(if t724 < 0 then (some (-1)) else (some t724)) = some r:=H;have A3:=Aside0.mk A30;clear A30;by_cases c4:t724 < 0
 ·rw [if_pos c4] at H;have c4b0:decide (t724 < 0) = true:=decide_eq_true c4;clear c4;obtain rfl:=Option.some.inj H;go_enter Try.func24,Try.ntmps24;go_wp2_with (first|((with_reducible refine gate_dst (N:=2) rfl ?_);refine box_event ?hg (N:=2) ?hd (cs:=#[.int .i64 a0_0,.slice A0_1 l0_1.length c0_1]) (t:=42) ?hr ?_;(case hd=>rfl);(case hg=>rfl);(case hr=>first|(go_simp;done)|(go_simp;rfl));intro gb723 hg w5 hbox hb;have n0_:=Aside0.mk (below_step bw hb);have n1_:=Aside0.mk (hbox);have n2_:=Aside0.mk ((by rw [hg];exact (below_size bw):w.heap.size ≤ gb723));have n3_:=Aside0.mk ((by rw [hg];exact (below_size bw):w.heap.size ≤ gb723));clear HB;have HB:=n0_;have BK723:=n1_;have GW723:=n2_;have GE723:=n3_;clear n0_ n1_ n2_ n3_;clear hb hbox hg;have hcz6_0:w5.cell? ⟨gb723,0,none⟩ = some (.int .i64 a0_0):=(blk_cell BK723.out 0).trans rfl;have hcz6_1:w5.cell? ⟨gb723,1,none⟩ = some (.slice A0_1 l0_1.length c0_1):=(blk_cell BK723.out 1).trans rfl;have hfz6_0:=blk_frozen BK723.out 0;have hfz6_1:=blk_frozen BK723.out 1)|((with_reducible refine gate_callee (f:=62) rfl ?_);refine goesL_ (some 8) rfl rfl Try.func62 (by kernel_rfl) rfl #[.slice A0_1 l0_1.length c0_1,.int .i64 a1] rfl mq ?_;(with_reducible refine (laws_szIntS.calls _ _ l0_1 a1 t724 _ ?side1 ?side2 A3.out).mono ?_);(case side1=>repeat (first|exact (Kd.C_below HR0_1.out HB.out)|(with_reducible refine Kd.C_alloc ?_ _)|(with_reducible refine Kd.C_drewN ?_ _)|(with_reducible refine Kd.C_drew ?_)));(case side2=>exact HC0_1.out);rintro e w' ⟨rfl,⟨nd,rfl⟩⟩;refine ⟨_,rfl,?_⟩))
  go_ret
  exact ⟨by first|rfl|(simp [errW_none,errW_some] <;> rfl)|(simp [*,errW_none,errW_some] <;> rfl),by repeat (first|(with_reducible first|exact HB.out|apply below_alloc|apply pw_below_drewN|apply below_drew1|refine below_set ?_ GE723.out)|exact HB.out)⟩
 ·rw [if_neg c4] at H;have c4b0:decide (t724 < 0) = false:=decide_eq_false c4;clear c4;obtain rfl:=Option.some.inj H;go_enter Try.func24,Try.ntmps24;go_wp2_with (first|((with_reducible refine gate_dst (N:=2) rfl ?_);refine box_event ?hg (N:=2) ?hd (cs:=#[.int .i64 a0_0,.slice A0_1 l0_1.length c0_1]) (t:=42) ?hr ?_;(case hd=>rfl);(case hg=>rfl);(case hr=>first|(go_simp;done)|(go_simp;rfl));intro gb723 hg w7 hbox hb;have n0_:=Aside0.mk (below_step bw hb);have n1_:=Aside0.mk (hbox);have n2_:=Aside0.mk ((by rw [hg];exact (below_size bw):w.heap.size ≤ gb723));have n3_:=Aside0.mk ((by rw [hg];exact (below_size bw):w.heap.size ≤ gb723));clear HB;have HB:=n0_;have BK723:=n1_;have GW723:=n2_;have GE723:=n3_;clear n0_ n1_ n2_ n3_;clear hb hbox hg;have hcz8_0:w7.cell? ⟨gb723,0,none⟩ = some (.int .i64 a0_0):=(blk_cell BK723.out 0).trans rfl;have hcz8_1:w7.cell? ⟨gb723,1,none⟩ = some (.slice A0_1 l0_1.length c0_1):=(blk_cell BK723.out 1).trans rfl;have hfz8_0:=blk_frozen BK723.out 0;have hfz8_1:=blk_frozen BK723.out 1)|((with_reducible refine gate_callee (f:=62) rfl ?_);refine goesL_ (some 8) rfl rfl Try.func62 (by kernel_rfl) rfl #[.slice A0_1 l0_1.length c0_1,.int .i64 a1] rfl mq ?_;(with_reducible refine (laws_szIntS.calls _ _ l0_1 a1 t724 _ ?side1 ?side2 A3.out).mono ?_);(case side1=>repeat (first|exact (Kd.C_below HR0_1.out HB.out)|(with_reducible refine Kd.C_alloc ?_ _)|(with_reducible refine Kd.C_drewN ?_ _)|(with_reducible refine Kd.C_drew ?_)));(case side2=>exact HC0_1.out);rintro e w' ⟨rfl,⟨nd,rfl⟩⟩;refine ⟨_,rfl,?_⟩))
  go_ret
  exact ⟨by first|rfl|(simp [errW_none,errW_some] <;> rfl)|(simp [*,errW_none,errW_some] <;> rfl),by repeat (first|(with_reducible first|exact HB.out|apply below_alloc|apply pw_below_drewN|apply below_drew1|refine below_set ?_ GE723.out)|exact HB.out)⟩


/-! ### laws_toCommittee: function 26 -/
def laws_toCommittee.f (k:Nat) (a0_0:Int) (l0_1:List Int):Option (Int × List Int):=(laws_toIntS.f k l0_1).bind fun t772=>(some (a0_0,t772))
theorem laws_toCommittee.mono:∀ a0 a1 k,LeO (laws_toCommittee.f k a0 a1) (laws_toCommittee.f (k + 1) a0 a1):=by
 intro a0 a1 k;unfold laws_toCommittee.f
 repeat' with_reducible first|exact laws_toIntS.mono _ _|exact LeO.refl _|exact LeO.none _|refine LeO.ite ?_ ?_|refine LeO.bind ?_ (fun _=>?_)
set_option maxHeartbeats 8000000 in
set_option maxRecDepth 100000 in
theorem laws_toCommittee.calls (k:Nat) (a0_0:Int) (A0_1:Option Addr) (c0_1:Nat) (l0_1:List Int) (r1:Int) (r2:List Int) (w:World) (hr0_1:Kd.C (Kd.int .i64) w A0_1 l0_1.length l0_1) (hc0_1:l0_1.length ≤ c0_1) (h:laws_toCommittee.f k a0_0 l0_1 = some (r1,r2)) :
  Calls Try.prog 26 #[.agg #[.int .i64 a0_0,.slice A0_1 l0_1.length c0_1]] w fun e w'=>∃ v1_:Value,e = .returned (.agg #[.int .i64 r1,v1_]) ∧ Kd.R (Kd.int .i64) 3 w' w.heap.size (fun _=>True) v1_ r2 ∧ Below w.heap.size w w':=by
 have hu42:=Try.underlying42;have hu46:=Try.underlying46;have HR0_1:=Aside0.mk hr0_1;have HC0_1:=Aside0.mk hc0_1;clear hr0_1 hc0_1;have HB:=Aside0.mk (Below.refl w.heap.size w);have H:((laws_toIntS.f k l0_1).bind fun t772=>(some (a0_0,t772))) = some (r1,r2):=h;clear h;replace H:=Option.bind_eq_some_iff.mp H;obtain ⟨t772,A20,H⟩:=H;replace H:(some (a0_0,t772)) = some (r1,r2):=H;have A2:=Aside0.mk A20;clear A20;simp only [Option.some.injEq,Prod.mk.injEq] at H;obtain ⟨rfl,rfl⟩:=H;go_enter Try.func26,Try.ntmps26;go_wp2_with (first|((with_reducible refine gate_dst (N:=1) rfl ?_);refine box_event ?hg (N:=1) ?hd (cs:=#[.int .i64 a0_0,.slice A0_1 l0_1.length c0_1]) (t:=42) ?hr ?_;(case hd=>rfl);(case hg=>rfl);(case hr=>first|(go_simp;done)|(go_simp;rfl));intro gb769 hg w3 hbox hb;have n0_:=Aside0.mk (below_step bw hb);have n1_:=Aside0.mk (hbox);have n2_:=Aside0.mk ((by rw [hg];exact (below_size bw):w.heap.size ≤ gb769));have n3_:=Aside0.mk ((by rw [hg];exact (below_size bw):w.heap.size ≤ gb769));clear HB;have HB:=n0_;have BK769:=n1_;have GW769:=n2_;have GE769:=n3_;clear n0_ n1_ n2_ n3_;clear hb hbox hg)|((with_reducible refine gate_dst (N:=2) rfl ?_);refine box_event ?hg (N:=2) ?hd (cs:=#[.int .i64 0,.slice none 0 0]) (t:=46) ?hr ?_;(case hd=>rfl);(case hg=>rfl);(case hr=>first|(go_simp;done)|(go_simp;rfl));intro gb770 hg w4 hbox hb;have n0_:=Aside0.mk (blk_below (g:=gb769) (o:=.cells #[.int .i64 a0_0,.slice A0_1 l0_1.length c0_1] 42 (0,0)) bk hb);have n1_:=Aside0.mk (below_step bw hb);have n2_:=Aside0.mk (hbox);have n3_:=Aside0.mk ((by rw [hg];exact (below_size bw):w.heap.size ≤ gb770));have n4_:=Aside0.mk ((by rw [hg];exact (below_size bw):w.heap.size ≤ gb770));have n5_:=Aside0.mk ((by rw [hg];exact Nat.ne_of_lt (blk_lt (g:=gb769) (o:=.cells #[.int .i64 a0_0,.slice A0_1 l0_1.length c0_1] 42 (0,0)) bk):gb769 ≠ gb770));have n6_:=Aside0.mk ((by rw [hg];exact Nat.ne_of_gt (blk_lt (g:=gb769) (o:=.cells #[.int .i64 a0_0,.slice A0_1 l0_1.length c0_1] 42 (0,0)) bk):gb770 ≠ gb769));clear BK769;clear HB;have BK769:=n0_;have HB:=n1_;have BK770:=n2_;have GW770:=n3_;have GE770:=n4_;have NB769_770:=n5_;have NB770_769:=n6_;clear n0_ n1_ n2_ n3_ n4_ n5_ n6_;clear hb hbox hg)|((with_reducible refine gate_dst (N:=3) rfl ?_);refine box_event ?hg (N:=3) ?hd (cs:=#[.int .i64 0,.slice none 0 0]) (t:=46) ?hr ?_;(case hd=>rfl);(case hg=>rfl);(case hr=>first|(go_simp;done)|(go_simp;rfl));intro gb771 hg w5 hbox hb;have n0_:=Aside0.mk (blk_below (g:=gb769) (o:=.cells #[.int .i64 a0_0,.slice A0_1 l0_1.length c0_1] 42 (0,0)) bk hb);have n1_:=Aside0.mk (blk_below (g:=gb770) (o:=.cells #[.int .i64 0,.slice none 0 0] 46 (0,0)) bk hb);have n2_:=Aside0.mk (below_step bw hb);have n3_:=Aside0.mk (hbox);have n4_:=Aside0.mk ((by rw [hg];exact (below_size bw):w.heap.size ≤ gb771));have n5_:=Aside0.mk ((by rw [hg];exact (below_size bw):w.heap.size ≤ gb771));have n6_:=Aside0.mk ((by rw [hg];exact Nat.ne_of_lt (blk_lt (g:=gb769) (o:=.cells #[.int .i64 a0_0,.slice A0_1 l0_1.length c0_1] 42 (0,0)) bk):gb769 ≠ gb771));have n7_:=Aside0.mk ((by rw [hg];exact Nat.ne_of_gt (blk_lt (g:=gb769) (o:=.cells #[.int .i64 a0_0,.slice A0_1 l0_1.length c0_1] 42 (0,0)) bk):gb771 ≠ gb769));have n8_:=Aside0.mk ((by rw [hg];exact Nat.ne_of_lt (blk_lt (g:=gb770) (o:=.cells #[.int .i64 0,.slice none 0 0] 46 (0,0)) bk):gb770 ≠ gb771));have n9_:=Aside0.mk ((by rw [hg];exact Nat.ne_of_gt (blk_lt (g:=gb770) (o:=.cells #[.int .i64 0,.slice none 0 0] 46 (0,0)) bk):gb771 ≠ gb770));clear BK769;clear BK770;clear HB;have BK769:=n0_;have BK770:=n1_;have HB:=n2_;have BK771:=n3_;have GW771:=n4_;have GE771:=n5_;have NB769_771:=n6_;have NB771_769:=n7_;have NB770_771:=n8_;have NB771_770:=n9_;clear n0_ n1_ n2_ n3_ n4_ n5_ n6_ n7_ n8_ n9_;clear hb hbox hg;have hnb6:=NB769_770.out;have hnc6:=NB770_769.out;have hnb7:=NB769_771.out;have hnc7:=NB771_769.out;have hcz8_0:w5.cell? ⟨gb769,0,none⟩ = some (.int .i64 a0_0):=(blk_cell BK769.out 0).trans rfl;have hcz8_1:w5.cell? ⟨gb769,1,none⟩ = some (.slice A0_1 l0_1.length c0_1):=(blk_cell BK769.out 1).trans rfl;have hfz8_0:=blk_frozen BK769.out 0;have hfz8_1:=blk_frozen BK769.out 1;have hnb9:=NB771_770.out;have hnc9:=NB770_771.out;have hcz10_0:w5.cell? ⟨gb771,0,none⟩ = some (.int .i64 0):=(blk_cell BK771.out 0).trans rfl;have hcz10_1:w5.cell? ⟨gb771,1,none⟩ = some (.slice none 0 0):=(blk_cell BK771.out 1).trans rfl;have hfz10_0:=blk_frozen BK771.out 0;have hfz10_1:=blk_frozen BK771.out 1)|((with_reducible refine gate_callee (f:=67) rfl ?_);refine goesL_ (some 9) rfl rfl Try.func67 (by kernel_rfl) rfl #[.slice A0_1 l0_1.length c0_1] rfl mq ?_;(with_reducible refine (laws_toIntS.calls k _ _ l0_1 t772 _ ?side1 ?side2 A2.out).mono ?_);(case side1=>exact Kd.C_below HR0_1.out bw);(case side2=>exact HC0_1.out);rintro e w11 ⟨v773,rfl,ho0,hb⟩;refine ⟨_,rfl,?_⟩;have n0_:=Aside0.mk (Kd.R_lower ho0 (below_size bw));have n1_:=Aside0.mk (blk_below (g:=gb769) (o:=.cells #[.int .i64 a0_0,.slice A0_1 l0_1.length c0_1] 42 (0,0)) (by (with_reducible repeat (first|refine blk_drewN ?_ _|refine blk_drew ?_|refine blk_alloc ?_ _));refine blk_far ?_ NB769_771.out _;(with_reducible repeat (first|refine blk_drewN ?_ _|refine blk_drew ?_|refine blk_alloc ?_ _));exact BK769.out) hb);have n2_:=Aside0.mk (blk_below (g:=gb770) (o:=.cells #[.int .i64 0,.slice none 0 0] 46 (0,0)) (by (with_reducible repeat (first|refine blk_drewN ?_ _|refine blk_drew ?_|refine blk_alloc ?_ _));refine blk_far ?_ NB770_771.out _;(with_reducible repeat (first|refine blk_drewN ?_ _|refine blk_drew ?_|refine blk_alloc ?_ _));exact BK770.out) hb);have n3_:=Aside0.mk (blk_below (g:=gb771) (o:=.cells #[.int .i64 a0_0,.slice none 0 0] 46 (0,0)) (by (with_reducible repeat (first|refine blk_drewN ?_ _|refine blk_drew ?_|refine blk_alloc ?_ _));refine blk_put (cs:=#[.int .i64 0,.slice none 0 0]) ?_ 0 _ rfl;(with_reducible repeat (first|refine blk_drewN ?_ _|refine blk_drew ?_|refine blk_alloc ?_ _));exact BK771.out) hb);have n4_:=Aside0.mk (below_step bw hb);clear BK769;clear BK770;clear BK771;clear HB;have HO774:=n0_;have BK769:=n1_;have BK770:=n2_;have BK771:=n3_;have HB:=n4_;clear n0_ n1_ n2_ n3_ n4_;(try clear hb);(try clear hb2);(try clear hk);(try clear hi);(try clear ho0);obtain ⟨Ao12,co12,eo12⟩:=Kd.R_slice HO774.out;subst eo12;have hcz13_0:w11.cell? ⟨gb771,0,none⟩ = some (.int .i64 a0_0):=(blk_cell BK771.out 0).trans rfl;have hcz13_1:w11.cell? ⟨gb771,1,none⟩ = some (.slice none 0 0):=(blk_cell BK771.out 1).trans rfl;have hfz13_0:=blk_frozen BK771.out 0;have hfz13_1:=blk_frozen BK771.out 1;have hcz14_0:w11.cell? ⟨gb770,0,none⟩ = some (.int .i64 0):=(blk_cell BK770.out 0).trans rfl;have hcz14_1:w11.cell? ⟨gb770,1,none⟩ = some (.slice none 0 0):=(blk_cell BK770.out 1).trans rfl;have hfz14_0:=blk_frozen BK770.out 0;have hfz14_1:=blk_frozen BK770.out 1))
 refine bodyPost_ret (results_cell_row rfl _ _ gb770 46 #[.int .i64 a0_0,.slice Ao12 t772.length co12] (0,0) _ rfl (by (with_reducible repeat (first|refine blk_drewN ?_ _|refine blk_drew ?_|refine blk_alloc ?_ _));refine blk_put (cs:=#[.int .i64 a0_0,.slice none 0 0]) ?_ 1 _ rfl;(with_reducible repeat (first|refine blk_drewN ?_ _|refine blk_drew ?_|refine blk_alloc ?_ _));refine blk_put (cs:=#[.int .i64 0,.slice none 0 0]) ?_ 0 _ rfl;(with_reducible repeat (first|refine blk_drewN ?_ _|refine blk_drew ?_|refine blk_alloc ?_ _));refine blk_far ?_ NB770_771.out _;(with_reducible repeat (first|refine blk_drewN ?_ _|refine blk_drew ?_|refine blk_alloc ?_ _));exact BK770.out) Try.underlying46 rfl (by kernel_rfl)) rfl ?_;exact ⟨_,by first|rfl|(simp [errW_none,errW_some] <;> rfl)|(simp [*,errW_none,errW_some] <;> rfl),by (with_reducible repeat (first|apply Kd.R_alloc|apply Kd.R_drewN|apply Kd.R_drew));exact Kd.R_mono (Kd.R_far (p:=⟨gb770,1,none⟩) (Kd.R_far (p:=⟨gb770,0,none⟩) (Kd.R_far (p:=⟨gb771,1,none⟩) (Kd.R_types (Kd.R_types HO774.out BK771.out (by decide)) BK770.out (by decide)) (fun _ hk=>hk.1.2) (.slice Ao12 t772.length co12)) (fun _ hk=>hk.2) (.int .i64 a0_0)) (fun _ hk=>hk.2) (.slice Ao12 t772.length co12)) (fun _ hk=>trivial),by repeat (first|(with_reducible first|exact HB.out|apply below_alloc|apply pw_below_drewN|apply below_drew1|refine below_set ?_ GE769.out|refine below_set ?_ GE770.out|refine below_set ?_ GE771.out)|exact HB.out)⟩


/-! ### laws_eqCommittee: function 28 -/
def laws_eqCommittee.f (k:Nat) (a0_0:Int) (l0_1:List Int) (a1_0:Int) (l1_1:List Int):Option (Bool):=if a0_0 = a1_0 then ((laws_eqIntS.f k l0_1 l1_1).bind fun t810=>(if t810 = true then (some true) else (some false))) else (some false)
theorem laws_eqCommittee.mono:∀ a0 a1 a2 a3 k,LeO (laws_eqCommittee.f k a0 a1 a2 a3) (laws_eqCommittee.f (k + 1) a0 a1 a2 a3):=by
 intro a0 a1 a2 a3 k;unfold laws_eqCommittee.f
 repeat' with_reducible first|exact laws_eqIntS.mono _ _ _|exact LeO.refl _|exact LeO.none _|refine LeO.ite ?_ ?_|refine LeO.bind ?_ (fun _=>?_)
set_option maxHeartbeats 8000000 in
set_option maxRecDepth 100000 in
theorem laws_eqCommittee.calls (k:Nat) (a0_0:Int) (A0_1:Option Addr) (c0_1:Nat) (l0_1:List Int) (a1_0:Int) (A1_1:Option Addr) (c1_1:Nat) (l1_1:List Int) (r:Bool) (w:World) (hr0_1:Kd.C (Kd.int .i64) w A0_1 l0_1.length l0_1) (hc0_1:l0_1.length ≤ c0_1) (hr1_1:Kd.C (Kd.int .i64) w A1_1 l1_1.length l1_1) (hc1_1:l1_1.length ≤ c1_1) (h:laws_eqCommittee.f k a0_0 l0_1 a1_0 l1_1 = some r) :
  Calls Try.prog 28 #[.agg #[.int .i64 a0_0,.slice A0_1 l0_1.length c0_1],.agg #[.int .i64 a1_0,.slice A1_1 l1_1.length c1_1]] w fun e w'=>e = .returned (.bool r) ∧ Below w.heap.size w w':=by
 have hu46:=Try.underlying46;have HR0_1:=Aside0.mk hr0_1;have HC0_1:=Aside0.mk hc0_1;clear hr0_1 hc0_1;have HR1_1:=Aside0.mk hr1_1;have HC1_1:=Aside0.mk hc1_1;clear hr1_1 hc1_1;have HB:=Aside0.mk (Below.refl w.heap.size w);have H:(if a0_0 = a1_0 then ((laws_eqIntS.f k l0_1 l1_1).bind fun t810=>(if t810 = true then (some true) else (some false))) else (some false)) = some r:=h;clear h;by_cases c3:a0_0 = a1_0
 ·rw [if_pos c3] at H;have c3b0:(a0_0 == a1_0) = true:=beq_iff_eq.mpr c3;have c3b1:(a0_0 != a1_0) = false:=bne_eq_false_iff_eq.mpr c3;clear c3;replace H:=Option.bind_eq_some_iff.mp H;obtain ⟨t810,A40,H⟩:=H;replace H:(if t810 = true then (some true) else (some false)) = some r:=H;have A4:=Aside0.mk A40;clear A40;by_cases c5:t810 = true
  ·subst c5;have H1:(some true) = some r:=by rw [if_pos rfl] at H;exact H
   clear H;have H:=H1;clear H1;obtain rfl:=Option.some.inj H;go_enter Try.func28,Try.ntmps28;go_wp2_with (first|((with_reducible refine gate_dst (N:=2) rfl ?_);refine box_event ?hg (N:=2) ?hd (cs:=#[.int .i64 a0_0,.slice A0_1 l0_1.length c0_1]) (t:=46) ?hr ?_;(case hd=>rfl);(case hg=>rfl);(case hr=>first|(go_simp;done)|(go_simp;rfl));intro gb808 hg w6 hbox hb;have n0_:=Aside0.mk (below_step bw hb);have n1_:=Aside0.mk (hbox);have n2_:=Aside0.mk ((by rw [hg];exact (below_size bw):w.heap.size ≤ gb808));have n3_:=Aside0.mk ((by rw [hg];exact (below_size bw):w.heap.size ≤ gb808));clear HB;have HB:=n0_;have BK808:=n1_;have GW808:=n2_;have GE808:=n3_;clear n0_ n1_ n2_ n3_;clear hb hbox hg)|((with_reducible refine gate_dst (N:=3) rfl ?_);refine box_event ?hg (N:=3) ?hd (cs:=#[.int .i64 a1_0,.slice A1_1 l1_1.length c1_1]) (t:=46) ?hr ?_;(case hd=>rfl);(case hg=>rfl);(case hr=>first|(go_simp;done)|(go_simp;rfl));intro gb809 hg w7 hbox hb;have n0_:=Aside0.mk (blk_below (g:=gb808) (o:=.cells #[.int .i64 a0_0,.slice A0_1 l0_1.length c0_1] 46 (0,0)) bk hb);have n1_:=Aside0.mk (below_step bw hb);have n2_:=Aside0.mk (hbox);have n3_:=Aside0.mk ((by rw [hg];exact (below_size bw):w.heap.size ≤ gb809));have n4_:=Aside0.mk ((by rw [hg];exact (below_size bw):w.heap.size ≤ gb809));have n5_:=Aside0.mk ((by rw [hg];exact Nat.ne_of_lt (blk_lt (g:=gb808) (o:=.cells #[.int .i64 a0_0,.slice A0_1 l0_1.length c0_1] 46 (0,0)) bk):gb808 ≠ gb809));have n6_:=Aside0.mk ((by rw [hg];exact Nat.ne_of_gt (blk_lt (g:=gb808) (o:=.cells #[.int .i64 a0_0,.slice A0_1 l0_1.length c0_1] 46 (0,0)) bk):gb809 ≠ gb808));clear BK808;clear HB;have BK808:=n0_;have HB:=n1_;have BK809:=n2_;have GW809:=n3_;have GE809:=n4_;have NB808_809:=n5_;have NB809_808:=n6_;clear n0_ n1_ n2_ n3_ n4_ n5_ n6_;clear hb hbox hg;have hnb8:=NB808_809.out;have hnc8:=NB809_808.out;have hcz9_0:w7.cell? ⟨gb808,0,none⟩ = some (.int .i64 a0_0):=(blk_cell BK808.out 0).trans rfl;have hcz9_1:w7.cell? ⟨gb808,1,none⟩ = some (.slice A0_1 l0_1.length c0_1):=(blk_cell BK808.out 1).trans rfl;have hfz9_0:=blk_frozen BK808.out 0;have hfz9_1:=blk_frozen BK808.out 1;have hcz10_0:w7.cell? ⟨gb809,0,none⟩ = some (.int .i64 a1_0):=(blk_cell BK809.out 0).trans rfl;have hcz10_1:w7.cell? ⟨gb809,1,none⟩ = some (.slice A1_1 l1_1.length c1_1):=(blk_cell BK809.out 1).trans rfl;have hfz10_0:=blk_frozen BK809.out 0;have hfz10_1:=blk_frozen BK809.out 1)|((with_reducible refine gate_callee (f:=51) rfl ?_);refine goesL_ (some 14) rfl rfl Try.func51 (by kernel_rfl) rfl #[.slice A0_1 l0_1.length c0_1,.slice A1_1 l1_1.length c1_1] rfl mq ?_;(with_reducible refine (laws_eqIntS.calls k _ _ l0_1 _ _ l1_1 true _ ?side1 ?side2 ?side3 ?side4 A4.out).mono ?_);(case side1=>repeat (first|exact (Kd.C_below HR0_1.out HB.out)|(with_reducible refine Kd.C_alloc ?_ _)|(with_reducible refine Kd.C_drewN ?_ _)|(with_reducible refine Kd.C_drew ?_)));(case side2=>exact HC0_1.out);(case side3=>repeat (first|exact (Kd.C_below HR1_1.out HB.out)|(with_reducible refine Kd.C_alloc ?_ _)|(with_reducible refine Kd.C_drewN ?_ _)|(with_reducible refine Kd.C_drew ?_)));(case side4=>exact HC1_1.out);rintro e w' ⟨rfl,⟨nd,rfl⟩⟩;refine ⟨_,rfl,?_⟩))
   go_ret
   exact ⟨by first|rfl|(simp [errW_none,errW_some] <;> rfl)|(simp [*,errW_none,errW_some] <;> rfl),by repeat (first|(with_reducible first|exact HB.out|apply below_alloc|apply pw_below_drewN|apply below_drew1|refine below_set ?_ GE808.out|refine below_set ?_ GE809.out)|exact HB.out)⟩
  ·replace c5:=Bool.eq_false_iff.mpr c5;subst c5;have H1:(some false) = some r:=by rw [if_neg (show ¬ (false = true) by decide)] at H;exact H
   clear H;have H:=H1;clear H1;obtain rfl:=Option.some.inj H;go_enter Try.func28,Try.ntmps28;go_wp2_with (first|((with_reducible refine gate_dst (N:=2) rfl ?_);refine box_event ?hg (N:=2) ?hd (cs:=#[.int .i64 a0_0,.slice A0_1 l0_1.length c0_1]) (t:=46) ?hr ?_;(case hd=>rfl);(case hg=>rfl);(case hr=>first|(go_simp;done)|(go_simp;rfl));intro gb808 hg w11 hbox hb;have n0_:=Aside0.mk (below_step bw hb);have n1_:=Aside0.mk (hbox);have n2_:=Aside0.mk ((by rw [hg];exact (below_size bw):w.heap.size ≤ gb808));have n3_:=Aside0.mk ((by rw [hg];exact (below_size bw):w.heap.size ≤ gb808));clear HB;have HB:=n0_;have BK808:=n1_;have GW808:=n2_;have GE808:=n3_;clear n0_ n1_ n2_ n3_;clear hb hbox hg)|((with_reducible refine gate_dst (N:=3) rfl ?_);refine box_event ?hg (N:=3) ?hd (cs:=#[.int .i64 a1_0,.slice A1_1 l1_1.length c1_1]) (t:=46) ?hr ?_;(case hd=>rfl);(case hg=>rfl);(case hr=>first|(go_simp;done)|(go_simp;rfl));intro gb809 hg w12 hbox hb;have n0_:=Aside0.mk (blk_below (g:=gb808) (o:=.cells #[.int .i64 a0_0,.slice A0_1 l0_1.length c0_1] 46 (0,0)) bk hb);have n1_:=Aside0.mk (below_step bw hb);have n2_:=Aside0.mk (hbox);have n3_:=Aside0.mk ((by rw [hg];exact (below_size bw):w.heap.size ≤ gb809));have n4_:=Aside0.mk ((by rw [hg];exact (below_size bw):w.heap.size ≤ gb809));have n5_:=Aside0.mk ((by rw [hg];exact Nat.ne_of_lt (blk_lt (g:=gb808) (o:=.cells #[.int .i64 a0_0,.slice A0_1 l0_1.length c0_1] 46 (0,0)) bk):gb808 ≠ gb809));have n6_:=Aside0.mk ((by rw [hg];exact Nat.ne_of_gt (blk_lt (g:=gb808) (o:=.cells #[.int .i64 a0_0,.slice A0_1 l0_1.length c0_1] 46 (0,0)) bk):gb809 ≠ gb808));clear BK808;clear HB;have BK808:=n0_;have HB:=n1_;have BK809:=n2_;have GW809:=n3_;have GE809:=n4_;have NB808_809:=n5_;have NB809_808:=n6_;clear n0_ n1_ n2_ n3_ n4_ n5_ n6_;clear hb hbox hg;have hnb13:=NB808_809.out;have hnc13:=NB809_808.out;have hcz14_0:w12.cell? ⟨gb808,0,none⟩ = some (.int .i64 a0_0):=(blk_cell BK808.out 0).trans rfl;have hcz14_1:w12.cell? ⟨gb808,1,none⟩ = some (.slice A0_1 l0_1.length c0_1):=(blk_cell BK808.out 1).trans rfl;have hfz14_0:=blk_frozen BK808.out 0;have hfz14_1:=blk_frozen BK808.out 1;have hcz15_0:w12.cell? ⟨gb809,0,none⟩ = some (.int .i64 a1_0):=(blk_cell BK809.out 0).trans rfl;have hcz15_1:w12.cell? ⟨gb809,1,none⟩ = some (.slice A1_1 l1_1.length c1_1):=(blk_cell BK809.out 1).trans rfl;have hfz15_0:=blk_frozen BK809.out 0;have hfz15_1:=blk_frozen BK809.out 1)|((with_reducible refine gate_callee (f:=51) rfl ?_);refine goesL_ (some 14) rfl rfl Try.func51 (by kernel_rfl) rfl #[.slice A0_1 l0_1.length c0_1,.slice A1_1 l1_1.length c1_1] rfl mq ?_;(with_reducible refine (laws_eqIntS.calls k _ _ l0_1 _ _ l1_1 false _ ?side1 ?side2 ?side3 ?side4 A4.out).mono ?_);(case side1=>repeat (first|exact (Kd.C_below HR0_1.out HB.out)|(with_reducible refine Kd.C_alloc ?_ _)|(with_reducible refine Kd.C_drewN ?_ _)|(with_reducible refine Kd.C_drew ?_)));(case side2=>exact HC0_1.out);(case side3=>repeat (first|exact (Kd.C_below HR1_1.out HB.out)|(with_reducible refine Kd.C_alloc ?_ _)|(with_reducible refine Kd.C_drewN ?_ _)|(with_reducible refine Kd.C_drew ?_)));(case side4=>exact HC1_1.out);rintro e w' ⟨rfl,⟨nd,rfl⟩⟩;refine ⟨_,rfl,?_⟩))
   go_ret
   exact ⟨by first|rfl|(simp [errW_none,errW_some] <;> rfl)|(simp [*,errW_none,errW_some] <;> rfl),by repeat (first|(with_reducible first|exact HB.out|apply below_alloc|apply pw_below_drewN|apply below_drew1|refine below_set ?_ GE808.out|refine below_set ?_ GE809.out)|exact HB.out)⟩
 ·rw [if_neg c3] at H;have c3b0:(a0_0 == a1_0) = false:=beq_eq_false_iff_ne.mpr c3;have c3b1:(a0_0 != a1_0) = true:=bne_iff_ne.mpr c3;obtain rfl:=Option.some.inj H;go_enter Try.func28,Try.ntmps28;go_wp2_with (first|((with_reducible refine gate_dst (N:=2) rfl ?_);refine box_event ?hg (N:=2) ?hd (cs:=#[.int .i64 a0_0,.slice A0_1 l0_1.length c0_1]) (t:=46) ?hr ?_;(case hd=>rfl);(case hg=>rfl);(case hr=>first|(go_simp;done)|(go_simp;rfl));intro gb808 hg w16 hbox hb;have n0_:=Aside0.mk (below_step bw hb);have n1_:=Aside0.mk (hbox);have n2_:=Aside0.mk ((by rw [hg];exact (below_size bw):w.heap.size ≤ gb808));have n3_:=Aside0.mk ((by rw [hg];exact (below_size bw):w.heap.size ≤ gb808));clear HB;have HB:=n0_;have BK808:=n1_;have GW808:=n2_;have GE808:=n3_;clear n0_ n1_ n2_ n3_;clear hb hbox hg)|((with_reducible refine gate_dst (N:=3) rfl ?_);refine box_event ?hg (N:=3) ?hd (cs:=#[.int .i64 a1_0,.slice A1_1 l1_1.length c1_1]) (t:=46) ?hr ?_;(case hd=>rfl);(case hg=>rfl);(case hr=>first|(go_simp;done)|(go_simp;rfl));intro gb809 hg w17 hbox hb;have n0_:=Aside0.mk (blk_below (g:=gb808) (o:=.cells #[.int .i64 a0_0,.slice A0_1 l0_1.length c0_1] 46 (0,0)) bk hb);have n1_:=Aside0.mk (below_step bw hb);have n2_:=Aside0.mk (hbox);have n3_:=Aside0.mk ((by rw [hg];exact (below_size bw):w.heap.size ≤ gb809));have n4_:=Aside0.mk ((by rw [hg];exact (below_size bw):w.heap.size ≤ gb809));have n5_:=Aside0.mk ((by rw [hg];exact Nat.ne_of_lt (blk_lt (g:=gb808) (o:=.cells #[.int .i64 a0_0,.slice A0_1 l0_1.length c0_1] 46 (0,0)) bk):gb808 ≠ gb809));have n6_:=Aside0.mk ((by rw [hg];exact Nat.ne_of_gt (blk_lt (g:=gb808) (o:=.cells #[.int .i64 a0_0,.slice A0_1 l0_1.length c0_1] 46 (0,0)) bk):gb809 ≠ gb808));clear BK808;clear HB;have BK808:=n0_;have HB:=n1_;have BK809:=n2_;have GW809:=n3_;have GE809:=n4_;have NB808_809:=n5_;have NB809_808:=n6_;clear n0_ n1_ n2_ n3_ n4_ n5_ n6_;clear hb hbox hg;have hnb18:=NB808_809.out;have hnc18:=NB809_808.out;have hcz19_0:w17.cell? ⟨gb808,0,none⟩ = some (.int .i64 a0_0):=(blk_cell BK808.out 0).trans rfl;have hcz19_1:w17.cell? ⟨gb808,1,none⟩ = some (.slice A0_1 l0_1.length c0_1):=(blk_cell BK808.out 1).trans rfl;have hfz19_0:=blk_frozen BK808.out 0;have hfz19_1:=blk_frozen BK808.out 1;have hcz20_0:w17.cell? ⟨gb809,0,none⟩ = some (.int .i64 a1_0):=(blk_cell BK809.out 0).trans rfl;have hcz20_1:w17.cell? ⟨gb809,1,none⟩ = some (.slice A1_1 l1_1.length c1_1):=(blk_cell BK809.out 1).trans rfl;have hfz20_0:=blk_frozen BK809.out 0;have hfz20_1:=blk_frozen BK809.out 1))
  go_ret
  exact ⟨by first|rfl|(simp [errW_none,errW_some] <;> rfl)|(simp [*,errW_none,errW_some] <;> rfl),by repeat (first|(with_reducible first|exact HB.out|apply below_alloc|apply pw_below_drewN|apply below_drew1|refine below_set ?_ GE808.out|refine below_set ?_ GE809.out)|exact HB.out)⟩

end Go.Proofs.Ytokelcedamegbaa.P
