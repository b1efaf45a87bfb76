/- Part 2 of the texts below the law FnExactIsTrade. Printed by this session's driver over the kit's printer, but for the hand contracts and the plain laws. -/
import Derived.Laws.CopyOwn
import Derived.ChangeKeysEq
import Derived.Test.YthkbaolpiigioaaCIsTrade1
set_option linter.unusedVariables false
set_option linter.unusedSimpArgs false
namespace Go.Proofs.Ythkbaolpiigioaa.P
open Go.RowKit Go.Proofs.YthkbaolpiigioaaW.PrintWords Go.Proofs.YthkbaolpiigioaaW.PrintLast Go.Proofs.YthkbaolpiigioaaW.PrintMore
attribute [local go_sem] max2_int min2_int max_two min_two max_three min_three max_four min_four   -- for this text's walks alone
set_option linter.unusedVariables false
set_option linter.unusedSimpArgs false

/-! ### slices_IndexFunc_LLint_int: function 210 -/
def slices_IndexFunc_LLint_int.l0:Nat → List (List Int) → (List Int → Option (Bool)) → Int → Int → Option (Int)
 | 0,_,_,_,_=>none
 | k + 1,x0,x1,x7,x8=>if x8 < x7 then (if 0 ≤ x8 then (if x8 < (x0.length:Int) then ((x1 (rd_LI x0 x8)).bind fun t764=>(if t764 = true then (some x8) else (slices_IndexFunc_LLint_int.l0 k x0 x1 x7 (wrap64 (x8 + 1))))) else (none)) else (none)) else (some (-1))
def slices_IndexFunc_LLint_int.f (k:Nat) (l0:List (List Int)) (a1:(List Int → Option (Bool))):Option (Int):=slices_IndexFunc_LLint_int.l0 k l0 a1 (l0.length:Int) 0
theorem slices_IndexFunc_LLint_int.mono_l:∀ k,(∀ y0 y1 y2 y3,LeO (slices_IndexFunc_LLint_int.l0 k y0 y1 y2 y3) (slices_IndexFunc_LLint_int.l0 (k + 1) y0 y1 y2 y3))
 | 0=>fun _ _ _ _ r h=>by simp [slices_IndexFunc_LLint_int.l0] at h
 | k + 1=>by
  have ih0:=slices_IndexFunc_LLint_int.mono_l k
  ·intro y0 y1 y2 y3;unfold slices_IndexFunc_LLint_int.l0
   repeat' with_reducible first|exact ih0 _ _ _ _|exact LeO.refl _|exact LeO.none _|refine LeO.ite ?_ ?_|refine LeO.bind ?_ (fun _=>?_)
theorem slices_IndexFunc_LLint_int.mono:∀ a0 a1 k,LeO (slices_IndexFunc_LLint_int.f k a0 a1) (slices_IndexFunc_LLint_int.f (k + 1) a0 a1):=by
 intro a0 a1 k;have ih0:=slices_IndexFunc_LLint_int.mono_l k;unfold slices_IndexFunc_LLint_int.f
 repeat' with_reducible first|exact ih0 _ _ _ _|exact LeO.refl _|exact LeO.none _|refine LeO.ite ?_ ?_|refine LeO.bind ?_ (fun _=>?_)
theorem slices_IndexFunc_LLint_int.monop_l {p_ q_:(List Int → Option (Bool))} (h_:∀ x0_,LeO (p_ x0_) (q_ x0_)):∀ k,(∀ y0 y2 y3,LeO (slices_IndexFunc_LLint_int.l0 k y0 p_ y2 y3) (slices_IndexFunc_LLint_int.l0 k y0 q_ y2 y3))
 | 0=>fun _ _ _ r hz=>by simp [slices_IndexFunc_LLint_int.l0] at hz
 | k + 1=>by
  have ih0:=slices_IndexFunc_LLint_int.monop_l h_ k
  ·intro y0 y1 y2;unfold slices_IndexFunc_LLint_int.l0
   repeat' with_reducible first|exact ih0 _ _ _|exact h_ _|exact LeO.refl _|refine LeO.ite ?_ ?_|refine LeO.bind ?_ (fun _=>?_)
theorem slices_IndexFunc_LLint_int.mono_p {p_ q_:(List Int → Option (Bool))} (h_:∀ x0_,LeO (p_ x0_) (q_ x0_)):∀ a0 k,LeO (slices_IndexFunc_LLint_int.f k a0 p_) (slices_IndexFunc_LLint_int.f k a0 q_):=by
 intro a0 k;have ih0:=slices_IndexFunc_LLint_int.monop_l h_ k;unfold slices_IndexFunc_LLint_int.f
 repeat' with_reducible first|exact ih0 _ _ _|exact h_ _|exact LeO.refl _|refine LeO.ite ?_ ?_|refine LeO.bind ?_ (fun _=>?_)
set_option maxHeartbeats 8000000 in
set_option maxRecDepth 100000 in
theorem slices_IndexFunc_LLint_int.calls (k:Nat) (A0:Option Addr) (c0:Nat) (l0:List (List Int)) (a1:(List Int → Option (Bool))) (g1_:Nat) (lb1_:Array Value) (eg1_:∀ (args:Array Value) (w:World),(callFunc g1_ args).run Try.prog w = .ok (.enter g1_ args) w) (r:Int) (w:World) (hr0:Kd.C (Kd.slice 3 (Kd.int .i64)) w A0 l0.length l0) (hc0:l0.length ≤ c0) (hp1:∀ (W:World) (A0_:Option Addr) (c0_:Nat) (l0_:List Int) (r0_:Bool),a1 l0_ = some r0_ → Below w.heap.size w W → Kd.C (Kd.int .i64) W A0_ l0_.length l0_ → l0_.length ≤ c0_ → Calls Try.prog g1_ (#[.slice A0_ l0_.length c0_] ++ lb1_) W fun e w'=>e = .returned (.bool r0_) ∧ Below W.heap.size W w') (h:slices_IndexFunc_LLint_int.f k l0 a1 = some r) :
  Calls Try.prog 210 #[.slice A0 l0.length c0,.func (.func g1_) #[] lb1_] w fun e w'=>e = .returned (.int .i64 r) ∧ Below w.heap.size w w':=by
 have HR0:=aM hr0;have HC0:=aM hc0;clear hr0 hc0;have HP1:=aM hp1;clear hp1;have HB:=aM (Below.refl w.heap.size w);have H:(slices_IndexFunc_LLint_int.l0 k l0 a1 (l0.length:Int) 0) = some r:=h;clear h;have H':=aM H;clear H;go_enter Try.func210,Try.ntmps210;go_wp2
 go_loopg [8] k (fun kq v8 w'=>∃ (x8_1:Int),v8 = .int .i64 x8_1 ∧ Aside0 (slices_IndexFunc_LLint_int.l0 kq l0 a1 (l0.length:Int) x8_1 = some r) ∧ Aside0 (kq ≤ k) ∧ Aside0 (Below w.heap.size w w'))
 case atStart=>exact ⟨(0),qrs,H',⟨Nat.le_refl _⟩,⟨by exact bw⟩⟩
 case round =>
  clear H';(try clear p1);(try clear c2);(try clear p2)
  obtain ⟨x8_1,rfl,HA,HK1,HB⟩:=hrel
  cases gk with
  | zero=>exact absurd HA.out (by simp [slices_IndexFunc_LLint_int.l0])
  | succ k1 =>
   have H:=HA.out;clear HA;simp only [slices_IndexFunc_LLint_int.l0] at H;by_cases c3:x8_1 < (l0.length:Int)
   ·rw [if_pos c3] at H;have c3b0:decide (x8_1 < (l0.length:Int)) = true:=decide_eq_true c3;clear c3;by_cases c4:0 ≤ x8_1
    ·rw [if_pos c4] at H;have c4b0:decide (0 ≤ x8_1) = true:=decide_eq_true c4;clear c4;by_cases c5:x8_1 < (l0.length:Int)
     ·rw [if_pos c5] at H;have c5b0:decide (x8_1 < (l0.length:Int)) = true:=decide_eq_true c5;clear c5;replace H:=Option.bind_eq_some_iff.mp H;obtain ⟨t764,A60,H⟩:=H;replace H:(if t764 = true then (some x8_1) else (slices_IndexFunc_LLint_int.l0 k1 l0 a1 (l0.length:Int) (wrap64 (x8_1 + 1)))) = some r:=H;have A6:=aM A60;clear A60;by_cases c7:t764 = true
      ·subst c7;have H1:(some x8_1) = some r:=by rw [if_pos rfl] at H;exact H
       clear H;have H:=H1;clear H1;obtain rfl:=Option.some.inj H;have p763:0 ≤ (x8_1:Int):=of_decide_eq_true ab;have q763:x8_1 < (l0.length:Int):=of_decide_eq_true ab;obtain ⟨ad763,A763_0,c763_0,e763,hx763_0,hl763_0,hi763_0⟩:=at_LI HR0.out x8_1 p763 q763;cases e763
       replace hx763_0:=(HB.out.cell (World.block_lt_of_cell? w _ hx763_0)).trans hx763_0;have HR763_0:=aM hi763_0;have HC763_0:=aM hl763_0;clear hi763_0 hl763_0;replace p763:=eq_true p763;replace q763:=eq_true q763;go_wp2_with (first|((with_reducible refine gate_fn (t:=11) rfl ?_);refine goesFL_ (some 16) rfl rfl eg1_ #[.slice A763_0 (rd_LI l0 x8_1).length c763_0] rfl rfl mq ?_;(with_reducible refine (HP1.out _ _ _ (rd_LI l0 x8_1) true A6.out ?side1 ?side2 ?side3).mono ?_);(case side1=>exact bw);(case side2=>exact qcs HR763_0.out HB.out);(case side3=>exact HC763_0.out);rintro e w8 ⟨rfl,hb⟩;refine ⟨_,rfl,?_⟩;have n0_:=aM (below_step bw hb);clear HB;have HB:=n0_;clear n0_;(try clear hb);(try clear hb2);(try clear hk);(try clear hi)))
       go_ret
       exact ⟨by first|rfl|(simp [errW_none,errW_some] <;> rfl)|(simp [*,errW_none,errW_some] <;> rfl),by exact bw⟩
      ·replace c7:=Bool.eq_false_iff.mpr c7;subst c7;have H1:(slices_IndexFunc_LLint_int.l0 k1 l0 a1 (l0.length:Int) (wrap64 (x8_1 + 1))) = some r:=by rw [if_neg (show ¬ (false = true) by decide)] at H;exact H
       clear H;have H:=H1;clear H1;have H':=aM H;clear H;have p763:0 ≤ (x8_1:Int):=of_decide_eq_true ab;have q763:x8_1 < (l0.length:Int):=of_decide_eq_true ab;obtain ⟨ad763,A763_0,c763_0,e763,hx763_0,hl763_0,hi763_0⟩:=at_LI HR0.out x8_1 p763 q763;cases e763
       replace hx763_0:=(HB.out.cell (World.block_lt_of_cell? w _ hx763_0)).trans hx763_0;have HR763_0:=aM hi763_0;have HC763_0:=aM hl763_0;clear hi763_0 hl763_0;replace p763:=eq_true p763;replace q763:=eq_true q763;go_wp2_with (first|((with_reducible refine gate_fn (t:=11) rfl ?_);refine goesFL_ (some 16) rfl rfl eg1_ #[.slice A763_0 (rd_LI l0 x8_1).length c763_0] rfl rfl mq ?_;(with_reducible refine (HP1.out _ _ _ (rd_LI l0 x8_1) false A6.out ?side1 ?side2 ?side3).mono ?_);(case side1=>exact bw);(case side2=>exact qcs HR763_0.out HB.out);(case side3=>exact HC763_0.out);rintro e w9 ⟨rfl,hb⟩;refine ⟨_,rfl,?_⟩;have n0_:=aM (below_step bw hb);clear HB;have HB:=n0_;clear n0_;(try clear hb);(try clear hb2);(try clear hk);(try clear hi)))
       go_roundg k1
       case measure=>have:=HK1.out;omega
       case rel=>exact ⟨(wrap64 (x8_1 + 1)),qrs,H',⟨by have:=HK1.out;omega⟩,⟨by exact bw⟩⟩
     ·rw [if_neg c5] at H;exact absurd H (by simp)
    ·rw [if_neg c4] at H;exact absurd H (by simp)
   ·rw [if_neg c3] at H;have c3b0:decide (x8_1 < (l0.length:Int)) = false:=decide_eq_false c3;clear c3;obtain rfl:=Option.some.inj H;go_wp2
    go_ret
    exact ⟨by first|rfl|(simp [errW_none,errW_some] <;> rfl)|(simp [*,errW_none,errW_some] <;> rfl),by exact bw⟩


/-! ### slices_ContainsFunc_LLint_int: function 195 -/
def slices_ContainsFunc_LLint_int.f (k:Nat) (l0:List (List Int)) (a1:(List Int → Option (Bool))):Option (Bool):=(slices_IndexFunc_LLint_int.f k l0 a1).bind fun t765=>(some (decide (t765 ≥ 0)))
theorem slices_ContainsFunc_LLint_int.mono:∀ a0 a1 k,LeO (slices_ContainsFunc_LLint_int.f k a0 a1) (slices_ContainsFunc_LLint_int.f (k + 1) a0 a1):=by
 intro a0 a1 k;unfold slices_ContainsFunc_LLint_int.f
 repeat' with_reducible first|exact slices_IndexFunc_LLint_int.mono _ _ _|exact LeO.refl _|exact LeO.none _|refine LeO.trans (slices_IndexFunc_LLint_int.mono _ _ _) (slices_IndexFunc_LLint_int.mono_p (fun _=>?_) _ _)|refine LeO.ite ?_ ?_|refine LeO.bind ?_ (fun _=>?_)
theorem slices_ContainsFunc_LLint_int.mono_p {p_ q_:(List Int → Option (Bool))} (h_:∀ x0_,LeO (p_ x0_) (q_ x0_)):∀ a0 k,LeO (slices_ContainsFunc_LLint_int.f k a0 p_) (slices_ContainsFunc_LLint_int.f k a0 q_):=by
 intro a0 k;unfold slices_ContainsFunc_LLint_int.f
 repeat' with_reducible first|exact h_ _|refine slices_IndexFunc_LLint_int.mono_p (fun _=>?_) _ _|exact LeO.refl _|refine LeO.ite ?_ ?_|refine LeO.bind ?_ (fun _=>?_)
set_option maxHeartbeats 8000000 in
set_option maxRecDepth 100000 in
theorem slices_ContainsFunc_LLint_int.calls (k:Nat) (A0:Option Addr) (c0:Nat) (l0:List (List Int)) (a1:(List Int → Option (Bool))) (g1_:Nat) (lb1_:Array Value) (eg1_:∀ (args:Array Value) (w:World),(callFunc g1_ args).run Try.prog w = .ok (.enter g1_ args) w) (r:Bool) (w:World) (hr0:Kd.C (Kd.slice 3 (Kd.int .i64)) w A0 l0.length l0) (hc0:l0.length ≤ c0) (hp1:∀ (W:World) (A0_:Option Addr) (c0_:Nat) (l0_:List Int) (r0_:Bool),a1 l0_ = some r0_ → Below w.heap.size w W → Kd.C (Kd.int .i64) W A0_ l0_.length l0_ → l0_.length ≤ c0_ → Calls Try.prog g1_ (#[.slice A0_ l0_.length c0_] ++ lb1_) W fun e w'=>e = .returned (.bool r0_) ∧ Below W.heap.size W w') (h:slices_ContainsFunc_LLint_int.f k l0 a1 = some r) :
  Calls Try.prog 195 #[.slice A0 l0.length c0,.func (.func g1_) #[] lb1_] w fun e w'=>e = .returned (.bool r) ∧ Below w.heap.size w w':=by
 have HR0:=aM hr0;have HC0:=aM hc0;clear hr0 hc0;have HP1:=aM hp1;clear hp1;have HB:=aM (Below.refl w.heap.size w);have H:((slices_IndexFunc_LLint_int.f k l0 a1).bind fun t765=>(some (decide (t765 ≥ 0)))) = some r:=h;clear h;replace H:=Option.bind_eq_some_iff.mp H;obtain ⟨t765,A30,H⟩:=H;replace H:(some (decide (t765 ≥ 0))) = some r:=H;have A3:=aM A30;clear A30;obtain rfl:=Option.some.inj H;go_enter Try.func195,Try.ntmps195;go_wp2_with (first|((with_reducible refine gate_callee (f:=210) rfl ?_);refine goesL_ (some 7) rfl rfl Try.func210 kR rfl #[.slice A0 l0.length c0,.func (.func g1_) #[] lb1_] rfl mq ?_;(with_reducible refine (slices_IndexFunc_LLint_int.calls k _ _ l0 a1 g1_ lb1_ eg1_ t765 _ ?side1 ?side2 ?side3 A3.out).mono ?_);(case side1=>repeat (first|exact HR0.out|(with_reducible refine Kd.C_alloc ?_ _)|(with_reducible refine Kd.C_drewN ?_ _)|(with_reducible refine Kd.C_drew ?_)));(case side2=>exact HC0.out);(case side3=>exact (fun W_ A0_ c0_ l0_ r0_ hx_ hb_ hr0_ hc0_=>HP1.out W_ A0_ c0_ l0_ r0_ hx_ (below_step bw hb_) hr0_ hc0_));rintro e w4 ⟨rfl,hb⟩;refine ⟨_,rfl,?_⟩;have n0_:=aM (below_step bw hb);clear HB;have HB:=n0_;clear n0_;(try clear hb);(try clear hb2);(try clear hk);(try clear hi)))
 go_ret
 exact ⟨by first|rfl|(simp [errW_none,errW_some] <;> rfl)|(simp [*,errW_none,errW_some] <;> rfl),by exact bw⟩


/-! ### slices_IndexFunc_int_int: function 211 -/
def slices_IndexFunc_int_int.l0:Nat → List Int → (Int → Option (Bool)) → Int → Int → Option (Int)
 | 0,_,_,_,_=>none
 | k + 1,x0,x1,x7,x8=>if x8 < x7 then (if 0 ≤ x8 then (if x8 < (x0.length:Int) then ((x1 (rd x0 x8)).bind fun t162=>(if t162 = true then (some x8) else (slices_IndexFunc_int_int.l0 k x0 x1 x7 (wrap64 (x8 + 1))))) else (none)) else (none)) else (some (-1))
def slices_IndexFunc_int_int.f (k:Nat) (l0:List Int) (a1:(Int → Option (Bool))):Option (Int):=slices_IndexFunc_int_int.l0 k l0 a1 (l0.length:Int) 0
theorem slices_IndexFunc_int_int.mono_l:∀ k,(∀ y0 y1 y2 y3,LeO (slices_IndexFunc_int_int.l0 k y0 y1 y2 y3) (slices_IndexFunc_int_int.l0 (k + 1) y0 y1 y2 y3))
 | 0=>fun _ _ _ _ r h=>by simp [slices_IndexFunc_int_int.l0] at h
 | k + 1=>by
  have ih0:=slices_IndexFunc_int_int.mono_l k
  ·intro y0 y1 y2 y3;unfold slices_IndexFunc_int_int.l0
   repeat' with_reducible first|exact ih0 _ _ _ _|exact LeO.refl _|exact LeO.none _|refine LeO.ite ?_ ?_|refine LeO.bind ?_ (fun _=>?_)
theorem slices_IndexFunc_int_int.mono:∀ a0 a1 k,LeO (slices_IndexFunc_int_int.f k a0 a1) (slices_IndexFunc_int_int.f (k + 1) a0 a1):=by
 intro a0 a1 k;have ih0:=slices_IndexFunc_int_int.mono_l k;unfold slices_IndexFunc_int_int.f
 repeat' with_reducible first|exact ih0 _ _ _ _|exact LeO.refl _|exact LeO.none _|refine LeO.ite ?_ ?_|refine LeO.bind ?_ (fun _=>?_)
theorem slices_IndexFunc_int_int.monop_l {p_ q_:(Int → Option (Bool))} (h_:∀ x0_,LeO (p_ x0_) (q_ x0_)):∀ k,(∀ y0 y2 y3,LeO (slices_IndexFunc_int_int.l0 k y0 p_ y2 y3) (slices_IndexFunc_int_int.l0 k y0 q_ y2 y3))
 | 0=>fun _ _ _ r hz=>by simp [slices_IndexFunc_int_int.l0] at hz
 | k + 1=>by
  have ih0:=slices_IndexFunc_int_int.monop_l h_ k
  ·intro y0 y1 y2;unfold slices_IndexFunc_int_int.l0
   repeat' with_reducible first|exact ih0 _ _ _|exact h_ _|exact LeO.refl _|refine LeO.ite ?_ ?_|refine LeO.bind ?_ (fun _=>?_)
theorem slices_IndexFunc_int_int.mono_p {p_ q_:(Int → Option (Bool))} (h_:∀ x0_,LeO (p_ x0_) (q_ x0_)):∀ a0 k,LeO (slices_IndexFunc_int_int.f k a0 p_) (slices_IndexFunc_int_int.f k a0 q_):=by
 intro a0 k;have ih0:=slices_IndexFunc_int_int.monop_l h_ k;unfold slices_IndexFunc_int_int.f
 repeat' with_reducible first|exact ih0 _ _ _|exact h_ _|exact LeO.refl _|refine LeO.ite ?_ ?_|refine LeO.bind ?_ (fun _=>?_)
set_option maxHeartbeats 8000000 in
set_option maxRecDepth 100000 in
theorem slices_IndexFunc_int_int.calls (k:Nat) (A0:Option Addr) (c0:Nat) (l0:List Int) (a1:(Int → Option (Bool))) (g1_:Nat) (lb1_:Array Value) (eg1_:∀ (args:Array Value) (w:World),(callFunc g1_ args).run Try.prog w = .ok (.enter g1_ args) w) (r:Int) (w:World) (hr0:Kd.C (Kd.int .i64) w A0 l0.length l0) (hc0:l0.length ≤ c0) (hp1:∀ (W:World) (b0_:Int) (r0_:Bool),a1 b0_ = some r0_ → Below w.heap.size w W → Calls Try.prog g1_ (#[.int .i64 b0_] ++ lb1_) W fun e w'=>e = .returned (.bool r0_) ∧ Below W.heap.size W w') (h:slices_IndexFunc_int_int.f k l0 a1 = some r) :
  Calls Try.prog 211 #[.slice A0 l0.length c0,.func (.func g1_) #[] lb1_] w fun e w'=>e = .returned (.int .i64 r) ∧ Below w.heap.size w w':=by
 have HR0:=aM hr0;have HC0:=aM hc0;clear hr0 hc0;have HP1:=aM hp1;clear hp1;have HB:=aM (Below.refl w.heap.size w);have H:(slices_IndexFunc_int_int.l0 k l0 a1 (l0.length:Int) 0) = some r:=h;clear h;have H':=aM H;clear H;go_enter Try.func211,Try.ntmps211;go_wp2
 go_loopg [8] k (fun kq v8 w'=>∃ (x8_1:Int),v8 = .int .i64 x8_1 ∧ Aside0 (slices_IndexFunc_int_int.l0 kq l0 a1 (l0.length:Int) x8_1 = some r) ∧ Aside0 (kq ≤ k) ∧ Aside0 (Below w.heap.size w w'))
 case atStart=>exact ⟨(0),qrs,H',⟨Nat.le_refl _⟩,⟨by exact bw⟩⟩
 case round =>
  clear H';(try clear p1);(try clear c2);(try clear p2)
  obtain ⟨x8_1,rfl,HA,HK1,HB⟩:=hrel
  cases gk with
  | zero=>exact absurd HA.out (by simp [slices_IndexFunc_int_int.l0])
  | succ k1 =>
   have H:=HA.out;clear HA;simp only [slices_IndexFunc_int_int.l0] at H;by_cases c3:x8_1 < (l0.length:Int)
   ·rw [if_pos c3] at H;have c3b0:decide (x8_1 < (l0.length:Int)) = true:=decide_eq_true c3;clear c3;by_cases c4:0 ≤ x8_1
    ·rw [if_pos c4] at H;have c4b0:decide (0 ≤ x8_1) = true:=decide_eq_true c4;clear c4;by_cases c5:x8_1 < (l0.length:Int)
     ·rw [if_pos c5] at H;have c5b0:decide (x8_1 < (l0.length:Int)) = true:=decide_eq_true c5;clear c5;replace H:=Option.bind_eq_some_iff.mp H;obtain ⟨t162,A60,H⟩:=H;replace H:(if t162 = true then (some x8_1) else (slices_IndexFunc_int_int.l0 k1 l0 a1 (l0.length:Int) (wrap64 (x8_1 + 1)))) = some r:=H;have A6:=aM A60;clear A60;by_cases c7:t162 = true
      ·subst c7;have H1:(some x8_1) = some r:=by rw [if_pos rfl] at H;exact H
       clear H;have H:=H1;clear H1;obtain rfl:=Option.some.inj H;have p161:0 ≤ (x8_1:Int):=of_decide_eq_true ab;have q161:x8_1 < (l0.length:Int):=of_decide_eq_true ab;obtain ⟨ad161,e161,hx161_0⟩:=Kd.at_int HR0.out x8_1 p161 q161;cases e161
       replace hx161_0:=(HB.out.cell (World.block_lt_of_cell? w _ hx161_0)).trans hx161_0;replace p161:=eq_true p161;replace q161:=eq_true q161;go_wp2_with (first|((with_reducible refine gate_fn (t:=11) rfl ?_);refine goesFL_ (some 16) rfl rfl eg1_ #[.int .i64 (rd l0 x8_1)] rfl rfl mq ?_;(with_reducible refine (HP1.out _ (rd l0 x8_1) true A6.out ?side1).mono ?_);(case side1=>exact bw);rintro e w8 ⟨rfl,hb⟩;refine ⟨_,rfl,?_⟩;have n0_:=aM (below_step bw hb);clear HB;have HB:=n0_;clear n0_;(try clear hb);(try clear hb2);(try clear hk);(try clear hi)))
       go_ret
       exact ⟨by first|rfl|(simp [errW_none,errW_some] <;> rfl)|(simp [*,errW_none,errW_some] <;> rfl),by exact bw⟩
      ·replace c7:=Bool.eq_false_iff.mpr c7;subst c7;have H1:(slices_IndexFunc_int_int.l0 k1 l0 a1 (l0.length:Int) (wrap64 (x8_1 + 1))) = some r:=by rw [if_neg (show ¬ (false = true) by decide)] at H;exact H
       clear H;have H:=H1;clear H1;have H':=aM H;clear H;have p161:0 ≤ (x8_1:Int):=of_decide_eq_true ab;have q161:x8_1 < (l0.length:Int):=of_decide_eq_true ab;obtain ⟨ad161,e161,hx161_0⟩:=Kd.at_int HR0.out x8_1 p161 q161;cases e161
       replace hx161_0:=(HB.out.cell (World.block_lt_of_cell? w _ hx161_0)).trans hx161_0;replace p161:=eq_true p161;replace q161:=eq_true q161;go_wp2_with (first|((with_reducible refine gate_fn (t:=11) rfl ?_);refine goesFL_ (some 16) rfl rfl eg1_ #[.int .i64 (rd l0 x8_1)] rfl rfl mq ?_;(with_reducible refine (HP1.out _ (rd l0 x8_1) false A6.out ?side1).mono ?_);(case side1=>exact bw);rintro e w9 ⟨rfl,hb⟩;refine ⟨_,rfl,?_⟩;have n0_:=aM (below_step bw hb);clear HB;have HB:=n0_;clear n0_;(try clear hb);(try clear hb2);(try clear hk);(try clear hi)))
       go_roundg k1
       case measure=>have:=HK1.out;omega
       case rel=>exact ⟨(wrap64 (x8_1 + 1)),qrs,H',⟨by have:=HK1.out;omega⟩,⟨by exact bw⟩⟩
     ·rw [if_neg c5] at H;exact absurd H (by simp)
    ·rw [if_neg c4] at H;exact absurd H (by simp)
   ·rw [if_neg c3] at H;have c3b0:decide (x8_1 < (l0.length:Int)) = false:=decide_eq_false c3;clear c3;obtain rfl:=Option.some.inj H;go_wp2
    go_ret
    exact ⟨by first|rfl|(simp [errW_none,errW_some] <;> rfl)|(simp [*,errW_none,errW_some] <;> rfl),by exact bw⟩


/-! ### slices_ContainsFunc_int_int: function 198 -/
def slices_ContainsFunc_int_int.f (k:Nat) (l0:List Int) (a1:(Int → Option (Bool))):Option (Bool):=(slices_IndexFunc_int_int.f k l0 a1).bind fun t163=>(some (decide (t163 ≥ 0)))
theorem slices_ContainsFunc_int_int.mono:∀ a0 a1 k,LeO (slices_ContainsFunc_int_int.f k a0 a1) (slices_ContainsFunc_int_int.f (k + 1) a0 a1):=by
 intro a0 a1 k;unfold slices_ContainsFunc_int_int.f
 repeat' with_reducible first|exact slices_IndexFunc_int_int.mono _ _ _|exact LeO.refl _|exact LeO.none _|refine LeO.trans (slices_IndexFunc_int_int.mono _ _ _) (slices_IndexFunc_int_int.mono_p (fun _=>?_) _ _)|refine LeO.ite ?_ ?_|refine LeO.bind ?_ (fun _=>?_)
theorem slices_ContainsFunc_int_int.mono_p {p_ q_:(Int → Option (Bool))} (h_:∀ x0_,LeO (p_ x0_) (q_ x0_)):∀ a0 k,LeO (slices_ContainsFunc_int_int.f k a0 p_) (slices_ContainsFunc_int_int.f k a0 q_):=by
 intro a0 k;unfold slices_ContainsFunc_int_int.f
 repeat' with_reducible first|exact h_ _|refine slices_IndexFunc_int_int.mono_p (fun _=>?_) _ _|exact LeO.refl _|refine LeO.ite ?_ ?_|refine LeO.bind ?_ (fun _=>?_)
set_option maxHeartbeats 8000000 in
set_option maxRecDepth 100000 in
theorem slices_ContainsFunc_int_int.calls (k:Nat) (A0:Option Addr) (c0:Nat) (l0:List Int) (a1:(Int → Option (Bool))) (g1_:Nat) (lb1_:Array Value) (eg1_:∀ (args:Array Value) (w:World),(callFunc g1_ args).run Try.prog w = .ok (.enter g1_ args) w) (r:Bool) (w:World) (hr0:Kd.C (Kd.int .i64) w A0 l0.length l0) (hc0:l0.length ≤ c0) (hp1:∀ (W:World) (b0_:Int) (r0_:Bool),a1 b0_ = some r0_ → Below w.heap.size w W → Calls Try.prog g1_ (#[.int .i64 b0_] ++ lb1_) W fun e w'=>e = .returned (.bool r0_) ∧ Below W.heap.size W w') (h:slices_ContainsFunc_int_int.f k l0 a1 = some r) :
  Calls Try.prog 198 #[.slice A0 l0.length c0,.func (.func g1_) #[] lb1_] w fun e w'=>e = .returned (.bool r) ∧ Below w.heap.size w w':=by
 have HR0:=aM hr0;have HC0:=aM hc0;clear hr0 hc0;have HP1:=aM hp1;clear hp1;have HB:=aM (Below.refl w.heap.size w);have H:((slices_IndexFunc_int_int.f k l0 a1).bind fun t163=>(some (decide (t163 ≥ 0)))) = some r:=h;clear h;replace H:=Option.bind_eq_some_iff.mp H;obtain ⟨t163,A30,H⟩:=H;replace H:(some (decide (t163 ≥ 0))) = some r:=H;have A3:=aM A30;clear A30;obtain rfl:=Option.some.inj H;go_enter Try.func198,Try.ntmps198;go_wp2_with (first|((with_reducible refine gate_callee (f:=211) rfl ?_);refine goesL_ (some 7) rfl rfl Try.func211 kR rfl #[.slice A0 l0.length c0,.func (.func g1_) #[] lb1_] rfl mq ?_;(with_reducible refine (slices_IndexFunc_int_int.calls k _ _ l0 a1 g1_ lb1_ eg1_ t163 _ ?side1 ?side2 ?side3 A3.out).mono ?_);(case side1=>repeat (first|exact HR0.out|(with_reducible refine Kd.C_alloc ?_ _)|(with_reducible refine Kd.C_drewN ?_ _)|(with_reducible refine Kd.C_drew ?_)));(case side2=>exact HC0.out);(case side3=>exact (fun W_ a0_ r0_ hx_ hb_ =>HP1.out W_ a0_ r0_ hx_ (below_step bw hb_) ));rintro e w4 ⟨rfl,hb⟩;refine ⟨_,rfl,?_⟩;have n0_:=aM (below_step bw hb);clear HB;have HB:=n0_;clear n0_;(try clear hb);(try clear hb2);(try clear hk);(try clear hi)))
 go_ret
 exact ⟨by first|rfl|(simp [errW_none,errW_some] <;> rfl)|(simp [*,errW_none,errW_some] <;> rfl),by exact bw⟩


/-! ### impl_areIn_1: function 206 -/
def impl_areIn_1.f (a0:Int) (a1:Int) (a2:Int):Option (Bool):=(impl_within.f a0 a1 a2).bind fun t164=>(some (!t164))
set_option maxHeartbeats 8000000 in
set_option maxRecDepth 100000 in
theorem impl_areIn_1.calls (a0:Int) (gc1:Nat) (a1:Int) (gc2:Nat) (a2:Int) (r:Bool) (w:World) (hb1:w.heap[gc1]? = some (.cells #[.int .i64 a1] 3 (0,0))) (hb2:w.heap[gc2]? = some (.cells #[.int .i64 a2] 3 (0,0))) (hn1_2:gc1 ≠ gc2) (h:impl_areIn_1.f a0 a1 a2 = some r) :
  Calls Try.prog 206 #[.int .i64 a0,.pointer (some ⟨gc1,0,none⟩),.pointer (some ⟨gc2,0,none⟩)] w fun e w'=>e = .returned (.bool r) ∧ Drawn0 w w':=by
 have BK1:=aM hb1;clear hb1;have BK2:=aM hb2;clear hb2;have NB1_2:=aM hn1_2;have NB2_1:=aM (Ne.symm hn1_2);clear hn1_2;have H:((impl_within.f a0 a1 a2).bind fun t164=>(some (!t164))) = some r:=h;clear h;replace H:=Option.bind_eq_some_iff.mp H;obtain ⟨t164,A40,H⟩:=H;replace H:(some (!t164)) = some r:=H;have A4:=aM A40;clear A40;obtain rfl:=Option.some.inj H;have hnb5:=NB1_2.out;have hnc5:=NB2_1.out;have hcz6_0:w.cell? ⟨gc1,0,none⟩ = some (.int .i64 a1):=(blk_cell BK1.out 0).trans rfl;have hfz6_0:=blk_frozen BK1.out 0;have hcz7_0:w.cell? ⟨gc2,0,none⟩ = some (.int .i64 a2):=(blk_cell BK2.out 0).trans rfl;have hfz7_0:=blk_frozen BK2.out 0;go_enter Try.func206,Try.ntmps206;go_wp2_with (first|((with_reducible refine gate_callee (f:=69) rfl ?_);refine goesL_ (some 8) rfl rfl Try.func69 kR rfl #[.int .i64 a0,.int .i64 a1,.int .i64 a2] rfl mq ?_;(with_reducible refine (impl_within.calls a0 a1 a2 t164 _ A4.out).mono ?_);rintro e w' ⟨rfl,⟨nd,rfl⟩⟩;refine ⟨_,rfl,?_⟩))
 go_ret
 exact ⟨by first|rfl|(simp;done)|(simp [*];done),by repeat (first|exact Drawn0.refl _|apply Drawn0.step)⟩
theorem impl_areIn_1.enters:∀ (args:Array Value) (w:World),(callFunc 206 args).run Try.prog w = .ok (.enter 206 args) w:=enters_of Try.func206 kR rfl


/-! ### impl_areIn: function 187 -/
def impl_areIn.f (k:Nat) (l0:List Int) (a1:Int) (a2:Int):Option (Bool):=(slices_ContainsFunc_int_int.f k l0 (fun y0_=>impl_areIn_1.f y0_ a1 a2)).bind fun t167=>(some (!t167))
theorem impl_areIn.mono:∀ a0 a1 a2 k,LeO (impl_areIn.f k a0 a1 a2) (impl_areIn.f (k + 1) a0 a1 a2):=by
 intro a0 a1 a2 k;unfold impl_areIn.f
 repeat' with_reducible first|exact slices_ContainsFunc_int_int.mono _ _ _|exact LeO.refl _|exact LeO.none _|refine LeO.trans (slices_ContainsFunc_int_int.mono _ _ _) (slices_ContainsFunc_int_int.mono_p (fun _=>?_) _ _)|refine LeO.ite ?_ ?_|refine LeO.bind ?_ (fun _=>?_)
set_option maxHeartbeats 8000000 in
set_option maxRecDepth 100000 in
theorem impl_areIn.calls (k:Nat) (A0:Option Addr) (c0:Nat) (l0:List Int) (a1:Int) (a2:Int) (r:Bool) (w:World) (hr0:Kd.C (Kd.int .i64) w A0 l0.length l0) (hc0:l0.length ≤ c0) (h:impl_areIn.f k l0 a1 a2 = some r) :
  Calls Try.prog 187 #[.slice A0 l0.length c0,.int .i64 a1,.int .i64 a2] w fun e w'=>e = .returned (.bool r) ∧ Below w.heap.size w w':=by
 have hmf:∀ (fn:Fn) (first cap:Array Value) (w:World),(Instr.makeFunc fn first cap).run Try.prog w = .ok (.func fn first cap) w:=fun _ _ _ _=>rfl
 have HR0:=aM hr0;have HC0:=aM hc0;clear hr0 hc0;have HB:=aM (Below.refl w.heap.size w);have H:((slices_ContainsFunc_int_int.f k l0 (fun y0_=>impl_areIn_1.f y0_ a1 a2)).bind fun t167=>(some (!t167))) = some r:=h;clear h;replace H:=Option.bind_eq_some_iff.mp H;obtain ⟨t167,A40,H⟩:=H;replace H:(some (!t167)) = some r:=H;have A4:=aM A40;clear A40;obtain rfl:=Option.some.inj H;go_enter Try.func187,Try.ntmps187;go_wp2_with (first|((with_reducible refine gate_dst (N:=4) rfl ?_);refine box_event ?hg (N:=4) ?hd (cs:=#[.int .i64 a1]) (t:=3) ?hr ?_;(case hd=>rfl);(case hg=>rfl);(case hr=>first|(go_simp;done)|(go_simp;rfl));intro gb165 hg w5 hbox hb;have n0_:=aM (below_step bw hb);have n1_:=aM (hbox);have n2_:=aM ((by rw [hg];exact (below_size bw):w.heap.size ≤ gb165));have n3_:=aM ((by rw [hg];exact (below_size bw):w.heap.size ≤ gb165));clear HB;have HB:=n0_;have BK165:=n1_;have GW165:=n2_;have GE165:=n3_;clear n0_ n1_ n2_ n3_;clear hb hbox hg)|((with_reducible refine gate_dst (N:=5) rfl ?_);refine box_event ?hg (N:=5) ?hd (cs:=#[.int .i64 a2]) (t:=3) ?hr ?_;(case hd=>rfl);(case hg=>rfl);(case hr=>first|(go_simp;done)|(go_simp;rfl));intro gb166 hg w6 hbox hb;have n0_:=aM (blk_below (g:=gb165) (o:=.cells #[.int .i64 a1] 3 (0,0)) bk hb);have n1_:=aM (below_step bw hb);have n2_:=aM (hbox);have n3_:=aM ((by rw [hg];exact (below_size bw):w.heap.size ≤ gb166));have n4_:=aM ((by rw [hg];exact (below_size bw):w.heap.size ≤ gb166));have n5_:=aM ((by rw [hg];exact Nat.ne_of_lt (blk_lt (g:=gb165) (o:=.cells #[.int .i64 a1] 3 (0,0)) bk):gb165 ≠ gb166));have n6_:=aM ((by rw [hg];exact Nat.ne_of_gt (blk_lt (g:=gb165) (o:=.cells #[.int .i64 a1] 3 (0,0)) bk):gb166 ≠ gb165));clear BK165;clear HB;have BK165:=n0_;have HB:=n1_;have BK166:=n2_;have GW166:=n3_;have GE166:=n4_;have NB165_166:=n5_;have NB166_165:=n6_;clear n0_ n1_ n2_ n3_ n4_ n5_ n6_;clear hb hbox hg)|((with_reducible refine gate_callee (f:=198) rfl ?_);refine goesL_ (some 9) rfl rfl Try.func198 kR rfl #[.slice A0 l0.length c0,.func (.func 206) #[] #[.pointer (some ⟨gb165,0,none⟩),.pointer (some ⟨gb166,0,none⟩)]] rfl mq ?_;(with_reducible refine (slices_ContainsFunc_int_int.calls k _ _ l0 (fun y0_=>impl_areIn_1.f y0_ a1 a2) 206 #[.pointer (some ⟨gb165,0,none⟩),.pointer (some ⟨gb166,0,none⟩)] impl_areIn_1.enters t167 _ ?side1 ?side2 ?side3 A4.out).mono ?_);(case side1=>exact qcs HR0.out HB.out);(case side2=>exact HC0.out);(case side3=>exact (fun W_ a0_ r0_ hx_ hb_ =>(impl_areIn_1.calls a0_ gb165 a1 gb166 a2 r0_ W_  (box_later bk hb_) (box_later bk hb_) NB165_166.out hx_).mono (fun _ _ h_=>⟨h_.1,h_.2.below⟩)));rintro e w7 ⟨rfl,hb⟩;refine ⟨_,rfl,?_⟩;have n0_:=aM (blk_below (g:=gb165) (o:=.cells #[.int .i64 a1] 3 (0,0)) bk hb);have n1_:=aM (blk_below (g:=gb166) (o:=.cells #[.int .i64 a2] 3 (0,0)) bk hb);have n2_:=aM (below_step bw hb);clear BK165;clear BK166;clear HB;have BK165:=n0_;have BK166:=n1_;have HB:=n2_;clear n0_ n1_ n2_;(try clear hb);(try clear hb2);(try clear hk);(try clear hi)))
 go_ret
 exact ⟨by first|rfl|(simp [errW_none,errW_some] <;> rfl)|(simp [*,errW_none,errW_some] <;> rfl),by exact bw⟩


/-! ### impl_isIncreasing: function 201 -/
def impl_isIncreasing.l0:Nat → List Int → Int → Int → Option (Bool)
 | 0,_,_,_=>none
 | k + 1,x0,x5,x6=>if x6 < x5 then (if x6 > 0 then (if 0 ≤ x6 then (if x6 < (x0.length:Int) then (if 0 ≤ (wrap64 (x6 - 1)) then (if (wrap64 (x6 - 1)) < (x0.length:Int) then (if (rd x0 x6) ≤ (rd x0 (wrap64 (x6 - 1))) then (some false) else (impl_isIncreasing.l0 k x0 x5 (wrap64 (x6 + 1)))) else (none)) else (none)) else (none)) else (none)) else (impl_isIncreasing.l0 k x0 x5 (wrap64 (x6 + 1)))) else (some true)
def impl_isIncreasing.f (k:Nat) (l0:List Int):Option (Bool):=impl_isIncreasing.l0 k l0 (l0.length:Int) 0
theorem impl_isIncreasing.mono_l:∀ k,(∀ y0 y1 y2,LeO (impl_isIncreasing.l0 k y0 y1 y2) (impl_isIncreasing.l0 (k + 1) y0 y1 y2))
 | 0=>fun _ _ _ r h=>by simp [impl_isIncreasing.l0] at h
 | k + 1=>by
  have ih0:=impl_isIncreasing.mono_l k
  ·intro y0 y1 y2;unfold impl_isIncreasing.l0
   repeat' with_reducible first|exact ih0 _ _ _|exact LeO.refl _|exact LeO.none _|refine LeO.ite ?_ ?_|refine LeO.bind ?_ (fun _=>?_)
theorem impl_isIncreasing.mono:∀ a0 k,LeO (impl_isIncreasing.f k a0) (impl_isIncreasing.f (k + 1) a0):=by
 intro a0 k;have ih0:=impl_isIncreasing.mono_l k;unfold impl_isIncreasing.f
 repeat' with_reducible first|exact ih0 _ _ _|exact LeO.refl _|exact LeO.none _|refine LeO.ite ?_ ?_|refine LeO.bind ?_ (fun _=>?_)
set_option maxHeartbeats 8000000 in
set_option maxRecDepth 100000 in
theorem impl_isIncreasing.calls (k:Nat) (A0:Option Addr) (c0:Nat) (l0:List Int) (r:Bool) (w:World) (hr0:Kd.C (Kd.int .i64) w A0 l0.length l0) (hc0:l0.length ≤ c0) (h:impl_isIncreasing.f k l0 = some r) :
  Calls Try.prog 201 #[.slice A0 l0.length c0] w fun e w'=>e = .returned (.bool r) ∧ Drawn0 w w':=by
 have HR0:=aM hr0;have HC0:=aM hc0;clear hr0 hc0;have H:(impl_isIncreasing.l0 k l0 (l0.length:Int) 0) = some r:=h;clear h;have H':=aM H;clear H;go_enter Try.func201,Try.ntmps201;go_wp2
 repeat (go_quiet (fail);try go_wp2)
 go_loopg [6] k (fun kq v6 w'=>∃ (x6_1:Int),v6 = .int .i64 x6_1 ∧ Aside0 (impl_isIncreasing.l0 kq l0 (l0.length:Int) x6_1 = some r) ∧ Aside0 (kq ≤ k) ∧ Drawn0 w w')
 case atStart=>exact ⟨(0),qrs,H',⟨Nat.le_refl _⟩,by repeat (first|exact Drawn0.refl _|apply Drawn0.step)⟩
 case round =>
  clear H';obtain ⟨x6_1,rfl,HA,HK1,⟨m1,rfl⟩⟩:=hrel
  cases gk with
  | zero=>exact absurd HA.out (by simp [impl_isIncreasing.l0])
  | succ k1 =>
   have H:=HA.out;clear HA;simp only [impl_isIncreasing.l0] at H;by_cases c2:x6_1 < (l0.length:Int)
   ·rw [if_pos c2] at H;have c2b0:decide (x6_1 < (l0.length:Int)) = true:=decide_eq_true c2;clear c2;by_cases c3:x6_1 > 0
    ·rw [if_pos c3] at H;have c3b0:decide (0 < x6_1) = true:=decide_eq_true c3;clear c3;by_cases c4:0 ≤ x6_1
     ·rw [if_pos c4] at H;have c4b0:decide (0 ≤ x6_1) = true:=decide_eq_true c4;clear c4;by_cases c5:x6_1 < (l0.length:Int)
      ·rw [if_pos c5] at H;have c5b0:decide (x6_1 < (l0.length:Int)) = true:=decide_eq_true c5;clear c5;obtain ⟨ji6,hji6⟩:∃ j_:Int,(wrap64 (x6_1 - 1)) = j_:=⟨_,rfl⟩;replace H:(if 0 ≤ (ji6) then (if (ji6) < (l0.length:Int) then (if (rd l0 x6_1) ≤ (rd l0 (ji6)) then (some false) else (impl_isIncreasing.l0 k1 l0 (l0.length:Int) (wrap64 (x6_1 + 1)))) else (none)) else (none)) = some r:=by first|(rw [hji6] at H;exact H)|(simp only [hji6] at H ⊢;exact H)
       have hji6w:(IntKind.i64.wrap (x6_1 - 1)) = ji6:=(i64_w _).trans hji6;by_cases c7:0 ≤ (ji6)
       ·rw [if_pos c7] at H;have c7b0:decide (0 ≤ (ji6)) = true:=decide_eq_true c7;clear c7;by_cases c8:(ji6) < (l0.length:Int)
        ·rw [if_pos c8] at H;have c8b0:decide ((ji6) < (l0.length:Int)) = true:=decide_eq_true c8;clear c8;by_cases c9:(rd l0 x6_1) ≤ (rd l0 (ji6))
         ·rw [if_pos c9] at H;have c9b0:decide ((rd l0 x6_1) ≤ (rd l0 (ji6))) = true:=decide_eq_true c9;clear c9;obtain rfl:=Option.some.inj H;have p766:0 ≤ (x6_1:Int):=of_decide_eq_true ab;have q766:x6_1 < (l0.length:Int):=of_decide_eq_true ab;obtain ⟨ad766,e766,hx766_0⟩:=Kd.at_int HR0.out x6_1 p766 q766;cases e766
          replace p766:=eq_true p766;replace q766:=eq_true q766;have p767:0 ≤ ((ji6):Int):=of_decide_eq_true ab;have q767:(ji6) < (l0.length:Int):=of_decide_eq_true ab;obtain ⟨ad767,e767,hx767_0⟩:=Kd.at_int HR0.out (ji6) p767 q767;obtain rfl:ad766 = ad767:=(by injection e767);replace p767:=eq_true p767;replace q767:=eq_true q767;go_wp2
          repeat (go_quiet (fail);try go_wp2)
          go_ret
          exact ⟨by first|rfl|(simp;done)|(simp only [← hji6] <;> (first|rfl|simp))|(simp [*];done),by repeat (first|exact Drawn0.refl _|apply Drawn0.step)⟩
         ·rw [if_neg c9] at H;have c9b0:decide ((rd l0 x6_1) ≤ (rd l0 (ji6))) = false:=decide_eq_false c9;clear c9;have H':=aM H;clear H;have p766:0 ≤ (x6_1:Int):=of_decide_eq_true ab;have q766:x6_1 < (l0.length:Int):=of_decide_eq_true ab;obtain ⟨ad766,e766,hx766_0⟩:=Kd.at_int HR0.out x6_1 p766 q766;cases e766
          replace p766:=eq_true p766;replace q766:=eq_true q766;have p767:0 ≤ ((ji6):Int):=of_decide_eq_true ab;have q767:(ji6) < (l0.length:Int):=of_decide_eq_true ab;obtain ⟨ad767,e767,hx767_0⟩:=Kd.at_int HR0.out (ji6) p767 q767;obtain rfl:ad766 = ad767:=(by injection e767);replace p767:=eq_true p767;replace q767:=eq_true q767;go_wp2
          repeat (go_quiet (fail);try go_wp2)
          go_roundg k1
          case measure=>have:=HK1.out;omega
          case rel=>exact ⟨(wrap64 (x6_1 + 1)),qrs,H',⟨by have:=HK1.out;omega⟩,by repeat (first|exact Drawn0.refl _|apply Drawn0.step)⟩
        ·rw [if_neg c8] at H;exact absurd H (by simp)
       ·rw [if_neg c7] at H;exact absurd H (by simp)
      ·rw [if_neg c5] at H;exact absurd H (by simp)
     ·rw [if_neg c4] at H;exact absurd H (by simp)
    ·rw [if_neg c3] at H;have c3b0:decide (0 < x6_1) = false:=decide_eq_false c3;clear c3;have H':=aM H;clear H;go_wp2
     repeat (go_quiet (fail);try go_wp2)
     go_roundg k1
     case measure=>have:=HK1.out;omega
     case rel=>exact ⟨(wrap64 (x6_1 + 1)),qrs,H',⟨by have:=HK1.out;omega⟩,by repeat (first|exact Drawn0.refl _|apply Drawn0.step)⟩
   ·rw [if_neg c2] at H;have c2b0:decide (x6_1 < (l0.length:Int)) = false:=decide_eq_false c2;clear c2;obtain rfl:=Option.some.inj H;go_wp2
    repeat (go_quiet (fail);try go_wp2)
    go_ret
    exact ⟨by first|rfl|(simp;done)|(simp [*];done),by repeat (first|exact Drawn0.refl _|apply Drawn0.step)⟩


/-! ### impl_isSet: function 176 -/
def impl_isSet.f (k:Nat) (l0:List Int) (a1:Int):Option (Bool):=(impl_areIn.f k l0 0 (wrap64 (a1 - 1))).bind fun t768=>(if t768 = true then ((impl_isIncreasing.f k l0).bind fun t769=>(some t769)) else (some false))
theorem impl_isSet.mono:∀ a0 a1 k,LeO (impl_isSet.f k a0 a1) (impl_isSet.f (k + 1) a0 a1):=by
 intro a0 a1 k;unfold impl_isSet.f
 repeat' with_reducible first|exact impl_areIn.mono _ _ _ _|exact impl_isIncreasing.mono _ _|exact LeO.refl _|exact LeO.none _|refine LeO.ite ?_ ?_|refine LeO.bind ?_ (fun _=>?_)
set_option maxHeartbeats 8000000 in
set_option maxRecDepth 100000 in
theorem impl_isSet.calls (k:Nat) (A0:Option Addr) (c0:Nat) (l0:List Int) (a1:Int) (r:Bool) (w:World) (hr0:Kd.C (Kd.int .i64) w A0 l0.length l0) (hc0:l0.length ≤ c0) (h:impl_isSet.f k l0 a1 = some r) :
  Calls Try.prog 176 #[.slice A0 l0.length c0,.int .i64 a1] w fun e w'=>e = .returned (.bool r) ∧ Below w.heap.size w w':=by
 have HR0:=aM hr0;have HC0:=aM hc0;clear hr0 hc0;have HB:=aM (Below.refl w.heap.size w);have H:((impl_areIn.f k l0 0 (wrap64 (a1 - 1))).bind fun t768=>(if t768 = true then ((impl_isIncreasing.f k l0).bind fun t769=>(some t769)) else (some false))) = some r:=h;clear h;replace H:=Option.bind_eq_some_iff.mp H;obtain ⟨t768,A30,H⟩:=H;replace H:(if t768 = true then ((impl_isIncreasing.f k l0).bind fun t769=>(some t769)) else (some false)) = some r:=H;have A3:=aM A30;clear A30;by_cases c4:t768 = true
 ·subst c4;have H1:((impl_isIncreasing.f k l0).bind fun t769=>(some t769)) = some r:=by rw [if_pos rfl] at H;exact H
  clear H;have H:=H1;clear H1;replace H:=Option.bind_eq_some_iff.mp H;obtain ⟨t769,A50,H⟩:=H;replace H:(some t769) = some r:=H;have A5:=aM A50;clear A50;obtain rfl:=Option.some.inj H;go_enter Try.func176,Try.ntmps176;go_wp2_with (first|((with_reducible refine gate_callee (f:=187) rfl ?_);refine goesL_ (some 8) rfl rfl Try.func187 kR rfl #[.slice A0 l0.length c0,.int .i64 0,.int .i64 (wrap64 (a1 - 1))] rfl mq ?_;(with_reducible refine (impl_areIn.calls k _ _ l0 0 (wrap64 (a1 - 1)) true _ ?side1 ?side2 A3.out).mono ?_);(case side1=>repeat (first|exact HR0.out|(with_reducible refine Kd.C_alloc ?_ _)|(with_reducible refine Kd.C_drewN ?_ _)|(with_reducible refine Kd.C_drew ?_)));(case side2=>exact HC0.out);rintro e w6 ⟨rfl,hb⟩;refine ⟨_,rfl,?_⟩;have n0_:=aM (below_step bw hb);clear HB;have HB:=n0_;clear n0_;(try clear hb);(try clear hb2);(try clear hk);(try clear hi))|(go_at_call 201;(with_reducible refine (impl_isIncreasing.calls k _ _ l0 t769 _ ?side1 ?side2 A5.out).mono ?_);(case side1=>exact qcs HR0.out HB.out);(case side2=>exact HC0.out);rintro e w' ⟨rfl,⟨nd,rfl⟩⟩))
  go_ret
  exact ⟨by first|rfl|(simp [errW_none,errW_some] <;> rfl)|(simp [*,errW_none,errW_some] <;> rfl),by exact bw⟩
 ·replace c4:=Bool.eq_false_iff.mpr c4;subst c4;have H1:(some false) = some r:=by rw [if_neg (show ¬ (false = true) by decide)] at H;exact H
  clear H;have H:=H1;clear H1;obtain rfl:=Option.some.inj H;go_enter Try.func176,Try.ntmps176;go_wp2_with (first|((with_reducible refine gate_callee (f:=187) rfl ?_);refine goesL_ (some 8) rfl rfl Try.func187 kR rfl #[.slice A0 l0.length c0,.int .i64 0,.int .i64 (wrap64 (a1 - 1))] rfl mq ?_;(with_reducible refine (impl_areIn.calls k _ _ l0 0 (wrap64 (a1 - 1)) false _ ?side1 ?side2 A3.out).mono ?_);(case side1=>repeat (first|exact HR0.out|(with_reducible refine Kd.C_alloc ?_ _)|(with_reducible refine Kd.C_drewN ?_ _)|(with_reducible refine Kd.C_drew ?_)));(case side2=>exact HC0.out);rintro e w7 ⟨rfl,hb⟩;refine ⟨_,rfl,?_⟩;have n0_:=aM (below_step bw hb);clear HB;have HB:=n0_;clear n0_;(try clear hb);(try clear hb2);(try clear hk);(try clear hi)))
  go_ret
  exact ⟨by first|rfl|(simp [errW_none,errW_some] <;> rfl)|(simp [*,errW_none,errW_some] <;> rfl),by exact bw⟩


/-! ### impl_areSets_1: function 196 -/
def impl_areSets_1.f (k:Nat) (l0:List Int) (a1:Int):Option (Bool):=if (l0.length:Int) = 0 then (some true) else ((impl_isSet.f k l0 a1).bind fun t770=>(some (!t770)))
theorem impl_areSets_1.mono:∀ a0 a1 k,LeO (impl_areSets_1.f k a0 a1) (impl_areSets_1.f (k + 1) a0 a1):=by
 intro a0 a1 k;unfold impl_areSets_1.f
 repeat' with_reducible first|exact impl_isSet.mono _ _ _|exact LeO.refl _|exact LeO.none _|refine LeO.ite ?_ ?_|refine LeO.bind ?_ (fun _=>?_)
set_option maxHeartbeats 8000000 in
set_option maxRecDepth 100000 in
theorem impl_areSets_1.calls (k:Nat) (A0:Option Addr) (c0:Nat) (l0:List Int) (gc1:Nat) (a1:Int) (r:Bool) (w:World) (hr0:Kd.C (Kd.int .i64) w A0 l0.length l0) (hc0:l0.length ≤ c0) (hb1:w.heap[gc1]? = some (.cells #[.int .i64 a1] 3 (0,0))) (h:impl_areSets_1.f k l0 a1 = some r) :
  Calls Try.prog 196 #[.slice A0 l0.length c0,.pointer (some ⟨gc1,0,none⟩)] w fun e w'=>e = .returned (.bool r) ∧ Below w.heap.size w w':=by
 have HR0:=aM hr0;have HC0:=aM hc0;clear hr0 hc0;have BK1:=aM hb1;clear hb1;have HB:=aM (Below.refl w.heap.size w);have H:(if (l0.length:Int) = 0 then (some true) else ((impl_isSet.f k l0 a1).bind fun t770=>(some (!t770)))) = some r:=h;clear h;by_cases c3:(l0.length:Int) = 0
 ·rw [if_pos c3] at H;have c3b0:((l0.length:Int) == 0) = true:=beq_iff_eq.mpr c3;have c3b1:((l0.length:Int) != 0) = false:=bne_eq_false_iff_eq.mpr c3;clear c3;obtain rfl:=Option.some.inj H;go_enter Try.func196,Try.ntmps196;go_wp2
  go_ret
  exact ⟨by first|rfl|(simp [errW_none,errW_some] <;> rfl)|(simp [*,errW_none,errW_some] <;> rfl),by exact bw⟩
 ·rw [if_neg c3] at H;have c3b0:((l0.length:Int) == 0) = false:=beq_eq_false_iff_ne.mpr c3;have c3b1:((l0.length:Int) != 0) = true:=bne_iff_ne.mpr c3;have c3b2:¬ (l0 = []):=fun h_=>c3 (by rw [h_];rfl)
  replace H:=Option.bind_eq_some_iff.mp H;obtain ⟨t770,A40,H⟩:=H;replace H:(some (!t770)) = some r:=H;have A4:=aM A40;clear A40;obtain rfl:=Option.some.inj H;have hcz5_0:w.cell? ⟨gc1,0,none⟩ = some (.int .i64 a1):=(blk_cell BK1.out 0).trans rfl;have hfz5_0:=blk_frozen BK1.out 0;go_enter Try.func196,Try.ntmps196;go_wp2_with (first|(go_at_call 176;(with_reducible refine (impl_isSet.calls k _ _ l0 a1 t770 _ ?side1 ?side2 A4.out).mono ?_);(case side1=>repeat (first|exact HR0.out|(with_reducible refine Kd.C_alloc ?_ _)|(with_reducible refine Kd.C_drewN ?_ _)|(with_reducible refine Kd.C_drew ?_)));(case side2=>exact HC0.out);rintro e w6 ⟨rfl,hb⟩;have n0_:=aM (blk_below (g:=gc1) (o:=.cells #[.int .i64 a1] 3 (0,0)) bk hb);have n1_:=aM (below_step bw hb);clear BK1;clear HB;have BK1:=n0_;have HB:=n1_;clear n0_ n1_;(try clear hb);(try clear hb2);(try clear hk);(try clear hi)))
  go_ret
  exact ⟨by first|rfl|(simp [errW_none,errW_some] <;> rfl)|(simp [*,errW_none,errW_some] <;> rfl),by exact bw⟩
theorem impl_areSets_1.enters:∀ (args:Array Value) (w:World),(callFunc 196 args).run Try.prog w = .ok (.enter 196 args) w:=enters_of Try.func196 kR rfl


/-! ### impl_areSets: function 168 -/
def impl_areSets.f (k:Nat) (l0:List (List Int)) (a1:Int):Option (Bool):=(slices_ContainsFunc_LLint_int.f k l0 (fun y0_=>impl_areSets_1.f k y0_ a1)).bind fun t772=>(some (!t772))
theorem impl_areSets.mono:∀ a0 a1 k,LeO (impl_areSets.f k a0 a1) (impl_areSets.f (k + 1) a0 a1):=by
 intro a0 a1 k;unfold impl_areSets.f
 repeat' with_reducible first|exact impl_areSets_1.mono _ _ _|exact slices_ContainsFunc_LLint_int.mono _ _ _|exact LeO.refl _|exact LeO.none _|refine LeO.trans (slices_ContainsFunc_LLint_int.mono _ _ _) (slices_ContainsFunc_LLint_int.mono_p (fun _=>?_) _ _)|refine LeO.ite ?_ ?_|refine LeO.bind ?_ (fun _=>?_)
set_option maxHeartbeats 8000000 in
set_option maxRecDepth 100000 in
theorem impl_areSets.calls (k:Nat) (A0:Option Addr) (c0:Nat) (l0:List (List Int)) (a1:Int) (r:Bool) (w:World) (hr0:Kd.C (Kd.slice 3 (Kd.int .i64)) w A0 l0.length l0) (hc0:l0.length ≤ c0) (h:impl_areSets.f k l0 a1 = some r) :
  Calls Try.prog 168 #[.slice A0 l0.length c0,.int .i64 a1] w fun e w'=>e = .returned (.bool r) ∧ Below w.heap.size w w':=by
 have hmf:∀ (fn:Fn) (first cap:Array Value) (w:World),(Instr.makeFunc fn first cap).run Try.prog w = .ok (.func fn first cap) w:=fun _ _ _ _=>rfl
 have HR0:=aM hr0;have HC0:=aM hc0;clear hr0 hc0;have HB:=aM (Below.refl w.heap.size w);have H:((slices_ContainsFunc_LLint_int.f k l0 (fun y0_=>impl_areSets_1.f k y0_ a1)).bind fun t772=>(some (!t772))) = some r:=h;clear h;replace H:=Option.bind_eq_some_iff.mp H;obtain ⟨t772,A30,H⟩:=H;replace H:(some (!t772)) = some r:=H;have A3:=aM A30;clear A30;obtain rfl:=Option.some.inj H;go_enter Try.func168,Try.ntmps168;go_wp2_with (first|((with_reducible refine gate_dst (N:=3) rfl ?_);refine box_event ?hg (N:=3) ?hd (cs:=#[.int .i64 a1]) (t:=3) ?hr ?_;(case hd=>rfl);(case hg=>rfl);(case hr=>first|(go_simp;done)|(go_simp;rfl));intro gb771 hg w4 hbox hb;have n0_:=aM (below_step bw hb);have n1_:=aM (hbox);have n2_:=aM ((by rw [hg];exact (below_size bw):w.heap.size ≤ gb771));have n3_:=aM ((by rw [hg];exact (below_size bw):w.heap.size ≤ gb771));clear HB;have HB:=n0_;have BK771:=n1_;have GW771:=n2_;have GE771:=n3_;clear n0_ n1_ n2_ n3_;clear hb hbox hg)|((with_reducible refine gate_callee (f:=195) rfl ?_);refine goesL_ (some 7) rfl rfl Try.func195 kR rfl #[.slice A0 l0.length c0,.func (.func 196) #[] #[.pointer (some ⟨gb771,0,none⟩)]] rfl mq ?_;(with_reducible refine (slices_ContainsFunc_LLint_int.calls k _ _ l0 (fun y0_=>impl_areSets_1.f k y0_ a1) 196 #[.pointer (some ⟨gb771,0,none⟩)] impl_areSets_1.enters t772 _ ?side1 ?side2 ?side3 A3.out).mono ?_);(case side1=>exact qcs HR0.out HB.out);(case side2=>exact HC0.out);(case side3=>exact (fun W_ A0_ c0_ l0_ r0_ hx_ hb_ hr0_ hc0_=>(impl_areSets_1.calls k A0_ c0_ l0_ gb771 a1 r0_ W_ hr0_ hc0_ (box_later bk hb_) hx_).mono (fun _ _ h_=>h_)));rintro e w5 ⟨rfl,hb⟩;refine ⟨_,rfl,?_⟩;have n0_:=aM (blk_below (g:=gb771) (o:=.cells #[.int .i64 a1] 3 (0,0)) bk hb);have n1_:=aM (below_step bw hb);clear BK771;clear HB;have BK771:=n0_;have HB:=n1_;clear n0_ n1_;(try clear hb);(try clear hb2);(try clear hk);(try clear hi)))
 go_ret
 exact ⟨by first|rfl|(simp [errW_none,errW_some] <;> rfl)|(simp [*,errW_none,errW_some] <;> rfl),by exact bw⟩


/-! ### cmp_isNaN_int: function 202 -/
def cmp_isNaN_int.f (a0:Int):Option (Bool):=some (a0 != a0)
set_option maxHeartbeats 8000000 in
set_option maxRecDepth 100000 in
theorem cmp_isNaN_int.calls (a0:Int) (r:Bool) (w:World) (h:cmp_isNaN_int.f a0 = some r) :
  Calls Try.prog 202 #[.int .i64 a0] w fun e w'=>e = .returned (.bool r) ∧ Drawn0 w w':=by
 have H:(some (a0 != a0)) = some r:=h;clear h;obtain rfl:=Option.some.inj H;go_enter Try.func202,Try.ntmps202;go_wp2
 go_ret
 exact ⟨by first|rfl|(simp;done)|(simp [*];done),by repeat (first|exact Drawn0.refl _|apply Drawn0.step)⟩


/-! ### cmp_Compare_int: function 179 -/
def cmp_Compare_int.f (a0:Int) (a1:Int):Option (Int):=(cmp_isNaN_int.f a0).bind fun t773=>((cmp_isNaN_int.f a1).bind fun t774=>(if t773 = true then (if t774 = true then (some 0) else (some (-1))) else (if t774 = true then (some 1) else (if a0 < a1 then (some (-1)) else (if a0 > a1 then (some 1) else (some 0))))))
set_option maxHeartbeats 8000000 in
set_option maxRecDepth 100000 in
theorem cmp_Compare_int.calls (a0:Int) (a1:Int) (r:Int) (w:World) (h:cmp_Compare_int.f a0 a1 = some r) :
  Calls Try.prog 179 #[.int .i64 a0,.int .i64 a1] w fun e w'=>e = .returned (.int .i64 r) ∧ Drawn0 w w':=by
 have H:((cmp_isNaN_int.f a0).bind fun t773=>((cmp_isNaN_int.f a1).bind fun t774=>(if t773 = true then (if t774 = true then (some 0) else (some (-1))) else (if t774 = true then (some 1) else (if a0 < a1 then (some (-1)) else (if a0 > a1 then (some 1) else (some 0))))))) = some r:=h;clear h;replace H:=Option.bind_eq_some_iff.mp H;obtain ⟨t773,A30,H⟩:=H;replace H:((cmp_isNaN_int.f a1).bind fun t774=>(if t773 = true then (if t774 = true then (some 0) else (some (-1))) else (if t774 = true then (some 1) else (if a0 < a1 then (some (-1)) else (if a0 > a1 then (some 1) else (some 0)))))) = some r:=H;have A3:=aM A30;clear A30;replace H:=Option.bind_eq_some_iff.mp H;obtain ⟨t774,A40,H⟩:=H;replace H:(if t773 = true then (if t774 = true then (some 0) else (some (-1))) else (if t774 = true then (some 1) else (if a0 < a1 then (some (-1)) else (if a0 > a1 then (some 1) else (some 0))))) = some r:=H;have A4:=aM A40;clear A40;by_cases c5:t773 = true
 ·subst c5;have H1:(if t774 = true then (some 0) else (some (-1))) = some r:=by rw [if_pos rfl] at H;exact H
  clear H;have H:=H1;clear H1;by_cases c6:t774 = true
  ·subst c6;have H1:(some 0) = some r:=by rw [if_pos rfl] at H;exact H
   clear H;have H:=H1;clear H1;obtain rfl:=Option.some.inj H;go_enter Try.func179,Try.ntmps179;go_wp2_with (first|((with_reducible refine gate_callee (f:=202) rfl ?_);refine goesL_ (some 8) rfl rfl Try.func202 kR rfl #[.int .i64 a0] rfl mq ?_;(with_reducible refine (cmp_isNaN_int.calls a0 true _ A3.out).mono ?_);rintro e w' ⟨rfl,⟨nd,rfl⟩⟩;refine ⟨_,rfl,?_⟩)|((with_reducible refine gate_callee (f:=202) rfl ?_);refine goesL_ (some 10) rfl rfl Try.func202 kR rfl #[.int .i64 a1] rfl mq ?_;(with_reducible refine (cmp_isNaN_int.calls a1 true _ A4.out).mono ?_);rintro e w' ⟨rfl,⟨nd,rfl⟩⟩;refine ⟨_,rfl,?_⟩))
   go_ret
   exact ⟨by first|rfl|(simp;done)|(simp [*];done),by repeat (first|exact Drawn0.refl _|apply Drawn0.step)⟩
  ·replace c6:=Bool.eq_false_iff.mpr c6;subst c6;have H1:(some (-1)) = some r:=by rw [if_neg (show ¬ (false = true) by decide)] at H;exact H
   clear H;have H:=H1;clear H1;obtain rfl:=Option.some.inj H;go_enter Try.func179,Try.ntmps179;go_wp2_with (first|((with_reducible refine gate_callee (f:=202) rfl ?_);refine goesL_ (some 8) rfl rfl Try.func202 kR rfl #[.int .i64 a0] rfl mq ?_;(with_reducible refine (cmp_isNaN_int.calls a0 true _ A3.out).mono ?_);rintro e w' ⟨rfl,⟨nd,rfl⟩⟩;refine ⟨_,rfl,?_⟩)|((with_reducible refine gate_callee (f:=202) rfl ?_);refine goesL_ (some 10) rfl rfl Try.func202 kR rfl #[.int .i64 a1] rfl mq ?_;(with_reducible refine (cmp_isNaN_int.calls a1 false _ A4.out).mono ?_);rintro e w' ⟨rfl,⟨nd,rfl⟩⟩;refine ⟨_,rfl,?_⟩))
   go_ret
   exact ⟨by first|rfl|(simp;done)|(simp [*];done),by repeat (first|exact Drawn0.refl _|apply Drawn0.step)⟩
 ·replace c5:=Bool.eq_false_iff.mpr c5;subst c5;have H1:(if t774 = true then (some 1) else (if a0 < a1 then (some (-1)) else (if a0 > a1 then (some 1) else (some 0)))) = some r:=by rw [if_neg (show ¬ (false = true) by decide)] at H;exact H
  clear H;have H:=H1;clear H1;by_cases c7:t774 = true
  ·subst c7;have H1:(some 1) = some r:=by rw [if_pos rfl] at H;exact H
   clear H;have H:=H1;clear H1;obtain rfl:=Option.some.inj H;go_enter Try.func179,Try.ntmps179;go_wp2_with (first|((with_reducible refine gate_callee (f:=202) rfl ?_);refine goesL_ (some 8) rfl rfl Try.func202 kR rfl #[.int .i64 a0] rfl mq ?_;(with_reducible refine (cmp_isNaN_int.calls a0 false _ A3.out).mono ?_);rintro e w' ⟨rfl,⟨nd,rfl⟩⟩;refine ⟨_,rfl,?_⟩)|((with_reducible refine gate_callee (f:=202) rfl ?_);refine goesL_ (some 10) rfl rfl Try.func202 kR rfl #[.int .i64 a1] rfl mq ?_;(with_reducible refine (cmp_isNaN_int.calls a1 true _ A4.out).mono ?_);rintro e w' ⟨rfl,⟨nd,rfl⟩⟩;refine ⟨_,rfl,?_⟩))
   go_ret
   exact ⟨by first|rfl|(simp;done)|(simp [*];done),by repeat (first|exact Drawn0.refl _|apply Drawn0.step)⟩
  ·replace c7:=Bool.eq_false_iff.mpr c7;subst c7;have H1:(if a0 < a1 then (some (-1)) else (if a0 > a1 then (some 1) else (some 0))) = some r:=by rw [if_neg (show ¬ (false = true) by decide)] at H;exact H
   clear H;have H:=H1;clear H1;by_cases c8:a0 < a1
   ·rw [if_pos c8] at H;have c8b0:decide (a0 < a1) = true:=decide_eq_true c8;clear c8;obtain rfl:=Option.some.inj H;go_enter Try.func179,Try.ntmps179;go_wp2_with (first|((with_reducible refine gate_callee (f:=202) rfl ?_);refine goesL_ (some 8) rfl rfl Try.func202 kR rfl #[.int .i64 a0] rfl mq ?_;(with_reducible refine (cmp_isNaN_int.calls a0 false _ A3.out).mono ?_);rintro e w' ⟨rfl,⟨nd,rfl⟩⟩;refine ⟨_,rfl,?_⟩)|((with_reducible refine gate_callee (f:=202) rfl ?_);refine goesL_ (some 10) rfl rfl Try.func202 kR rfl #[.int .i64 a1] rfl mq ?_;(with_reducible refine (cmp_isNaN_int.calls a1 false _ A4.out).mono ?_);rintro e w' ⟨rfl,⟨nd,rfl⟩⟩;refine ⟨_,rfl,?_⟩))
    go_ret
    exact ⟨by first|rfl|(simp;done)|(simp [*];done),by repeat (first|exact Drawn0.refl _|apply Drawn0.step)⟩
   ·rw [if_neg c8] at H;have c8b0:decide (a0 < a1) = false:=decide_eq_false c8;clear c8;by_cases c9:a0 > a1
    ·rw [if_pos c9] at H;have c9b0:decide (a1 < a0) = true:=decide_eq_true c9;clear c9;obtain rfl:=Option.some.inj H;go_enter Try.func179,Try.ntmps179;go_wp2_with (first|((with_reducible refine gate_callee (f:=202) rfl ?_);refine goesL_ (some 8) rfl rfl Try.func202 kR rfl #[.int .i64 a0] rfl mq ?_;(with_reducible refine (cmp_isNaN_int.calls a0 false _ A3.out).mono ?_);rintro e w' ⟨rfl,⟨nd,rfl⟩⟩;refine ⟨_,rfl,?_⟩)|((with_reducible refine gate_callee (f:=202) rfl ?_);refine goesL_ (some 10) rfl rfl Try.func202 kR rfl #[.int .i64 a1] rfl mq ?_;(with_reducible refine (cmp_isNaN_int.calls a1 false _ A4.out).mono ?_);rintro e w' ⟨rfl,⟨nd,rfl⟩⟩;refine ⟨_,rfl,?_⟩))
     go_ret
     exact ⟨by first|rfl|(simp;done)|(simp [*];done),by repeat (first|exact Drawn0.refl _|apply Drawn0.step)⟩
    ·rw [if_neg c9] at H;have c9b0:decide (a1 < a0) = false:=decide_eq_false c9;clear c9;obtain rfl:=Option.some.inj H;go_enter Try.func179,Try.ntmps179;go_wp2_with (first|((with_reducible refine gate_callee (f:=202) rfl ?_);refine goesL_ (some 8) rfl rfl Try.func202 kR rfl #[.int .i64 a0] rfl mq ?_;(with_reducible refine (cmp_isNaN_int.calls a0 false _ A3.out).mono ?_);rintro e w' ⟨rfl,⟨nd,rfl⟩⟩;refine ⟨_,rfl,?_⟩)|((with_reducible refine gate_callee (f:=202) rfl ?_);refine goesL_ (some 10) rfl rfl Try.func202 kR rfl #[.int .i64 a1] rfl mq ?_;(with_reducible refine (cmp_isNaN_int.calls a1 false _ A4.out).mono ?_);rintro e w' ⟨rfl,⟨nd,rfl⟩⟩;refine ⟨_,rfl,?_⟩))
     go_ret
     exact ⟨by first|rfl|(simp;done)|(simp [*];done),by repeat (first|exact Drawn0.refl _|apply Drawn0.step)⟩


/-! ### slices_Compare_int_int: function 169 -/
def slices_Compare_int_int.l0:Nat → List Int → List Int → List Int → Int → Int → Option (Int)
 | 0,_,_,_,_,_=>none
 | k + 1,x0,x1,x9,x10,x11=>if x11 < x10 then (if 0 ≤ x11 then (if x11 < (x9.length:Int) then (if x11 ≥ (x1.length:Int) then (some 1) else (if x11 < (x1.length:Int) then ((cmp_Compare_int.f (rd x9 x11) (rd x1 x11)).bind fun t777=>(if t777 = 0 then (slices_Compare_int_int.l0 k x0 x1 x9 x10 (wrap64 (x11 + 1))) else (some t777))) else (none))) else (none)) else (none)) else (if (x0.length:Int) < (x1.length:Int) then (some (-1)) else (some 0))
def slices_Compare_int_int.f (k:Nat) (l0:List Int) (l1:List Int):Option (Int):=slices_Compare_int_int.l0 k l0 l1 l0 (l0.length:Int) 0
theorem slices_Compare_int_int.mono_l:∀ k,(∀ y0 y1 y2 y3 y4,LeO (slices_Compare_int_int.l0 k y0 y1 y2 y3 y4) (slices_Compare_int_int.l0 (k + 1) y0 y1 y2 y3 y4))
 | 0=>fun _ _ _ _ _ r h=>by simp [slices_Compare_int_int.l0] at h
 | k + 1=>by
  have ih0:=slices_Compare_int_int.mono_l k
  ·intro y0 y1 y2 y3 y4;unfold slices_Compare_int_int.l0
   repeat' with_reducible first|exact ih0 _ _ _ _ _|exact LeO.refl _|exact LeO.none _|refine LeO.ite ?_ ?_|refine LeO.bind ?_ (fun _=>?_)
theorem slices_Compare_int_int.mono:∀ a0 a1 k,LeO (slices_Compare_int_int.f k a0 a1) (slices_Compare_int_int.f (k + 1) a0 a1):=by
 intro a0 a1 k;have ih0:=slices_Compare_int_int.mono_l k;unfold slices_Compare_int_int.f
 repeat' with_reducible first|exact ih0 _ _ _ _ _|exact LeO.refl _|exact LeO.none _|refine LeO.ite ?_ ?_|refine LeO.bind ?_ (fun _=>?_)
set_option maxHeartbeats 8000000 in
set_option maxRecDepth 100000 in
theorem slices_Compare_int_int.calls (k:Nat) (A0:Option Addr) (c0:Nat) (l0:List Int) (A1:Option Addr) (c1:Nat) (l1:List Int) (r:Int) (w:World) (hr0:Kd.C (Kd.int .i64) w A0 l0.length l0) (hc0:l0.length ≤ c0) (hr1:Kd.C (Kd.int .i64) w A1 l1.length l1) (hc1:l1.length ≤ c1) (h:slices_Compare_int_int.f k l0 l1 = some r) :
  Calls Try.prog 169 #[.slice A0 l0.length c0,.slice A1 l1.length c1] w fun e w'=>e = .returned (.int .i64 r) ∧ Drawn0 w w':=by
 have HR0:=aM hr0;have HC0:=aM hc0;clear hr0 hc0;have HR1:=aM hr1;have HC1:=aM hc1;clear hr1 hc1;have H:(slices_Compare_int_int.l0 k l0 l1 l0 (l0.length:Int) 0) = some r:=h;clear h;have H':=aM H;clear H;go_enter Try.func169,Try.ntmps169;go_wp2
 go_loopg [11] k (fun kq v11 w'=>∃ (x11_1:Int),v11 = .int .i64 x11_1 ∧ Aside0 (slices_Compare_int_int.l0 kq l0 l1 l0 (l0.length:Int) x11_1 = some r) ∧ Aside0 (kq ≤ k) ∧ Drawn0 w w')
 case atStart=>exact ⟨(0),qrs,H',⟨Nat.le_refl _⟩,by repeat (first|exact Drawn0.refl _|apply Drawn0.step)⟩
 case round =>
  clear H';(try clear c1);(try clear p2)
  obtain ⟨x11_1,rfl,HA,HK1,⟨m1,rfl⟩⟩:=hrel
  cases gk with
  | zero=>exact absurd HA.out (by simp [slices_Compare_int_int.l0])
  | succ k1 =>
   have H:=HA.out;clear HA;simp only [slices_Compare_int_int.l0] at H;by_cases c3:x11_1 < (l0.length:Int)
   ·rw [if_pos c3] at H;have c3b0:decide (x11_1 < (l0.length:Int)) = true:=decide_eq_true c3;clear c3;by_cases c4:0 ≤ x11_1
    ·rw [if_pos c4] at H;have c4b0:decide (0 ≤ x11_1) = true:=decide_eq_true c4;clear c4;by_cases c5:x11_1 < (l0.length:Int)
     ·rw [if_pos c5] at H;have c5b0:decide (x11_1 < (l0.length:Int)) = true:=decide_eq_true c5;clear c5;by_cases c6:x11_1 ≥ (l1.length:Int)
      ·rw [if_pos c6] at H;have c6b0:decide ((l1.length:Int) ≤ x11_1) = true:=decide_eq_true c6;clear c6;obtain rfl:=Option.some.inj H;have p775:0 ≤ (x11_1:Int):=of_decide_eq_true ab;have q775:x11_1 < (l0.length:Int):=of_decide_eq_true ab;obtain ⟨ad775,e775,hx775_0⟩:=Kd.at_int HR0.out x11_1 p775 q775;cases e775
       replace p775:=eq_true p775;replace q775:=eq_true q775;go_wp2
       go_ret
       exact ⟨by first|rfl|(simp;done)|(simp [*];done),by repeat (first|exact Drawn0.refl _|apply Drawn0.step)⟩
      ·rw [if_neg c6] at H;have c6b0:decide ((l1.length:Int) ≤ x11_1) = false:=decide_eq_false c6;clear c6;by_cases c7:x11_1 < (l1.length:Int)
       ·rw [if_pos c7] at H;have c7b0:decide (x11_1 < (l1.length:Int)) = true:=decide_eq_true c7;clear c7;replace H:=Option.bind_eq_some_iff.mp H;obtain ⟨t777,A80,H⟩:=H;replace H:(if t777 = 0 then (slices_Compare_int_int.l0 k1 l0 l1 l0 (l0.length:Int) (wrap64 (x11_1 + 1))) else (some t777)) = some r:=H;have A8:=aM A80;clear A80;by_cases c9:t777 = 0
        ·rw [if_pos c9] at H;have c9b0:(t777 == 0) = true:=beq_iff_eq.mpr c9;have c9b1:(t777 != 0) = false:=bne_eq_false_iff_eq.mpr c9;clear c9;have H':=aM H;clear H;have p775:0 ≤ (x11_1:Int):=of_decide_eq_true ab;have q775:x11_1 < (l0.length:Int):=of_decide_eq_true ab;obtain ⟨ad775,e775,hx775_0⟩:=Kd.at_int HR0.out x11_1 p775 q775;cases e775
         replace p775:=eq_true p775;replace q775:=eq_true q775;have p776:0 ≤ (x11_1:Int):=of_decide_eq_true ab;have q776:x11_1 < (l1.length:Int):=of_decide_eq_true ab;obtain ⟨ad776,e776,hx776_0⟩:=Kd.at_int HR1.out x11_1 p776 q776;cases e776
         replace p776:=eq_true p776;replace q776:=eq_true q776;go_wp2_with (first|((with_reducible refine gate_callee (f:=179) rfl ?_);refine goesL_ (some 26) rfl rfl Try.func179 kR rfl #[.int .i64 (rd l0 x11_1),.int .i64 (rd l1 x11_1)] rfl mq ?_;(with_reducible refine (cmp_Compare_int.calls (rd l0 x11_1) (rd l1 x11_1) t777 _ A8.out).mono ?_);rintro e w' ⟨rfl,⟨nd,rfl⟩⟩;refine ⟨_,rfl,?_⟩))
         go_roundg k1
         case measure=>have:=HK1.out;omega
         case rel=>exact ⟨(wrap64 (x11_1 + 1)),qrs,H',⟨by have:=HK1.out;omega⟩,by repeat (first|exact Drawn0.refl _|apply Drawn0.step)⟩
        ·rw [if_neg c9] at H;have c9b0:(t777 == 0) = false:=beq_eq_false_iff_ne.mpr c9;have c9b1:(t777 != 0) = true:=bne_iff_ne.mpr c9;obtain rfl:=Option.some.inj H;have p775:0 ≤ (x11_1:Int):=of_decide_eq_true ab;have q775:x11_1 < (l0.length:Int):=of_decide_eq_true ab;obtain ⟨ad775,e775,hx775_0⟩:=Kd.at_int HR0.out x11_1 p775 q775;cases e775
         replace p775:=eq_true p775;replace q775:=eq_true q775;have p776:0 ≤ (x11_1:Int):=of_decide_eq_true ab;have q776:x11_1 < (l1.length:Int):=of_decide_eq_true ab;obtain ⟨ad776,e776,hx776_0⟩:=Kd.at_int HR1.out x11_1 p776 q776;cases e776
         replace p776:=eq_true p776;replace q776:=eq_true q776;go_wp2_with (first|((with_reducible refine gate_callee (f:=179) rfl ?_);refine goesL_ (some 26) rfl rfl Try.func179 kR rfl #[.int .i64 (rd l0 x11_1),.int .i64 (rd l1 x11_1)] rfl mq ?_;(with_reducible refine (cmp_Compare_int.calls (rd l0 x11_1) (rd l1 x11_1) t777 _ A8.out).mono ?_);rintro e w' ⟨rfl,⟨nd,rfl⟩⟩;refine ⟨_,rfl,?_⟩))
         go_ret
         exact ⟨by first|rfl|(simp;done)|(simp [*];done),by repeat (first|exact Drawn0.refl _|apply Drawn0.step)⟩
       ·rw [if_neg c7] at H;exact absurd H (by simp)
     ·rw [if_neg c5] at H;exact absurd H (by simp)
    ·rw [if_neg c4] at H;exact absurd H (by simp)
   ·rw [if_neg c3] at H;have c3b0:decide (x11_1 < (l0.length:Int)) = false:=decide_eq_false c3;clear c3;by_cases c10:(l0.length:Int) < (l1.length:Int)
    ·rw [if_pos c10] at H;have c10b0:decide ((l0.length:Int) < (l1.length:Int)) = true:=decide_eq_true c10;have c10b1:decide (l0.length < l1.length) = true:=decide_eq_true (Int.ofNat_lt.mp c10);clear c10;obtain rfl:=Option.some.inj H;go_wp2
     go_ret
     exact ⟨by first|rfl|(simp;done)|(simp [*];done),by repeat (first|exact Drawn0.refl _|apply Drawn0.step)⟩
    ·rw [if_neg c10] at H;have c10b0:decide ((l0.length:Int) < (l1.length:Int)) = false:=decide_eq_false c10;have c10b1:decide (l0.length < l1.length) = false:=decide_eq_false (fun h=>c10 (Int.ofNat_lt.mpr h));clear c10;obtain rfl:=Option.some.inj H;go_wp2
     go_ret
     exact ⟨by first|rfl|(simp;done)|(simp [*];done),by repeat (first|exact Drawn0.refl _|apply Drawn0.step)⟩


/-! ### impl_maskOf: function 170 -/
def impl_maskOf.l0:Nat → Int → List Int → Int → Int → Option (Int)
 | 0,_,_,_,_=>none
 | k + 1,x3,x6,x7,x8=>if x8 < x7 then (if 0 ≤ x8 then (if x8 < (x6.length:Int) then (if 0 ≤ (rd x6 x8) then (impl_maskOf.l0 k (Go.bits .or .i64 x3 (shl .i64 1 (rd x6 x8))) x6 x7 (wrap64 (x8 + 1))) else (none)) else (none)) else (none)) else (some x3)
def impl_maskOf.f (k:Nat) (l0:List Int):Option (Int):=impl_maskOf.l0 k 0 l0 (l0.length:Int) 0
theorem impl_maskOf.mono_l:∀ k,(∀ y0 y1 y2 y3,LeO (impl_maskOf.l0 k y0 y1 y2 y3) (impl_maskOf.l0 (k + 1) y0 y1 y2 y3))
 | 0=>fun _ _ _ _ r h=>by simp [impl_maskOf.l0] at h
 | k + 1=>by
  have ih0:=impl_maskOf.mono_l k
  ·intro y0 y1 y2 y3;unfold impl_maskOf.l0
   repeat' with_reducible first|exact ih0 _ _ _ _|exact LeO.refl _|exact LeO.none _|refine LeO.ite ?_ ?_|refine LeO.bind ?_ (fun _=>?_)
theorem impl_maskOf.mono:∀ a0 k,LeO (impl_maskOf.f k a0) (impl_maskOf.f (k + 1) a0):=by
 intro a0 k;have ih0:=impl_maskOf.mono_l k;unfold impl_maskOf.f
 repeat' with_reducible first|exact ih0 _ _ _ _|exact LeO.refl _|exact LeO.none _|refine LeO.ite ?_ ?_|refine LeO.bind ?_ (fun _=>?_)
set_option maxHeartbeats 8000000 in
set_option maxRecDepth 100000 in
theorem impl_maskOf.calls (k:Nat) (A0:Option Addr) (c0:Nat) (l0:List Int) (r:Int) (w:World) (hr0:Kd.C (Kd.int .i64) w A0 l0.length l0) (hc0:l0.length ≤ c0) (h:impl_maskOf.f k l0 = some r) :
  Calls Try.prog 170 #[.slice A0 l0.length c0] w fun e w'=>e = .returned (.int .i64 r) ∧ Drawn0 w w':=by
 have HR0:=aM hr0;have HC0:=aM hc0;clear hr0 hc0;have H:(impl_maskOf.l0 k 0 l0 (l0.length:Int) 0) = some r:=h;clear h;have H':=aM H;clear H;go_enter Try.func170,Try.ntmps170;go_wp2
 go_loopg [3,8] k (fun kq v3 v8 w'=>∃ (x3_1:Int) (x8_1:Int),v3 = .int .i64 x3_1 ∧ v8 = .int .i64 x8_1 ∧ Aside0 (impl_maskOf.l0 kq x3_1 l0 (l0.length:Int) x8_1 = some r) ∧ Aside0 (kq ≤ k) ∧ Drawn0 w w')
 case atStart=>exact ⟨(0),(0),qrs,qrs,H',⟨Nat.le_refl _⟩,by repeat (first|exact Drawn0.refl _|apply Drawn0.step)⟩
 case round =>
  clear H'
  try clear c1
  obtain ⟨x3_1,x8_1,rfl,rfl,HA,HK1,⟨m1,rfl⟩⟩:=hrel
  cases gk with
  | zero=>exact absurd HA.out (by simp [impl_maskOf.l0])
  | succ k1 =>
   have H:=HA.out;clear HA;simp only [impl_maskOf.l0] at H;by_cases c2:x8_1 < (l0.length:Int)
   ·rw [if_pos c2] at H;have c2b0:decide (x8_1 < (l0.length:Int)) = true:=decide_eq_true c2;clear c2;by_cases c3:0 ≤ x8_1
    ·rw [if_pos c3] at H;have c3b0:decide (0 ≤ x8_1) = true:=decide_eq_true c3;clear c3;by_cases c4:x8_1 < (l0.length:Int)
     ·rw [if_pos c4] at H;have c4b0:decide (x8_1 < (l0.length:Int)) = true:=decide_eq_true c4;clear c4;by_cases c5:0 ≤ (rd l0 x8_1)
      ·rw [if_pos c5] at H;have c5b0:=eq_true c5;have c5b1:decide (0 ≤ (rd l0 x8_1)) = true:=decide_eq_true c5;clear c5;obtain ⟨ji6,hji6⟩:∃ j_:Int,(shl .i64 1 (rd l0 x8_1)) = j_:=⟨_,rfl⟩;replace H:(impl_maskOf.l0 k1 (Go.bits .or .i64 x3_1 (ji6)) l0 (l0.length:Int) (wrap64 (x8_1 + 1))) = some r:=by first|(rw [hji6] at H;exact H)|(simp only [hji6] at H ⊢;exact H)
       have hji6_:(IntKind.i64.wrap (1 * 2 ^ min (rd l0 x8_1).toNat 64)) = ji6:=hji6;have hji6z:(rd l0 x8_1) ≤ 64 → (IntKind.i64.wrap (1 * 2 ^ (rd l0 x8_1).toNat)) = ji6:=shl_small hji6;have hji6u:(IntKind.i64.wrap (2 ^ min (rd l0 x8_1).toNat 64)) = ji6:=by have h_:=hji6_;rw [Int.one_mul] at h_;exact h_
       have hji6v:(rd l0 x8_1) ≤ 64 → (IntKind.i64.wrap (2 ^ (rd l0 x8_1).toNat)) = ji6:=fun hle_=>by have h_:=hji6z hle_;rw [Int.one_mul] at h_;exact h_
       have hji6y:(wrap64 (1 * 2 ^ min (rd l0 x8_1).toNat 64)) = ji6:=(i64_w _).symm.trans hji6_;have hji6x:(rd l0 x8_1) ≤ 64 → (wrap64 (1 * 2 ^ (rd l0 x8_1).toNat)) = ji6:=fun h_=>(i64_w _).symm.trans (hji6z h_)
       have H':=aM H;clear H;have p778:0 ≤ (x8_1:Int):=of_decide_eq_true ab;have q778:x8_1 < (l0.length:Int):=of_decide_eq_true ab;obtain ⟨ad778,e778,hx778_0⟩:=Kd.at_int HR0.out x8_1 p778 q778;cases e778
       replace p778:=eq_true p778;replace q778:=eq_true q778;go_wp2
       go_roundg k1
       case measure=>have:=HK1.out;omega
       case rel=>exact ⟨(Go.bits .or .i64 x3_1 (ji6)),(wrap64 (x8_1 + 1)),(by first|rfl|(simp;done)|(simp only [← hji6] <;> (first|rfl|simp))|(simp [*];done)),qrs,H',⟨by have:=HK1.out;omega⟩,by repeat (first|exact Drawn0.refl _|apply Drawn0.step)⟩
      ·rw [if_neg c5] at H;exact absurd H (by simp)
     ·rw [if_neg c4] at H;exact absurd H (by simp)
    ·rw [if_neg c3] at H;exact absurd H (by simp)
   ·rw [if_neg c2] at H;have c2b0:decide (x8_1 < (l0.length:Int)) = false:=decide_eq_false c2;clear c2;obtain rfl:=Option.some.inj H;go_wp2
    go_ret
    exact ⟨by first|rfl|(simp;done)|(simp [*];done),by repeat (first|exact Drawn0.refl _|apply Drawn0.step)⟩


/-! ### impl_IsGame: function 104 -/
mutual
def impl_IsGame.j0:Nat → Bool → Int → List (List Int) → Option (Bool)
 | 0,_,_,_=>none
 | k + 1,x24,x780000,x780001=>if x24 = true then (some false) else (impl_IsGame.l0 k x780001 (x780001.length:Int) 0 x780000 x780001)
def impl_IsGame.l0:Nat → List (List Int) → Int → Int → Int → List (List Int) → Option (Bool)
 | 0,_,_,_,_,_=>none
 | k + 1,x26,x27,x28,x780000,x780001=>if x28 < x27 then (if 0 ≤ x28 then (if x28 < (x26.length:Int) then (if x28 > 0 then (if 0 ≤ (wrap64 (x28 - 1)) then (if (wrap64 (x28 - 1)) < (x780001.length:Int) then ((slices_Compare_int_int.f k (rd_LI x780001 (wrap64 (x28 - 1))) (rd_LI x26 x28)).bind fun t784=>(impl_IsGame.j2 k x28 (rd_LI x26 x28) x26 x27 x28 (decide (t784 ≥ 0)) x780000 x780001)) else (none)) else (none)) else (impl_IsGame.j2 k x28 (rd_LI x26 x28) x26 x27 x28 false x780000 x780001)) else (none)) else (none)) else (some true)
def impl_IsGame.j2:Nat → Int → List Int → List (List Int) → Int → Int → Bool → Int → List (List Int) → Option (Bool)
 | 0,_,_,_,_,_,_,_,_=>none
 | k + 1,x3,x4,x26,x27,x28,x45,x780000,x780001=>if x45 = true then (some false) else (impl_IsGame.l1 k x3 x4 x26 x27 x28 x780001 (x780001.length:Int) 0 x780000 x780001)
def impl_IsGame.l1:Nat → Int → List Int → List (List Int) → Int → Int → List (List Int) → Int → Int → Int → List (List Int) → Option (Bool)
 | 0,_,_,_,_,_,_,_,_,_,_=>none
 | k + 1,x3,x4,x26,x27,x28,x47,x48,x49,x780000,x780001=>if x49 < x48 then (if 0 ≤ x49 then (if x49 < (x47.length:Int) then (if x49 = x3 then (impl_IsGame.l1 k x3 x4 x26 x27 x28 x47 x48 (wrap64 (x49 + 1)) x780000 x780001) else ((impl_maskOf.f k x4).bind fun t786=>((impl_maskOf.f k (rd_LI x47 x49)).bind fun t787=>((impl_maskOf.f k (rd_LI x47 x49)).bind fun t788=>(if (Go.bits .and .i64 t786 t787) = t788 then (some false) else (impl_IsGame.l1 k x3 x4 x26 x27 x28 x47 x48 (wrap64 (x49 + 1)) x780000 x780001)))))) else (none)) else (none)) else (impl_IsGame.l0 k x26 x27 (wrap64 (x28 + 1)) x780000 x780001)
end
def impl_IsGame.f (k:Nat) (a0_0:Int) (l0_1:List (List Int)):Option (Bool):=(impl_within.f a0_0 1 9).bind fun t780=>(if t780 = true then (if (l0_1.length:Int) = 0 then (impl_IsGame.j0 k true a0_0 l0_1) else ((impl_areSets.f k l0_1 a0_0).bind fun t781=>(impl_IsGame.j0 k (!t781) a0_0 l0_1))) else (impl_IsGame.j0 k true a0_0 l0_1))
theorem impl_IsGame.mono_l:∀ k,(∀ y0 y1 y2,LeO (impl_IsGame.j0 k y0 y1 y2) (impl_IsGame.j0 (k + 1) y0 y1 y2)) ∧ (∀ y0 y1 y2 y3 y4,LeO (impl_IsGame.l0 k y0 y1 y2 y3 y4) (impl_IsGame.l0 (k + 1) y0 y1 y2 y3 y4)) ∧ (∀ y0 y1 y2 y3 y4 y5 y6 y7,LeO (impl_IsGame.j2 k y0 y1 y2 y3 y4 y5 y6 y7) (impl_IsGame.j2 (k + 1) y0 y1 y2 y3 y4 y5 y6 y7)) ∧ (∀ y0 y1 y2 y3 y4 y5 y6 y7 y8 y9,LeO (impl_IsGame.l1 k y0 y1 y2 y3 y4 y5 y6 y7 y8 y9) (impl_IsGame.l1 (k + 1) y0 y1 y2 y3 y4 y5 y6 y7 y8 y9))
 | 0=>⟨fun _ _ _ r h=>by simp [impl_IsGame.j0] at h,fun _ _ _ _ _ r h=>by simp [impl_IsGame.l0] at h,fun _ _ _ _ _ _ _ _ r h=>by simp [impl_IsGame.j2] at h,fun _ _ _ _ _ _ _ _ _ _ r h=>by simp [impl_IsGame.l1] at h⟩
 | k + 1=>by
  obtain ⟨ih0,ih1,ih2,ih3⟩:=impl_IsGame.mono_l k;refine ⟨?_,?_,?_,?_⟩
  ·intro y0 y1 y2;unfold impl_IsGame.j0
   repeat' with_reducible first|exact ih0 _ _ _|exact ih1 _ _ _ _ _|exact ih2 _ _ _ _ _ _ _ _|exact ih3 _ _ _ _ _ _ _ _ _ _|exact impl_areSets.mono _ _ _|exact impl_maskOf.mono _ _|exact slices_Compare_int_int.mono _ _ _|exact LeO.refl _|exact LeO.none _|refine LeO.ite ?_ ?_|refine LeO.bind ?_ (fun _=>?_)
  ·intro y0 y1 y2 y3 y4;unfold impl_IsGame.l0
   repeat' with_reducible first|exact ih0 _ _ _|exact ih1 _ _ _ _ _|exact ih2 _ _ _ _ _ _ _ _|exact ih3 _ _ _ _ _ _ _ _ _ _|exact impl_areSets.mono _ _ _|exact impl_maskOf.mono _ _|exact slices_Compare_int_int.mono _ _ _|exact LeO.refl _|exact LeO.none _|refine LeO.ite ?_ ?_|refine LeO.bind ?_ (fun _=>?_)
  ·intro y0 y1 y2 y3 y4 y5 y6 y7;unfold impl_IsGame.j2
   repeat' with_reducible first|exact ih0 _ _ _|exact ih1 _ _ _ _ _|exact ih2 _ _ _ _ _ _ _ _|exact ih3 _ _ _ _ _ _ _ _ _ _|exact impl_areSets.mono _ _ _|exact impl_maskOf.mono _ _|exact slices_Compare_int_int.mono _ _ _|exact LeO.refl _|exact LeO.none _|refine LeO.ite ?_ ?_|refine LeO.bind ?_ (fun _=>?_)
  ·intro y0 y1 y2 y3 y4 y5 y6 y7 y8 y9;unfold impl_IsGame.l1
   repeat' with_reducible first|exact ih0 _ _ _|exact ih1 _ _ _ _ _|exact ih2 _ _ _ _ _ _ _ _|exact ih3 _ _ _ _ _ _ _ _ _ _|exact impl_areSets.mono _ _ _|exact impl_maskOf.mono _ _|exact slices_Compare_int_int.mono _ _ _|exact LeO.refl _|exact LeO.none _|refine LeO.ite ?_ ?_|refine LeO.bind ?_ (fun _=>?_)
theorem impl_IsGame.mono:∀ a0 a1 k,LeO (impl_IsGame.f k a0 a1) (impl_IsGame.f (k + 1) a0 a1):=by
 intro a0 a1 k;obtain ⟨ih0,ih1,ih2,ih3⟩:=impl_IsGame.mono_l k;unfold impl_IsGame.f
 repeat' with_reducible first|exact ih0 _ _ _|exact ih1 _ _ _ _ _|exact ih2 _ _ _ _ _ _ _ _|exact ih3 _ _ _ _ _ _ _ _ _ _|exact impl_areSets.mono _ _ _|exact impl_maskOf.mono _ _|exact slices_Compare_int_int.mono _ _ _|exact LeO.refl _|exact LeO.none _|refine LeO.ite ?_ ?_|refine LeO.bind ?_ (fun _=>?_)
set_option maxHeartbeats 8000000 in
set_option maxRecDepth 100000 in
theorem impl_IsGame.calls (k:Nat) (a0_0:Int) (A0_1:Option Addr) (c0_1:Nat) (l0_1:List (List Int)) (r:Bool) (w:World) (hr0_1:Kd.C (Kd.slice 3 (Kd.int .i64)) w A0_1 l0_1.length l0_1) (hc0_1:l0_1.length ≤ c0_1) (h:impl_IsGame.f k a0_0 l0_1 = some r) :
  Calls Try.prog 104 #[.agg #[.int .i64 a0_0,.slice A0_1 l0_1.length c0_1]] w fun e w'=>e = .returned (.bool r) ∧ Below w.heap.size w w':=by
 have hu57:=Try.underlying57;have HR0_1:=aM hr0_1;have HC0_1:=aM hc0_1;clear hr0_1 hc0_1;have HB:=aM (Below.refl w.heap.size w);have H:((impl_within.f a0_0 1 9).bind fun t780=>(if t780 = true then (if (l0_1.length:Int) = 0 then (impl_IsGame.j0 k true a0_0 l0_1) else ((impl_areSets.f k l0_1 a0_0).bind fun t781=>(impl_IsGame.j0 k (!t781) a0_0 l0_1))) else (impl_IsGame.j0 k true a0_0 l0_1))) = some r:=h;clear h;have HC2:=aM H;clear H;go_enter Try.func104,Try.ntmps104;go_upto_region 1 with (first|((with_reducible refine gate_dst (N:=1) rfl ?_);(try (refine gate_guard (by rfl) ?_;dsimp only));refine box_event ?hg (N:=1) ?hd (cs:=#[.int .i64 a0_0,.slice A0_1 l0_1.length c0_1]) (t:=57) ?hr ?_;(case hd=>rfl);(case hg=>rfl);(case hr=>first|(go_simp;done)|(go_simp;rfl));intro gb779 hg w3 hbox hb;have n0_:=aM (below_step bw hb);have n1_:=aM (hbox);have n2_:=aM ((by rw [hg];exact (below_size bw):w.heap.size ≤ gb779));have n3_:=aM ((by rw [hg];exact (below_size bw):w.heap.size ≤ gb779));clear HB;have HB:=n0_;have BK779:=n1_;have GW779:=n2_;have GE779:=n3_;clear n0_ n1_ n2_ n3_;clear hb hbox hg))
 (try simp only [Act.put,sA,sZ,sS])
 go_cut [24] (fun v24 wc=>∃ (kq:Nat) (x24_1:Bool),v24 = .bool x24_1 ∧ Aside0 (impl_IsGame.j0 kq x24_1 a0_0 l0_1 = some r) ∧ Aside0 (kq ≤ k) ∧ Aside0 (wc.heap[gb779]? = some (.cells #[.int .i64 a0_0,(.slice A0_1 l0_1.length c0_1)] 57 (0,0))) ∧ Aside0 (Below w.heap.size w wc))
 case first =>
  have H:=HC2.out;clear HC2;replace H:=Option.bind_eq_some_iff.mp H;obtain ⟨t780,A40,H⟩:=H;replace H:(if t780 = true then (if (l0_1.length:Int) = 0 then (impl_IsGame.j0 k true a0_0 l0_1) else ((impl_areSets.f k l0_1 a0_0).bind fun t781=>(impl_IsGame.j0 k (!t781) a0_0 l0_1))) else (impl_IsGame.j0 k true a0_0 l0_1)) = some r:=H;have A4:=aM A40;clear A40;by_cases c5:t780 = true
  ·subst c5;have H1:(if (l0_1.length:Int) = 0 then (impl_IsGame.j0 k true a0_0 l0_1) else ((impl_areSets.f k l0_1 a0_0).bind fun t781=>(impl_IsGame.j0 k (!t781) a0_0 l0_1))) = some r:=by rw [if_pos rfl] at H;exact H
   clear H;have H:=H1;clear H1;by_cases c6:(l0_1.length:Int) = 0
   ·rw [if_pos c6] at H;have c6b0:((l0_1.length:Int) == 0) = true:=beq_iff_eq.mpr c6;have c6b1:((l0_1.length:Int) != 0) = false:=bne_eq_false_iff_eq.mpr c6;clear c6;(first|rw [c6b0]|(simp only [i64_w,i32_w];rw [c6b0])|skip)
    have H':=aM H;clear H;have hcz7_0:w3.cell? ⟨gb779,0,none⟩ = some (.int .i64 a0_0):=(blk_cell BK779.out 0).trans rfl;have hcz7_1:w3.cell? ⟨gb779,1,none⟩ = some (.slice A0_1 l0_1.length c0_1):=(blk_cell BK779.out 1).trans rfl;have hfz7_0:=blk_frozen BK779.out 0;have hfz7_1:=blk_frozen BK779.out 1;go_wp2_with (first|((with_reducible refine gate_callee (f:=69) rfl ?_);refine goesL_ (some 9) rfl rfl Try.func69 kR rfl #[.int .i64 a0_0,.int .i64 1,.int .i64 9] rfl mq ?_;(with_reducible refine (impl_within.calls a0_0 1 9 true _ A4.out).mono ?_);rintro e w' ⟨rfl,⟨nd,rfl⟩⟩;refine ⟨_,rfl,?_⟩))
    go_meet
    case rel=>exact ⟨_,(true),qrs,H',⟨by first|omega|exact Nat.le_refl _⟩,⟨by (with_reducible repeat (first|refine blk_drewN ?_ _|refine blk_drew ?_|refine blk_alloc ?_ _));exact BK779.out⟩,⟨by exact bw⟩⟩
   ·rw [if_neg c6] at H;have c6b0:((l0_1.length:Int) == 0) = false:=beq_eq_false_iff_ne.mpr c6;have c6b1:((l0_1.length:Int) != 0) = true:=bne_iff_ne.mpr c6;have c6b2:¬ (l0_1 = []):=fun h_=>c6 (by rw [h_];rfl)
    (first|rw [c6b0]|(simp only [i64_w,i32_w];rw [c6b0])|skip)
    replace H:=Option.bind_eq_some_iff.mp H;obtain ⟨t781,A80,H⟩:=H;replace H:(impl_IsGame.j0 k (!t781) a0_0 l0_1) = some r:=H;have A8:=aM A80;clear A80;have H':=aM H;clear H;have hcz9_0:w3.cell? ⟨gb779,0,none⟩ = some (.int .i64 a0_0):=(blk_cell BK779.out 0).trans rfl;have hcz9_1:w3.cell? ⟨gb779,1,none⟩ = some (.slice A0_1 l0_1.length c0_1):=(blk_cell BK779.out 1).trans rfl;have hfz9_0:=blk_frozen BK779.out 0;have hfz9_1:=blk_frozen BK779.out 1;go_wp2_with (first|((with_reducible refine gate_callee (f:=69) rfl ?_);refine goesL_ (some 9) rfl rfl Try.func69 kR rfl #[.int .i64 a0_0,.int .i64 1,.int .i64 9] rfl mq ?_;(with_reducible refine (impl_within.calls a0_0 1 9 true _ A4.out).mono ?_);rintro e w' ⟨rfl,⟨nd,rfl⟩⟩;refine ⟨_,rfl,?_⟩)|(go_at_call 168;(with_reducible refine (impl_areSets.calls k _ _ l0_1 a0_0 t781 _ ?side1 ?side2 A8.out).mono ?_);(case side1=>repeat (first|exact (Kd.C_below HR0_1.out bw)|(with_reducible refine Kd.C_alloc ?_ _)|(with_reducible refine Kd.C_drewN ?_ _)|(with_reducible refine Kd.C_drew ?_)));(case side2=>exact HC0_1.out);rintro e w10 ⟨rfl,hb⟩;have n0_:=aM (blk_below (g:=gb779) (o:=.cells #[.int .i64 a0_0,.slice A0_1 l0_1.length c0_1] 57 (0,0)) bk hb);have n1_:=aM (below_step bw hb);clear BK779;clear HB;have BK779:=n0_;have HB:=n1_;clear n0_ n1_;(try clear hb);(try clear hb2);(try clear hk);(try clear hi)))
    go_meet
    case rel=>exact ⟨_,(!t781),qrs,H',⟨by first|omega|exact Nat.le_refl _⟩,⟨by (with_reducible repeat (first|refine blk_drewN ?_ _|refine blk_drew ?_|refine blk_alloc ?_ _));exact BK779.out⟩,⟨by exact bw⟩⟩
  ·replace c5:=Bool.eq_false_iff.mpr c5;subst c5;have H1:(impl_IsGame.j0 k true a0_0 l0_1) = some r:=by rw [if_neg (show ¬ (false = true) by decide)] at H;exact H
   clear H;have H:=H1;clear H1;have H':=aM H;clear H;have hcz11_0:w3.cell? ⟨gb779,0,none⟩ = some (.int .i64 a0_0):=(blk_cell BK779.out 0).trans rfl;have hcz11_1:w3.cell? ⟨gb779,1,none⟩ = some (.slice A0_1 l0_1.length c0_1):=(blk_cell BK779.out 1).trans rfl;have hfz11_0:=blk_frozen BK779.out 0;have hfz11_1:=blk_frozen BK779.out 1;go_wp2_with (first|((with_reducible refine gate_callee (f:=69) rfl ?_);refine goesL_ (some 9) rfl rfl Try.func69 kR rfl #[.int .i64 a0_0,.int .i64 1,.int .i64 9] rfl mq ?_;(with_reducible refine (impl_within.calls a0_0 1 9 false _ A4.out).mono ?_);rintro e w' ⟨rfl,⟨nd,rfl⟩⟩;refine ⟨_,rfl,?_⟩))
   go_meet
   case rel=>exact ⟨_,(true),qrs,H',⟨by first|omega|exact Nat.le_refl _⟩,⟨by (with_reducible repeat (first|refine blk_drewN ?_ _|refine blk_drew ?_|refine blk_alloc ?_ _));exact BK779.out⟩,⟨by exact bw⟩⟩
 case rest =>
  clear HC2;(try clear c1);(try clear p2);(try clear c5);(try clear c6);(try clear c6b0);(try clear c6b1);(try clear c6b2);(try clear c10);(try clear hcz11_0);(try clear hcz11_1);(try clear hcz7_0);(try clear hcz7_1);(try clear hcz9_0);(try clear hcz9_1);(try clear hfz11_0);(try clear hfz11_1);(try clear hfz7_0);(try clear hfz7_1);(try clear hfz9_0);(try clear hfz9_1)
  obtain ⟨kq,x24_1,rfl,HA,HJ1,BK779,HB⟩:=hcut
  cases kq with
  | zero=>exact absurd HA.out (by simp [impl_IsGame.j0])
  | succ kj1 =>
   have H:=HA.out;clear HA;simp only [impl_IsGame.j0] at H;by_cases c12:x24_1 = true
   ·subst c12;have H1:(some false) = some r:=by rw [if_pos rfl] at H;exact H
    clear H;have H:=H1;clear H1;obtain rfl:=Option.some.inj H;go_wp2
    go_ret
    exact ⟨by first|rfl|(simp [errW_none,errW_some] <;> rfl)|(simp [*,errW_none,errW_some] <;> rfl),by exact bw⟩
   ·replace c12:=Bool.eq_false_iff.mpr c12;subst c12;have H1:(impl_IsGame.l0 kj1 l0_1 (l0_1.length:Int) 0 a0_0 l0_1) = some r:=by rw [if_neg (show ¬ (false = true) by decide)] at H;exact H
    clear H;have H:=H1;clear H1;have H':=aM H;clear H;have hcz13_0:wc.cell? ⟨gb779,0,none⟩ = some (.int .i64 a0_0):=(blk_cell BK779.out 0).trans rfl;have hcz13_1:wc.cell? ⟨gb779,1,none⟩ = some (.slice A0_1 l0_1.length c0_1):=(blk_cell BK779.out 1).trans rfl;have hfz13_0:=blk_frozen BK779.out 0;have hfz13_1:=blk_frozen BK779.out 1;go_wp2
    go_loopg [28] kj1 (fun kq v28 w'=>∃ (x28_2:Int),v28 = .int .i64 x28_2 ∧ Aside0 (impl_IsGame.l0 kq l0_1 (l0_1.length:Int) x28_2 a0_0 l0_1 = some r) ∧ Aside0 (kq ≤ kj1) ∧ Aside0 (w'.heap[gb779]? = some (.cells #[.int .i64 a0_0,(.slice A0_1 l0_1.length c0_1)] 57 (0,0))) ∧ Aside0 (Below w.heap.size w w'))
    case atStart=>exact ⟨(0),qrs,H',⟨Nat.le_refl _⟩,⟨by (with_reducible repeat (first|refine blk_drewN ?_ _|refine blk_drew ?_|refine blk_alloc ?_ _));exact BK779.out⟩,⟨by exact bw⟩⟩
    case round =>
     clear H';(try clear c1);(try clear p2);(try clear c5);(try clear c6);(try clear c6b0);(try clear c6b1);(try clear c6b2);(try clear c10);(try clear c12);(try clear hcz11_0);(try clear hcz11_1);(try clear hcz13_0);(try clear hcz13_1);(try clear hcz7_0);(try clear hcz7_1);(try clear hcz9_0);(try clear hcz9_1);(try clear hfz11_0);(try clear hfz11_1);(try clear hfz13_0);(try clear hfz13_1);(try clear hfz7_0);(try clear hfz7_1);(try clear hfz9_0);(try clear hfz9_1);(try clear p2)
     obtain ⟨x28_2,rfl,HA,HK2,BK779,HB⟩:=hrel
     cases gk with
     | zero=>exact absurd HA.out (by simp [impl_IsGame.l0])
     | succ k2 =>
      have H:=HA.out;clear HA;simp only [impl_IsGame.l0] at H;by_cases c14:x28_2 < (l0_1.length:Int)
      ·rw [if_pos c14] at H;have c14b0:decide (x28_2 < (l0_1.length:Int)) = true:=decide_eq_true c14;clear c14;by_cases c15:0 ≤ x28_2
       ·rw [if_pos c15] at H;have c15b0:decide (0 ≤ x28_2) = true:=decide_eq_true c15;clear c15;by_cases c16:x28_2 < (l0_1.length:Int)
        ·rw [if_pos c16] at H;have c16b0:decide (x28_2 < (l0_1.length:Int)) = true:=decide_eq_true c16;clear c16;have HC17:=aM H;clear H;have p782:0 ≤ (x28_2:Int):=of_decide_eq_true ab;have q782:x28_2 < (l0_1.length:Int):=of_decide_eq_true ab;obtain ⟨ad782,A782_0,c782_0,e782,hx782_0,hl782_0,hi782_0⟩:=at_LI HR0_1.out x28_2 p782 q782;cases e782
         replace hx782_0:=(HB.out.cell (World.block_lt_of_cell? w _ hx782_0)).trans hx782_0;have HR782_0:=aM hi782_0;have HC782_0:=aM hl782_0;clear hi782_0 hl782_0;replace p782:=eq_true p782;replace q782:=eq_true q782;go_upto_region 6 with (fail)
         go_cut [45] (fun v45 wc=>∃ (kq:Nat) (x45_16:Bool),v45 = .bool x45_16 ∧ Aside0 (impl_IsGame.j2 kq x28_2 (rd_LI l0_1 x28_2) l0_1 (l0_1.length:Int) x28_2 x45_16 a0_0 l0_1 = some r) ∧ Aside0 (kq ≤ k2) ∧ Aside0 (wc.heap[gb779]? = some (.cells #[.int .i64 a0_0,(.slice (some ad782) l0_1.length c0_1)] 57 (0,0))) ∧ Aside0 (Below w.heap.size w wc))
         case first =>
          have H:=HC17.out;clear HC17;by_cases c18:x28_2 > 0
          ·rw [if_pos c18] at H;have c18b0:decide (0 < x28_2) = true:=decide_eq_true c18;clear c18;(first|rw [c18b0]|(simp only [i64_w,i32_w];rw [c18b0])|skip)
           obtain ⟨ji19,hji19⟩:∃ j_:Int,(wrap64 (x28_2 - 1)) = j_:=⟨_,rfl⟩;replace H:(if 0 ≤ (ji19) then (if (ji19) < (l0_1.length:Int) then ((slices_Compare_int_int.f k2 (rd_LI l0_1 (ji19)) (rd_LI l0_1 x28_2)).bind fun t784=>(impl_IsGame.j2 k2 x28_2 (rd_LI l0_1 x28_2) l0_1 (l0_1.length:Int) x28_2 (decide (t784 ≥ 0)) a0_0 l0_1)) else (none)) else (none)) = some r:=by first|(rw [hji19] at H;exact H)|(simp only [hji19] at H ⊢;exact H)
           have hji19w:(IntKind.i64.wrap (x28_2 - 1)) = ji19:=(i64_w _).trans hji19;by_cases c20:0 ≤ (ji19)
           ·rw [if_pos c20] at H;have c20b0:decide (0 ≤ (ji19)) = true:=decide_eq_true c20;clear c20;by_cases c21:(ji19) < (l0_1.length:Int)
            ·rw [if_pos c21] at H;have c21b0:decide ((ji19) < (l0_1.length:Int)) = true:=decide_eq_true c21;clear c21;replace H:=Option.bind_eq_some_iff.mp H;obtain ⟨t784,A220,H⟩:=H;replace H:(impl_IsGame.j2 k2 x28_2 (rd_LI l0_1 x28_2) l0_1 (l0_1.length:Int) x28_2 (decide (t784 ≥ 0)) a0_0 l0_1) = some r:=H;have A22:=aM A220;clear A220;have H':=aM H;clear H;have hcz23_0:wr.cell? ⟨gb779,0,none⟩ = some (.int .i64 a0_0):=(blk_cell BK779.out 0).trans rfl;have hcz23_1:wr.cell? ⟨gb779,1,none⟩ = some (.slice (some ad782) l0_1.length c0_1):=(blk_cell BK779.out 1).trans rfl;have hfz23_0:=blk_frozen BK779.out 0;have hfz23_1:=blk_frozen BK779.out 1;have p783:0 ≤ ((ji19):Int):=of_decide_eq_true ab;have q783:(ji19) < (l0_1.length:Int):=of_decide_eq_true ab;obtain ⟨ad783,A783_0,c783_0,e783,hx783_0,hl783_0,hi783_0⟩:=at_LI HR0_1.out (ji19) p783 q783;obtain rfl:ad782 = ad783:=(by injection e783);replace hx783_0:=(HB.out.cell (World.block_lt_of_cell? w _ hx783_0)).trans hx783_0;have HR783_0:=aM hi783_0;have HC783_0:=aM hl783_0;clear hi783_0 hl783_0;replace p783:=eq_true p783;replace q783:=eq_true q783;go_wp2_with (first|(go_at_call 169;(with_reducible refine (slices_Compare_int_int.calls k2 _ _ (rd_LI l0_1 (ji19)) _ _ (rd_LI l0_1 x28_2) t784 _ ?side1 ?side2 ?side3 ?side4 A22.out).mono ?_);(case side1=>exact qcs HR783_0.out HB.out);(case side2=>exact HC783_0.out);(case side3=>exact qcs HR782_0.out HB.out);(case side4=>exact HC782_0.out);rintro e w' ⟨rfl,⟨nd,rfl⟩⟩))
             go_meet
             case rel=>exact ⟨_,(decide (t784 ≥ 0)),qrs,H',⟨by have:=HJ1.out;have:=HK2.out;first|omega|exact Nat.le_refl _⟩,⟨by (with_reducible repeat (first|refine blk_drewN ?_ _|refine blk_drew ?_|refine blk_alloc ?_ _));exact BK779.out⟩,⟨by exact bw⟩⟩
            ·rw [if_neg c21] at H;exact absurd H (by simp)
           ·rw [if_neg c20] at H;exact absurd H (by simp)
          ·rw [if_neg c18] at H;have c18b0:decide (0 < x28_2) = false:=decide_eq_false c18;clear c18;(first|rw [c18b0]|(simp only [i64_w,i32_w];rw [c18b0])|skip)
           have H':=aM H;clear H;go_wp2
           go_meet
           case rel=>exact ⟨_,(false),qrs,H',⟨by have:=HJ1.out;have:=HK2.out;first|omega|exact Nat.le_refl _⟩,⟨by (with_reducible repeat (first|refine blk_drewN ?_ _|refine blk_drew ?_|refine blk_alloc ?_ _));exact BK779.out⟩,⟨by exact bw⟩⟩
         case rest =>
          clear HC17;(try clear c1);(try clear c2);(try clear p2);(try clear c5);(try clear c6);(try clear c6b0);(try clear c6b1);(try clear c6b2);(try clear p6);(try clear c7);(try clear p7);(try clear q7);(try clear hx7);(try clear c10);(try clear c12);(try clear c14);(try clear c14b0);(try clear c15);(try clear c15b0);(try clear c16);(try clear c16b0);(try clear c18);(try clear c18b0);(try clear c20);(try clear c20b0);(try clear c21);(try clear c21b0);(try clear hcz11_0);(try clear hcz11_1);(try clear hcz13_0);(try clear hcz13_1);(try clear hcz23_0);(try clear hcz23_1);(try clear hcz7_0);(try clear hcz7_1);(try clear hcz9_0);(try clear hcz9_1);(try clear hfz11_0);(try clear hfz11_1);(try clear hfz13_0);(try clear hfz13_1);(try clear hfz23_0);(try clear hfz23_1);(try clear hfz7_0);(try clear hfz7_1);(try clear hfz9_0);(try clear hfz9_1);(try clear hx782_0);(try clear hx783_0);(try clear p2);(try clear p782);(try clear p783);(try clear q782);(try clear q783)
          obtain ⟨kq,x45_16,rfl,HA,HJ16,BK779,HB⟩:=hcut
          cases kq with
          | zero=>exact absurd HA.out (by simp [impl_IsGame.j2])
          | succ kj16 =>
           have H:=HA.out;clear HA;simp only [impl_IsGame.j2] at H;by_cases c24:x45_16 = true
           ·subst c24;have H1:(some false) = some r:=by rw [if_pos rfl] at H;exact H
            clear H;have H:=H1;clear H1;obtain rfl:=Option.some.inj H;go_wp2
            go_ret
            exact ⟨by first|rfl|(simp [errW_none,errW_some] <;> rfl)|(simp [*,errW_none,errW_some] <;> rfl),by exact bw⟩
           ·replace c24:=Bool.eq_false_iff.mpr c24;subst c24;have H1:(impl_IsGame.l1 kj16 x28_2 (rd_LI l0_1 x28_2) l0_1 (l0_1.length:Int) x28_2 l0_1 (l0_1.length:Int) 0 a0_0 l0_1) = some r:=by rw [if_neg (show ¬ (false = true) by decide)] at H;exact H
            clear H;have H:=H1;clear H1;have H':=aM H;clear H;have hcz25_0:wc.cell? ⟨gb779,0,none⟩ = some (.int .i64 a0_0):=(blk_cell BK779.out 0).trans rfl;have hcz25_1:wc.cell? ⟨gb779,1,none⟩ = some (.slice (some ad782) l0_1.length c0_1):=(blk_cell BK779.out 1).trans rfl;have hfz25_0:=blk_frozen BK779.out 0;have hfz25_1:=blk_frozen BK779.out 1;go_wp2
            go_loopg [49] kj16 (fun kq v49 w'=>∃ (x49_4:Int),v49 = .int .i64 x49_4 ∧ Aside0 (impl_IsGame.l1 kq x28_2 (rd_LI l0_1 x28_2) l0_1 (l0_1.length:Int) x28_2 l0_1 (l0_1.length:Int) x49_4 a0_0 l0_1 = some r) ∧ Aside0 (kq ≤ kj16) ∧ Aside0 (w'.heap[gb779]? = some (.cells #[.int .i64 a0_0,(.slice (some ad782) l0_1.length c0_1)] 57 (0,0))) ∧ Aside0 (Below w.heap.size w w'))
            case atStart=>exact ⟨(0),qrs,H',⟨Nat.le_refl _⟩,⟨by (with_reducible repeat (first|refine blk_drewN ?_ _|refine blk_drew ?_|refine blk_alloc ?_ _));exact BK779.out⟩,⟨by exact bw⟩⟩
            case round =>
             clear H';(try clear c1);(try clear c2);(try clear p2);(try clear c5);(try clear c6);(try clear c6b0);(try clear c6b1);(try clear c6b2);(try clear p6);(try clear c7);(try clear p7);(try clear q7);(try clear hx7);(try clear c10);(try clear c12);(try clear c14);(try clear c14b0);(try clear c15);(try clear c15b0);(try clear c16);(try clear c16b0);(try clear c18);(try clear c18b0);(try clear c20);(try clear c20b0);(try clear c21);(try clear c21b0);(try clear c24);(try clear hcz11_0);(try clear hcz11_1);(try clear hcz13_0);(try clear hcz13_1);(try clear hcz23_0);(try clear hcz23_1);(try clear hcz25_0);(try clear hcz25_1);(try clear hcz7_0);(try clear hcz7_1);(try clear hcz9_0);(try clear hcz9_1);(try clear hfz11_0);(try clear hfz11_1);(try clear hfz13_0);(try clear hfz13_1);(try clear hfz23_0);(try clear hfz23_1);(try clear hfz25_0);(try clear hfz25_1);(try clear hfz7_0);(try clear hfz7_1);(try clear hfz9_0);(try clear hfz9_1);(try clear hx782_0);(try clear hx783_0);(try clear p2);(try clear p6);(try clear p7);(try clear p782);(try clear p783);(try clear q7);(try clear q782);(try clear q783)
             obtain ⟨x49_4,rfl,HA,HK4,BK779,HB⟩:=hrel
             cases gk with
             | zero=>exact absurd HA.out (by simp [impl_IsGame.l1])
             | succ k4 =>
              have H:=HA.out;clear HA;simp only [impl_IsGame.l1] at H;by_cases c26:x49_4 < (l0_1.length:Int)
              ·rw [if_pos c26] at H;have c26b0:decide (x49_4 < (l0_1.length:Int)) = true:=decide_eq_true c26;clear c26;by_cases c27:0 ≤ x49_4
               ·rw [if_pos c27] at H;have c27b0:decide (0 ≤ x49_4) = true:=decide_eq_true c27;clear c27;by_cases c28:x49_4 < (l0_1.length:Int)
                ·rw [if_pos c28] at H;have c28b0:decide (x49_4 < (l0_1.length:Int)) = true:=decide_eq_true c28;clear c28;by_cases c29:x49_4 = x28_2
                 ·rw [if_pos c29] at H;have c29b0:(x49_4 == x28_2) = true:=beq_iff_eq.mpr c29;have c29b1:(x49_4 != x28_2) = false:=bne_eq_false_iff_eq.mpr c29;clear c29;have H':=aM H;clear H;have p785:0 ≤ (x49_4:Int):=of_decide_eq_true ab;have q785:x49_4 < (l0_1.length:Int):=of_decide_eq_true ab;obtain ⟨ad785,A785_0,c785_0,e785,hx785_0,hl785_0,hi785_0⟩:=at_LI HR0_1.out x49_4 p785 q785;obtain rfl:ad782 = ad785:=(by injection e785);replace hx785_0:=(HB.out.cell (World.block_lt_of_cell? w _ hx785_0)).trans hx785_0;have HR785_0:=aM hi785_0;have HC785_0:=aM hl785_0;clear hi785_0 hl785_0;replace p785:=eq_true p785;replace q785:=eq_true q785;go_wp2
                  go_roundg k4
                  case measure=>have:=HJ1.out;have:=HK2.out;have:=HJ16.out;have:=HK4.out;omega
                  case rel=>exact ⟨(wrap64 (x49_4 + 1)),qrs,H',⟨by have:=HJ1.out;have:=HK2.out;have:=HJ16.out;have:=HK4.out;omega⟩,⟨by (with_reducible repeat (first|refine blk_drewN ?_ _|refine blk_drew ?_|refine blk_alloc ?_ _));exact BK779.out⟩,⟨by exact bw⟩⟩
                 ·rw [if_neg c29] at H;have c29b0:(x49_4 == x28_2) = false:=beq_eq_false_iff_ne.mpr c29;have c29b1:(x49_4 != x28_2) = true:=bne_iff_ne.mpr c29;replace H:=Option.bind_eq_some_iff.mp H;obtain ⟨t786,A300,H⟩:=H;replace H:((impl_maskOf.f k4 (rd_LI l0_1 x49_4)).bind fun t787=>((impl_maskOf.f k4 (rd_LI l0_1 x49_4)).bind fun t788=>(if (Go.bits .and .i64 t786 t787) = t788 then (some false) else (impl_IsGame.l1 k4 x28_2 (rd_LI l0_1 x28_2) l0_1 (l0_1.length:Int) x28_2 l0_1 (l0_1.length:Int) (wrap64 (x49_4 + 1)) a0_0 l0_1)))) = some r:=H;have A30:=aM A300;clear A300;replace H:=Option.bind_eq_some_iff.mp H;obtain ⟨t787,A310,H⟩:=H;replace H:((impl_maskOf.f k4 (rd_LI l0_1 x49_4)).bind fun t788=>(if (Go.bits .and .i64 t786 t787) = t788 then (some false) else (impl_IsGame.l1 k4 x28_2 (rd_LI l0_1 x28_2) l0_1 (l0_1.length:Int) x28_2 l0_1 (l0_1.length:Int) (wrap64 (x49_4 + 1)) a0_0 l0_1))) = some r:=H;have A31:=aM A310;clear A310;replace H:=Option.bind_eq_some_iff.mp H;obtain ⟨t788,A320,H⟩:=H;replace H:(if (Go.bits .and .i64 t786 t787) = t788 then (some false) else (impl_IsGame.l1 k4 x28_2 (rd_LI l0_1 x28_2) l0_1 (l0_1.length:Int) x28_2 l0_1 (l0_1.length:Int) (wrap64 (x49_4 + 1)) a0_0 l0_1)) = some r:=H;have A32:=aM A320;clear A320;obtain rfl:t787 = t788:=Option.some.inj (A31.out.symm.trans A32.out);by_cases c33:(Go.bits .and .i64 t786 t787) = t787
                  ·rw [if_pos c33] at H;have c33b0:((Go.bits .and .i64 t786 t787) == t787) = true:=beq_iff_eq.mpr c33;have c33b1:((Go.bits .and .i64 t786 t787) != t787) = false:=bne_eq_false_iff_eq.mpr c33;clear c33;obtain rfl:=Option.some.inj H;have p785:0 ≤ (x49_4:Int):=of_decide_eq_true ab;have q785:x49_4 < (l0_1.length:Int):=of_decide_eq_true ab;obtain ⟨ad785,A785_0,c785_0,e785,hx785_0,hl785_0,hi785_0⟩:=at_LI HR0_1.out x49_4 p785 q785;obtain rfl:ad782 = ad785:=(by injection e785);replace hx785_0:=(HB.out.cell (World.block_lt_of_cell? w _ hx785_0)).trans hx785_0;have HR785_0:=aM hi785_0;have HC785_0:=aM hl785_0;clear hi785_0 hl785_0;replace p785:=eq_true p785;replace q785:=eq_true q785;go_wp2_with (first|(go_at_call 170;(with_reducible refine (impl_maskOf.calls k4 _ _ (rd_LI l0_1 x28_2) t786 _ ?side1 ?side2 A30.out).mono ?_);(case side1=>exact qcs HR782_0.out HB.out);(case side2=>exact HC782_0.out);rintro e w' ⟨rfl,⟨nd,rfl⟩⟩)|(go_at_call 170;(with_reducible refine (impl_maskOf.calls k4 _ _ (rd_LI l0_1 x49_4) t787 _ ?side1 ?side2 A31.out).mono ?_);(case side1=>repeat (first|exact (Kd.C_below HR785_0.out bw)|(with_reducible refine Kd.C_alloc ?_ _)|(with_reducible refine Kd.C_drewN ?_ _)|(with_reducible refine Kd.C_drew ?_)));(case side2=>exact HC785_0.out);rintro e w' ⟨rfl,⟨nd,rfl⟩⟩)|(go_at_call 170;(with_reducible refine (impl_maskOf.calls k4 _ _ (rd_LI l0_1 x49_4) t787 _ ?side1 ?side2 A32.out).mono ?_);(case side1=>repeat (first|exact (Kd.C_below HR785_0.out bw)|(with_reducible refine Kd.C_alloc ?_ _)|(with_reducible refine Kd.C_drewN ?_ _)|(with_reducible refine Kd.C_drew ?_)));(case side2=>exact HC785_0.out);rintro e w' ⟨rfl,⟨nd,rfl⟩⟩))
                   go_ret
                   exact ⟨by first|rfl|(simp [errW_none,errW_some] <;> rfl)|(simp [*,errW_none,errW_some] <;> rfl),by exact bw⟩
                  ·rw [if_neg c33] at H;have c33b0:((Go.bits .and .i64 t786 t787) == t787) = false:=beq_eq_false_iff_ne.mpr c33;have c33b1:((Go.bits .and .i64 t786 t787) != t787) = true:=bne_iff_ne.mpr c33;have H':=aM H;clear H;have p785:0 ≤ (x49_4:Int):=of_decide_eq_true ab;have q785:x49_4 < (l0_1.length:Int):=of_decide_eq_true ab;obtain ⟨ad785,A785_0,c785_0,e785,hx785_0,hl785_0,hi785_0⟩:=at_LI HR0_1.out x49_4 p785 q785;obtain rfl:ad782 = ad785:=(by injection e785);replace hx785_0:=(HB.out.cell (World.block_lt_of_cell? w _ hx785_0)).trans hx785_0;have HR785_0:=aM hi785_0;have HC785_0:=aM hl785_0;clear hi785_0 hl785_0;replace p785:=eq_true p785;replace q785:=eq_true q785;go_wp2_with (first|(go_at_call 170;(with_reducible refine (impl_maskOf.calls k4 _ _ (rd_LI l0_1 x28_2) t786 _ ?side1 ?side2 A30.out).mono ?_);(case side1=>exact qcs HR782_0.out HB.out);(case side2=>exact HC782_0.out);rintro e w' ⟨rfl,⟨nd,rfl⟩⟩)|(go_at_call 170;(with_reducible refine (impl_maskOf.calls k4 _ _ (rd_LI l0_1 x49_4) t787 _ ?side1 ?side2 A31.out).mono ?_);(case side1=>repeat (first|exact (Kd.C_below HR785_0.out bw)|(with_reducible refine Kd.C_alloc ?_ _)|(with_reducible refine Kd.C_drewN ?_ _)|(with_reducible refine Kd.C_drew ?_)));(case side2=>exact HC785_0.out);rintro e w' ⟨rfl,⟨nd,rfl⟩⟩)|(go_at_call 170;(with_reducible refine (impl_maskOf.calls k4 _ _ (rd_LI l0_1 x49_4) t787 _ ?side1 ?side2 A32.out).mono ?_);(case side1=>repeat (first|exact (Kd.C_below HR785_0.out bw)|(with_reducible refine Kd.C_alloc ?_ _)|(with_reducible refine Kd.C_drewN ?_ _)|(with_reducible refine Kd.C_drew ?_)));(case side2=>exact HC785_0.out);rintro e w' ⟨rfl,⟨nd,rfl⟩⟩))
                   go_roundg k4
                   case measure=>have:=HJ1.out;have:=HK2.out;have:=HJ16.out;have:=HK4.out;omega
                   case rel=>exact ⟨(wrap64 (x49_4 + 1)),qrs,H',⟨by have:=HJ1.out;have:=HK2.out;have:=HJ16.out;have:=HK4.out;omega⟩,⟨by (with_reducible repeat (first|refine blk_drewN ?_ _|refine blk_drew ?_|refine blk_alloc ?_ _));exact BK779.out⟩,⟨by exact bw⟩⟩
                ·rw [if_neg c28] at H;exact absurd H (by simp)
               ·rw [if_neg c27] at H;exact absurd H (by simp)
              ·rw [if_neg c26] at H;have c26b0:decide (x49_4 < (l0_1.length:Int)) = false:=decide_eq_false c26;clear c26;have H':=aM H;clear H;go_wp2
               go_roundg k4
               case measure=>have:=HJ1.out;have:=HK2.out;have:=HJ16.out;have:=HK4.out;omega
               case rel=>exact ⟨(wrap64 (x28_2 + 1)),qrs,H',⟨by have:=HJ1.out;have:=HK2.out;have:=HJ16.out;have:=HK4.out;omega⟩,⟨by (with_reducible repeat (first|refine blk_drewN ?_ _|refine blk_drew ?_|refine blk_alloc ?_ _));exact BK779.out⟩,⟨by exact bw⟩⟩
        ·rw [if_neg c16] at H;exact absurd H (by simp)
       ·rw [if_neg c15] at H;exact absurd H (by simp)
      ·rw [if_neg c14] at H;have c14b0:decide (x28_2 < (l0_1.length:Int)) = false:=decide_eq_false c14;clear c14;obtain rfl:=Option.some.inj H;go_wp2
       go_ret
       exact ⟨by first|rfl|(simp [errW_none,errW_some] <;> rfl)|(simp [*,errW_none,errW_some] <;> rfl),by exact bw⟩


/-! ### impl_votesOf: function 150 -/
def impl_votesOf.l0:Nat → (Int → Option (Bool)) → Int → Int → Int → List Bool → Option (Int × List Bool)
 | 0,_,_,_,_,_=>none
 | k + 1,x1,x14,x15,x317000,x317001=>if x15 < x14 then ((x1 x15).bind fun t317=>(if 0 ≤ x15 then (if x15 < (x317001.length:Int) then (impl_votesOf.l0 k x1 x14 (wrap64 (x15 + 1)) x317000 (x317001.set (x15:Int).toNat t317)) else (none)) else (none))) else (some (x317000,x317001))
def impl_votesOf.f (k:Nat) (a0:Int) (a1:(Int → Option (Bool))):Option (Int × List Bool):=if 0 ≤ a0 then (if 0 ≤ (shl .i64 1 a0) then (if (shl .i64 1 a0:Int).toNat ≤ 281474976710656 then ((some (List.replicate (shl .i64 1 a0:Int).toNat false:List Bool)).bind fun y313=>(impl_votesOf.l0 k a1 (y313.length:Int) 0 a0 y313)) else (none)) else (none)) else (none)
theorem impl_votesOf.mono_l:∀ k,(∀ y0 y1 y2 y3 y4,LeO (impl_votesOf.l0 k y0 y1 y2 y3 y4) (impl_votesOf.l0 (k + 1) y0 y1 y2 y3 y4))
 | 0=>fun _ _ _ _ _ r h=>by simp [impl_votesOf.l0] at h
 | k + 1=>by
  have ih0:=impl_votesOf.mono_l k
  ·intro y0 y1 y2 y3 y4;unfold impl_votesOf.l0
   repeat' with_reducible first|exact ih0 _ _ _ _ _|exact LeO.refl _|exact LeO.none _|refine LeO.ite ?_ ?_|refine LeO.bind ?_ (fun _=>?_)
theorem impl_votesOf.mono:∀ a0 a1 k,LeO (impl_votesOf.f k a0 a1) (impl_votesOf.f (k + 1) a0 a1):=by
 intro a0 a1 k;have ih0:=impl_votesOf.mono_l k;unfold impl_votesOf.f
 repeat' with_reducible first|exact ih0 _ _ _ _ _|exact LeO.refl _|exact LeO.none _|refine LeO.ite ?_ ?_|refine LeO.bind ?_ (fun _=>?_)
theorem impl_votesOf.monop_l {p_ q_:(Int → Option (Bool))} (h_:∀ x0_,LeO (p_ x0_) (q_ x0_)):∀ k,(∀ y1 y2 y3 y4,LeO (impl_votesOf.l0 k p_ y1 y2 y3 y4) (impl_votesOf.l0 k q_ y1 y2 y3 y4))
 | 0=>fun _ _ _ _ r hz=>by simp [impl_votesOf.l0] at hz
 | k + 1=>by
  have ih0:=impl_votesOf.monop_l h_ k
  ·intro y0 y1 y2 y3;unfold impl_votesOf.l0
   repeat' with_reducible first|exact ih0 _ _ _ _|exact h_ _|exact LeO.refl _|refine LeO.ite ?_ ?_|refine LeO.bind ?_ (fun _=>?_)
theorem impl_votesOf.mono_p {p_ q_:(Int → Option (Bool))} (h_:∀ x0_,LeO (p_ x0_) (q_ x0_)):∀ a0 k,LeO (impl_votesOf.f k a0 p_) (impl_votesOf.f k a0 q_):=by
 intro a0 k;have ih0:=impl_votesOf.monop_l h_ k;unfold impl_votesOf.f
 repeat' with_reducible first|exact ih0 _ _ _ _|exact h_ _|exact LeO.refl _|refine LeO.ite ?_ ?_|refine LeO.bind ?_ (fun _=>?_)
def impl_votesOf.T5:Bool × List (List Nat × List Nat):=(true,[([],[]),([0],[0]),([],[]),([],[]),([],[]),([3,4],[3,4]),([1,2,0,1,2,3,4,5],[1,2]),([6,5,5,0,1,2,3,4,5],[5,6])])
def impl_votesOf.B5:List Nat:=[0,1,0,0,0,24,63,127]
theorem impl_votesOf.tab5:rtab .any (opsOf Try.f150 5) = impl_votesOf.T5:=by kernel_rfl
theorem impl_votesOf.bits5:waitsOk impl_votesOf.T5.2 impl_votesOf.B5 = true:=by kernel_rfl
set_option maxHeartbeats 8000000 in
set_option maxRecDepth 100000 in
theorem impl_votesOf.calls (k:Nat) (a0:Int) (a1:(Int → Option (Bool))) (g1_:Nat) (lb1_:Array Value) (eg1_:∀ (args:Array Value) (w:World),(callFunc g1_ args).run Try.prog w = .ok (.enter g1_ args) w) (r1:Int) (r2:List Bool) (w:World) (hp1:∀ (W:World) (b0_:Int) (r0_:Bool),a1 b0_ = some r0_ → Below w.heap.size w W → Calls Try.prog g1_ (#[.int .i64 b0_] ++ lb1_) W fun e w'=>e = .returned (.bool r0_) ∧ Below W.heap.size W w') (h:impl_votesOf.f k a0 a1 = some (r1,r2)) :
  Calls Try.prog 150 #[.int .i64 a0,.func (.func g1_) #[] lb1_] w fun e w'=>∃ v1_:Value,e = .returned (.agg #[.int .i64 r1,v1_]) ∧ Kd.R Kd.bool 4 w' w.heap.size (fun _=>True) v1_ r2 ∧ Below w.heap.size w w':=by
 have hu94:=Try.underlying94;have HP1:=aM hp1;clear hp1;have HB:=aM (Below.refl w.heap.size w);have H:(if 0 ≤ a0 then (if 0 ≤ (shl .i64 1 a0) then (if (shl .i64 1 a0:Int).toNat ≤ 281474976710656 then ((some (List.replicate (shl .i64 1 a0:Int).toNat false:List Bool)).bind fun y313=>(impl_votesOf.l0 k a1 (y313.length:Int) 0 a0 y313)) else (none)) else (none)) else (none)) = some (r1,r2):=h;clear h;by_cases c3:0 ≤ a0
 ·rw [if_pos c3] at H;have c3b0:=eq_true c3;have c3b1:decide (0 ≤ a0) = true:=decide_eq_true c3;clear c3;obtain ⟨ji4,hji4⟩:∃ j_:Int,(shl .i64 1 a0) = j_:=⟨_,rfl⟩;replace H:(if 0 ≤ (ji4) then (if (ji4:Int).toNat ≤ 281474976710656 then ((some (List.replicate (ji4:Int).toNat false:List Bool)).bind fun y313=>(impl_votesOf.l0 k a1 (y313.length:Int) 0 a0 y313)) else (none)) else (none)) = some (r1,r2):=by first|(rw [hji4] at H;exact H)|(simp only [hji4] at H ⊢;exact H)
  have hji4_:(IntKind.i64.wrap (1 * 2 ^ min a0.toNat 64)) = ji4:=hji4;have hji4z:a0 ≤ 64 → (IntKind.i64.wrap (1 * 2 ^ a0.toNat)) = ji4:=shl_small hji4;have hji4u:(IntKind.i64.wrap (2 ^ min a0.toNat 64)) = ji4:=by have h_:=hji4_;rw [Int.one_mul] at h_;exact h_
  have hji4v:a0 ≤ 64 → (IntKind.i64.wrap (2 ^ a0.toNat)) = ji4:=fun hle_=>by have h_:=hji4z hle_;rw [Int.one_mul] at h_;exact h_
  have hji4y:(wrap64 (1 * 2 ^ min a0.toNat 64)) = ji4:=(i64_w _).symm.trans hji4_;have hji4x:a0 ≤ 64 → (wrap64 (1 * 2 ^ a0.toNat)) = ji4:=fun h_=>(i64_w _).symm.trans (hji4z h_)
  by_cases c5:0 ≤ (ji4)
  ·rw [if_pos c5] at H;have c5b0:=eq_true c5;have c5b1:decide (0 ≤ (ji4)) = true:=decide_eq_true c5;clear c5;by_cases c6:(ji4:Int).toNat ≤ 281474976710656
   ·rw [if_pos c6] at H;have c6b0:=eq_true c6;have c6b1:decide ((ji4:Int).toNat ≤ 281474976710656) = true:=decide_eq_true c6;clear c6;obtain ⟨y313,hy313⟩:∃ y_:List Bool,y_ = (List.replicate (ji4:Int).toNat false):=⟨_,rfl⟩;replace H:(impl_votesOf.l0 k a1 (y313.length:Int) 0 a0 y313) = some (r1,r2):=by first|(rw [hy313];with_reducible exact H)|(have H2_:=(Option.bind_some _ _).symm.trans H;rw [hy313];with_reducible exact H2_)|(have H2_:=(Option.bind_some _ _).symm.trans H;with_reducible exact H2_)|with_reducible exact H|(rw [hy313];exact H)|exact H
    have Ny313:=aM hy313;clear hy313;have H':=aM H;clear H;go_enter Try.func150,Try.ntmps150;go_wp2_with (first|((with_reducible refine gate_dst (N:=4) rfl ?_);refine box_event ?hg (N:=4) ?hd (cs:=#[.int .i64 0,.slice none 0 0]) (t:=94) ?hr ?_;(case hd=>rfl);(case hg=>rfl);(case hr=>first|(go_simp;done)|(go_simp;rfl));intro gb312 hg w7 hbox hb;have n0_:=aM (below_step bw hb);have n1_:=aM (hbox);have n2_:=aM ((by rw [hg];exact (below_size bw):w.heap.size ≤ gb312));have n3_:=aM ((by rw [hg];exact (below_size bw):w.heap.size ≤ gb312));clear HB;have HB:=n0_;have BK312:=n1_;have GW312:=n2_;have GE312:=n3_;clear n0_ n1_ n2_ n3_;clear hb hbox hg)|((with_reducible refine gate_dst (N:=10) rfl ?_);refine Kd.R_make Kd.bool _ 4 rfl (N:=10) rfl 88 _ _ rfl ji4 rfl rfl Try.underlying88 (.bool false) 1 info4 rfl (by decide) (by omega) false (ok:=fun _=>True) (okp:=fun _=>True) rfl (fun _ hk=>hk) trivial (of_decide_eq_true ab) (Nat.le_trans (Nat.mul_le_mul_right _ (of_decide_eq_true ab:ji4.toNat ≤ 281474976710656)) (by omega)) (Below.refl _ _) (Nat.le_refl _) ?_;intro v314 w8 ho9 hb hg_ hnew_;clear hg_ hnew_;(first|rw [← Ny313.out] at ho9|(simp only [Int.reduceToNat] at ho9;rw [← Ny313.out] at ho9));have n0_:=aM (Kd.R_lower ho9 (below_size bw));have n1_:=aM (blk_below (g:=gb312) (o:=.cells #[.int .i64 0,.slice none 0 0] 94 (0,0)) bk hb);have n2_:=aM (below_step bw hb);clear BK312;clear HB;have HO315:=n0_;have BK312:=n1_;have HB:=n2_;clear n0_ n1_ n2_;clear hb ho9;obtain ⟨Ao10,co10,eo10⟩:=Kd.R_slice HO315.out;subst eo10)|((with_reducible refine gate_dst (N:=5) rfl ?_);refine box_event ?hg (N:=5) ?hd (cs:=#[.int .i64 0,.slice none 0 0]) (t:=94) ?hr ?_;(case hd=>rfl);(case hg=>rfl);(case hr=>first|(go_simp;done)|(go_simp;rfl));intro gb316 hg w11 hbox hb;have n0_:=aM (Kd.R_below (qra HO315.out) hb);have n1_:=aM (blk_below (g:=gb312) (o:=.cells #[.int .i64 0,.slice none 0 0] 94 (0,0)) bk hb);have n2_:=aM (below_step bw hb);have n3_:=aM (hbox);have n4_:=aM ((by rw [hg];exact (below_size bw):w.heap.size ≤ gb316));have n5_:=aM ((by rw [hg];exact (below_size bw):w.heap.size ≤ gb316));have n6_:=aM ((by rw [hg];exact Nat.ne_of_lt (blk_lt (g:=gb312) (o:=.cells #[.int .i64 0,.slice none 0 0] 94 (0,0)) bk):gb312 ≠ gb316));have n7_:=aM ((by rw [hg];exact Nat.ne_of_gt (blk_lt (g:=gb312) (o:=.cells #[.int .i64 0,.slice none 0 0] 94 (0,0)) bk):gb316 ≠ gb312));clear HO315;clear BK312;clear HB;have HO315:=n0_;have BK312:=n1_;have HB:=n2_;have BK316:=n3_;have GW316:=n4_;have GE316:=n5_;have NB312_316:=n6_;have NB316_312:=n7_;clear n0_ n1_ n2_ n3_ n4_ n5_ n6_ n7_;clear hb hbox hg;have hnb12:=NB316_312.out;have hnc12:=NB312_316.out;have hcz13_0:w11.cell? ⟨gb316,0,none⟩ = some (.int .i64 0):=(blk_cell BK316.out 0).trans rfl;have hcz13_1:w11.cell? ⟨gb316,1,none⟩ = some (.slice none 0 0):=(blk_cell BK316.out 1).trans rfl;have hfz13_0:=blk_frozen BK316.out 0;have hfz13_1:=blk_frozen BK316.out 1))
    go_loopg [15] k (fun kq v15 w'=>∃ (x15_1:Int) (x317001_1:List Bool) (u317001:Value),v15 = .int .i64 x15_1 ∧ Aside0 (impl_votesOf.l0 kq a1 (y313.length:Int) x15_1 a0 x317001_1 = some (r1,r2)) ∧ Aside0 (kq ≤ k) ∧ Aside0 (Kd.R Kd.bool 4 w' w.heap.size (fun _=>True) u317001 x317001_1) ∧ Aside0 (w'.heap[gb312]? = some (.cells #[.int .i64 0,(.slice none 0 0)] 94 (0,0))) ∧ Aside0 (w'.heap[gb316]? = some (.cells #[.int .i64 a0,u317001] 94 (0,0))) ∧ Aside0 (Below w.heap.size w w'))
    case atStart=>exact ⟨(0),(y313),(.slice Ao10 y313.length co10),qrs,H',⟨Nat.le_refl _⟩,⟨by (with_reducible repeat (first|apply Kd.R_alloc|apply Kd.R_drewN|apply Kd.R_drew));exact Kd.R_mono (Kd.R_far (p:=⟨gb316,1,none⟩) (Kd.R_far (p:=⟨gb316,0,none⟩) (Kd.R_types HO315.out BK316.out (by decide)) (fun _ hk=>hk.2) (.int .i64 a0)) (fun _ hk=>hk.2) (.slice Ao10 y313.length co10)) (fun _ hk=>trivial)⟩,⟨by (with_reducible repeat (first|refine blk_drewN ?_ _|refine blk_drew ?_|refine blk_alloc ?_ _));refine blk_far ?_ NB312_316.out _;(with_reducible repeat (first|refine blk_drewN ?_ _|refine blk_drew ?_|refine blk_alloc ?_ _));refine blk_far ?_ NB312_316.out _;(with_reducible repeat (first|refine blk_drewN ?_ _|refine blk_drew ?_|refine blk_alloc ?_ _));exact BK312.out⟩,⟨by (with_reducible repeat (first|refine blk_drewN ?_ _|refine blk_drew ?_|refine blk_alloc ?_ _));refine blk_put (cs:=#[.int .i64 a0,.slice none 0 0]) ?_ 1 _ rfl;(with_reducible repeat (first|refine blk_drewN ?_ _|refine blk_drew ?_|refine blk_alloc ?_ _));refine blk_put (cs:=#[.int .i64 0,.slice none 0 0]) ?_ 0 _ rfl;(with_reducible repeat (first|refine blk_drewN ?_ _|refine blk_drew ?_|refine blk_alloc ?_ _));exact BK316.out⟩,⟨by exact bw⟩⟩
    case round =>
     clear H';(try clear c1);(try clear p1);(try clear p2);(try clear c3);(try clear c3b0);(try clear c3b1);(try clear c5);(try clear c5b0);(try clear c5b1);(try clear c6);(try clear c6b0);(try clear c6b1);(try clear p6);(try clear c12);(try clear hcz13_0);(try clear hcz13_1);(try clear hfz13_0);(try clear hfz13_1)
     obtain ⟨x15_1,x317001_1,u317001,rfl,HA,HK1,HO_317001,BK312,BK316,HB⟩:=hrel
     cases gk with
     | zero=>exact absurd HA.out (by simp [impl_votesOf.l0])
     | succ k1 =>
      have H:=HA.out;clear HA;simp only [impl_votesOf.l0] at H;by_cases c14:x15_1 < (y313.length:Int)
      ·rw [if_pos c14] at H;have c14b0:decide (x15_1 < (y313.length:Int)) = true:=decide_eq_true c14;clear c14;replace H:=Option.bind_eq_some_iff.mp H;obtain ⟨t317,A150,H⟩:=H;replace H:(if 0 ≤ x15_1 then (if x15_1 < (x317001_1.length:Int) then (impl_votesOf.l0 k1 a1 (y313.length:Int) (wrap64 (x15_1 + 1)) a0 (x317001_1.set (x15_1:Int).toNat t317)) else (none)) else (none)) = some (r1,r2):=H;have A15:=aM A150;clear A150;by_cases c16:0 ≤ x15_1
       ·rw [if_pos c16] at H;have c16b0:decide (0 ≤ x15_1) = true:=decide_eq_true c16;clear c16;by_cases c17:x15_1 < (x317001_1.length:Int)
        ·rw [if_pos c17] at H;have c17b0:decide (x15_1 < (x317001_1.length:Int)) = true:=decide_eq_true c17;clear c17;obtain ⟨y318,hy318⟩:∃ y_:List Bool,y_ = (x317001_1.set (x15_1:Int).toNat t317):=⟨_,rfl⟩;replace H:(impl_votesOf.l0 k1 a1 (y313.length:Int) (wrap64 (x15_1 + 1)) a0 y318) = some (r1,r2):=by first|(rw [hy318];with_reducible exact H)|(have H2_:=(Option.bind_some _ _).symm.trans H;rw [hy318];with_reducible exact H2_)|(have H2_:=(Option.bind_some _ _).symm.trans H;with_reducible exact H2_)|with_reducible exact H|(rw [hy318];exact H)|exact H
         have Ny318:=aM hy318;clear hy318;have H':=aM H;clear H
         try go_wp2
         have n0_:=aM (Kd.R_drew HO_317001.out);have n1_:=aM (blk_drew BK312.out);have n2_:=aM (blk_drew BK316.out);have n3_:=aM (below_drew1 HB.out);clear HO_317001;clear BK312;clear BK316;clear HB;have HO_317001:=n0_;have BK312:=n1_;have BK316:=n2_;have HB:=n3_;clear n0_ n1_ n2_ n3_;refine start_ (n:=8) (S:=fun w'=>w'.cell? ⟨gb316,0,none⟩ = some (.int .i64 a0) ∧ w'.cell? ⟨gb316,1,none⟩ = some (u317001)) (ds:=[7]) (mA 8 0) kR rfl rfl ⟨(blk_cell BK316.out 0).trans rfl,(blk_cell BK316.out 1).trans rfl⟩ (fun hHeld=>?_);refine with_tabW impl_votesOf.tab5 impl_votesOf.bits5 (fun HT_ HW_=>?_)
         generalize wr.drew = w19 at HO_317001 BK312 BK316 HB hHeld ⊢
         refine pure_ (i:=0) (N:=some 18) (v:=?_) (a':=?_) (mA 8 1) rfl rfl (any_of HT_.out kR) (fun _ _ _ h=>h) (Or.inl ⟨by rfl,?_⟩) ?_ ?_;rotate_left
         ·intro w';go_simp
          with_reducible rfl
         rotate_left
         ·simp only [Act.put,sA,sZ,sS,i64_w,i32_w];rfl
         refine pure_ (i:=2) (N:=some 20) (v:=?_) (a':=?_) (mA 8 5) rfl rfl (any_of HT_.out kR) (fun _ _ _ h=>h) (Or.inl ⟨by rfl,?_⟩) ?_ ?_;rotate_left
         ·intro w';go_simp
          with_reducible rfl
         rotate_left
         ·simp only [Act.put,sA,sZ,sS,i64_w,i32_w];rfl
         refine pure_ (i:=3) (N:=some 21) (v:=?_) (a':=?_) (mA 8 13) rfl rfl (any_of HT_.out kR) (fun _ _ _ h=>h) (Or.inl ⟨by rfl,?_⟩) ?_ ?_;rotate_left
         ·intro w';go_simp
          with_reducible rfl
         rotate_left
         ·simp only [Act.put,sA,sZ,sS,i64_w,i32_w];rfl
         refine pure_ (i:=4) (N:=some 22) (v:=?_) (a':=?_) (mA 8 29) rfl rfl (any_of HT_.out kR) (fun _ _ _ h=>h) (Or.inl ⟨by rfl,?_⟩) ?_ ?_;rotate_left
         ·intro w';go_simp
          with_reducible rfl
         rotate_left
         ·simp only [Act.put,sA,sZ,sS,i64_w,i32_w];rfl
         refine take_ (i:=1) (N:=some 19) (v:=?_) (a':=?_) (mA 8 31) rfl rfl (take_ofW HT_.out HW_.out kR) (fun _ _ _ h=>h) (Or.inl ⟨by rfl,?_⟩) hHeld ?_ ?_;rotate_left
         ·rintro w' ⟨s0,s1⟩
          go_simp
          with_reducible rfl
         rotate_left
         ·simp only [Act.put,sA,sZ,sS,i64_w,i32_w];rfl
         refine one_ (i:=5) (N:=some 23) (mA 8 63) rfl rfl (one_of HT_.out kR) (by decide) (fun K hK=>?_);refine goesFr_ eg1_ #[.int .i64 x15_1] (by rfl) rfl rfl (by rfl) mq ?_
         with_reducible refine (HP1.out _ x15_1 t317 A15.out ?side1).mono ?_
         (case side1=>exact bw)
         rintro e w20 ⟨rfl,hb⟩
         refine ⟨_,rfl,?_⟩;have n0_:=aM (Kd.R_below (qra HO_317001.out) hb);have n1_:=aM (blk_below (g:=gb312) (o:=.cells #[.int .i64 0,.slice none 0 0] 94 (0,0)) bk hb);have n2_:=aM (blk_below (g:=gb316) (o:=.cells #[.int .i64 a0,u317001] 94 (0,0)) bk hb);have n3_:=aM (below_step bw hb);clear HO_317001;clear BK312;clear BK316;clear HB;have HO_317001:=n0_;have BK312:=n1_;have BK316:=n2_;have HB:=n3_;clear n0_ n1_ n2_ n3_;(try clear hb)
         (try clear hb2)
         (try clear hk)
         (try clear hi)
         have p18:0 ≤ (x15_1:Int):=of_decide_eq_true ab;have q18:(x15_1:Int) < ((x317001_1.length:Int):Int):=of_decide_eq_true ab;obtain ⟨go18,co18,eo18,gb18,gl18,cl18,HG18⟩:=Kd.R_form HO_317001.out (by omega);(first|cases eo18|(injection eo18 with ea_ en_ ec_;(first|subst ea_|(injection ea_ with ea_;subst ea_));subst ec_;clear en_))
         have GB18:=aM gb18;have GG18:=aM HG18;clear gb18 gl18 HG18;obtain ⟨hx18_0,hf18_0⟩:=Kd.R_celln false HO_317001.out (x15_1:Int) p18 q18;replace p18:=eq_true p18;replace q18:=eq_true q18;have HP21:=Kd.R_putn HO_317001.out (x15_1:Int) t317;rw [← Ny318.out] at HP21;have HQ21:=aM HP21;clear HP21;refine hK.out _ _ ⟨(blk_cell BK316.out 0).trans rfl,(blk_cell BK316.out 1).trans rfl⟩ (fun hHeld=>?_);clear hK K;refine norm_ (a':=?_) ?_ ?_;rotate_left
         ·show Act.put _ (some 23) _ = _;simp only [Act.put,sA,sZ,sS,i64_w,i32_w];rfl
         refine pure_ (i:=6) (N:=some 24) (v:=?_) (a':=?_) (mA 8 127) rfl rfl (any_of HT_.out kR) (fun _ _ _ h=>h) (Or.inl ⟨by rfl,?_⟩) ?_ ?_;rotate_left
         ·intro w';go_simp
          with_reducible rfl
         rotate_left
         ·simp only [Act.put,sA,sZ,sS,i64_w,i32_w];rfl
         refine last_ (i:=7) (N:=none) (mA 8 255) rfl rfl (one_of HT_.out kR) (by decide) (fun K hK=>?_);refine skip_ (w1:=?_) (by rfl) rfl ?_ ?_;rotate_left
         ·go_simp
          rfl
         refine hK.out _ _ ?_;clear hK K;refine done_ (done_of HT_.out kR) ?_
         try go_wp2
         go_roundg k1
         case measure=>have:=HK1.out;omega
         case rel=>exact ⟨(wrap64 (x15_1 + 1)),(y318),(.slice (some ⟨go18,0,none⟩) x317001_1.length co18),qrs,H',⟨by have:=HK1.out;omega⟩,⟨qra HQ21.out⟩,⟨by (with_reducible repeat (first|refine blk_drewN ?_ _|refine blk_drew ?_|refine blk_alloc ?_ _));refine blk_far ?_ (by have h_:=Kd.R_ne HO_317001.out BK312.out (by decide);intro e_;exact h_ (by rw [e_];rfl)) _;(with_reducible repeat (first|refine blk_drewN ?_ _|refine blk_drew ?_|refine blk_alloc ?_ _));exact BK312.out⟩,⟨by (with_reducible repeat (first|refine blk_drewN ?_ _|refine blk_drew ?_|refine blk_alloc ?_ _));refine blk_far ?_ (by have h_:=Kd.R_ne HO_317001.out BK316.out (by decide);intro e_;exact h_ (by rw [e_];rfl)) _;(with_reducible repeat (first|refine blk_drewN ?_ _|refine blk_drew ?_|refine blk_alloc ?_ _));exact BK316.out⟩,⟨by repeat (first|(with_reducible first|exact HB.out|apply below_alloc|apply pw_below_drewN|apply below_drew1|refine below_set ?_ GB18.out|refine below_set ?_ GE312.out|refine below_set ?_ GE316.out)|exact HB.out)⟩⟩
        ·rw [if_neg c17] at H;exact absurd H (by simp)
       ·rw [if_neg c16] at H;exact absurd H (by simp)
      ·rw [if_neg c14] at H;have c14b0:decide (x15_1 < (y313.length:Int)) = false:=decide_eq_false c14;clear c14;simp only [Option.some.injEq,Prod.mk.injEq] at H;obtain ⟨rfl,rfl⟩:=H;have hnb22:=NB316_312.out;have hnc22:=NB312_316.out;have hcz23_0:wr.cell? ⟨gb316,0,none⟩ = some (.int .i64 a0):=(blk_cell BK316.out 0).trans rfl;have hcz23_1:wr.cell? ⟨gb316,1,none⟩ = some (u317001):=(blk_cell BK316.out 1).trans rfl;have hfz23_0:=blk_frozen BK316.out 0;have hfz23_1:=blk_frozen BK316.out 1;have hcz24_0:wr.cell? ⟨gb312,0,none⟩ = some (.int .i64 0):=(blk_cell BK312.out 0).trans rfl;have hcz24_1:wr.cell? ⟨gb312,1,none⟩ = some (.slice none 0 0):=(blk_cell BK312.out 1).trans rfl;have hfz24_0:=blk_frozen BK312.out 0;have hfz24_1:=blk_frozen BK312.out 1;obtain ⟨Ao25,co25,eo25⟩:=Kd.R_slice HO_317001.out;subst eo25;go_wp2
       refine bodyPost_ret (results_cell_row rfl _ _ gb312 94 #[.int .i64 a0,.slice Ao25 x317001_1.length co25] (0,0) _ rfl (by (with_reducible repeat (first|refine blk_drewN ?_ _|refine blk_drew ?_|refine blk_alloc ?_ _));refine blk_put (cs:=#[.int .i64 a0,.slice none 0 0]) ?_ 1 _ rfl;(with_reducible repeat (first|refine blk_drewN ?_ _|refine blk_drew ?_|refine blk_alloc ?_ _));refine blk_put (cs:=#[.int .i64 0,.slice none 0 0]) ?_ 0 _ rfl;(with_reducible repeat (first|refine blk_drewN ?_ _|refine blk_drew ?_|refine blk_alloc ?_ _));exact BK312.out) Try.underlying94 rfl kR) rfl ?_;exact ⟨_,by first|rfl|(simp [errW_none,errW_some] <;> rfl)|(simp only [← hji4];first|rfl|(simp [errW_none,errW_some] <;> rfl))|(simp [*,errW_none,errW_some] <;> rfl),by (with_reducible repeat (first|apply Kd.R_alloc|apply Kd.R_drewN|apply Kd.R_drew));exact Kd.R_mono (Kd.R_far (p:=⟨gb312,1,none⟩) (Kd.R_far (p:=⟨gb312,0,none⟩) (Kd.R_types HO_317001.out BK312.out (by decide)) (fun _ hk=>hk.2) (.int .i64 a0)) (fun _ hk=>hk.2) (.slice Ao25 x317001_1.length co25)) (fun _ hk=>trivial),by exact bw⟩
   ·rw [if_neg c6] at H;exact absurd H (by simp)
  ·rw [if_neg c5] at H;exact absurd H (by simp)
 ·rw [if_neg c3] at H;exact absurd H (by simp)


/-! ### impl_votesBy_1_1: function 199 -/
def impl_votesBy_1_1.f (a0:Int) (a1:Int):Option (Bool):=some ((Go.bits .and .i64 a1 a0) == a0)
set_option maxHeartbeats 8000000 in
set_option maxRecDepth 100000 in
theorem impl_votesBy_1_1.calls (a0:Int) (gc1:Nat) (a1:Int) (r:Bool) (w:World) (hb1:w.heap[gc1]? = some (.cells #[.int .i64 a1] 3 (0,0))) (h:impl_votesBy_1_1.f a0 a1 = some r) :
  Calls Try.prog 199 #[.int .i64 a0,.pointer (some ⟨gc1,0,none⟩)] w fun e w'=>e = .returned (.bool r) ∧ Drawn0 w w':=by
 have BK1:=aM hb1;clear hb1;have H:(some ((Go.bits .and .i64 a1 a0) == a0)) = some r:=h;clear h;obtain rfl:=Option.some.inj H;have hcz3_0:w.cell? ⟨gc1,0,none⟩ = some (.int .i64 a1):=(blk_cell BK1.out 0).trans rfl;have hfz3_0:=blk_frozen BK1.out 0;go_enter Try.func199,Try.ntmps199;go_wp2
 go_ret
 exact ⟨by first|rfl|(simp;done)|(simp [*];done),by repeat (first|exact Drawn0.refl _|apply Drawn0.step)⟩
theorem impl_votesBy_1_1.enters:∀ (args:Array Value) (w:World),(callFunc 199 args).run Try.prog w = .ok (.enter 199 args) w:=enters_of Try.func199 kR rfl


/-! ### impl_votesBy_1: function 197 -/
def impl_votesBy_1.f (k:Nat) (a0:Int) (l1:List Int):Option (Bool):=(slices_ContainsFunc_int_int.f k l1 (fun y0_=>impl_votesBy_1_1.f y0_ a0)).bind fun t790=>(some t790)
theorem impl_votesBy_1.mono:∀ a0 a1 k,LeO (impl_votesBy_1.f k a0 a1) (impl_votesBy_1.f (k + 1) a0 a1):=by
 intro a0 a1 k;unfold impl_votesBy_1.f
 repeat' with_reducible first|exact slices_ContainsFunc_int_int.mono _ _ _|exact LeO.refl _|exact LeO.none _|refine LeO.trans (slices_ContainsFunc_int_int.mono _ _ _) (slices_ContainsFunc_int_int.mono_p (fun _=>?_) _ _)|refine LeO.ite ?_ ?_|refine LeO.bind ?_ (fun _=>?_)
set_option maxHeartbeats 8000000 in
set_option maxRecDepth 100000 in
theorem impl_votesBy_1.calls (k:Nat) (a0:Int) (gc1:Nat) (A1:Option Addr) (c1:Nat) (l1:List Int) (r:Bool) (w:World) (hr1:Kd.C (Kd.int .i64) w A1 l1.length l1) (hc1:l1.length ≤ c1) (hb1:w.heap[gc1]? = some (.cells #[.slice A1 l1.length c1] 22 (0,0))) (h:impl_votesBy_1.f k a0 l1 = some r) :
  Calls Try.prog 197 #[.int .i64 a0,.pointer (some ⟨gc1,0,none⟩)] w fun e w'=>e = .returned (.bool r) ∧ Below w.heap.size w w':=by
 have hmf:∀ (fn:Fn) (first cap:Array Value) (w:World),(Instr.makeFunc fn first cap).run Try.prog w = .ok (.func fn first cap) w:=fun _ _ _ _=>rfl
 have HR1:=aM hr1;have HC1:=aM hc1;clear hr1 hc1;have BK1:=aM hb1;clear hb1;have HB:=aM (Below.refl w.heap.size w);have H:((slices_ContainsFunc_int_int.f k l1 (fun y0_=>impl_votesBy_1_1.f y0_ a0)).bind fun t790=>(some t790)) = some r:=h;clear h;replace H:=Option.bind_eq_some_iff.mp H;obtain ⟨t790,A30,H⟩:=H;replace H:(some t790) = some r:=H;have A3:=aM A30;clear A30;obtain rfl:=Option.some.inj H;go_enter Try.func197,Try.ntmps197;go_wp2_with (first|((with_reducible refine gate_dst (N:=2) rfl ?_);refine box_event ?hg (N:=2) ?hd (cs:=#[.int .i64 a0]) (t:=3) ?hr ?_;(case hd=>rfl);(case hg=>rfl);(case hr=>first|(go_simp;done)|(go_simp;rfl));intro gb789 hg w4 hbox hb;have n0_:=aM (blk_below (g:=gc1) (o:=.cells #[.slice A1 l1.length c1] 22 (0,0)) bk hb);have n1_:=aM (below_step bw hb);have n2_:=aM (hbox);have n3_:=aM ((by rw [hg];exact (below_size bw):w.heap.size ≤ gb789));have n4_:=aM ((by rw [hg];exact (below_size bw):w.heap.size ≤ gb789));have n5_:=aM ((by rw [hg];exact Nat.ne_of_lt (blk_lt (g:=gc1) (o:=.cells #[.slice A1 l1.length c1] 22 (0,0)) bk):gc1 ≠ gb789));have n6_:=aM ((by rw [hg];exact Nat.ne_of_gt (blk_lt (g:=gc1) (o:=.cells #[.slice A1 l1.length c1] 22 (0,0)) bk):gb789 ≠ gc1));clear BK1;clear HB;have BK1:=n0_;have HB:=n1_;have BK789:=n2_;have GW789:=n3_;have GE789:=n4_;have NB1_789:=n5_;have NB789_1:=n6_;clear n0_ n1_ n2_ n3_ n4_ n5_ n6_;clear hb hbox hg;have hnb5:=NB1_789.out;have hnc5:=NB789_1.out;have hcz6_0:w4.cell? ⟨gc1,0,none⟩ = some (.slice A1 l1.length c1):=(blk_cell BK1.out 0).trans rfl;have hfz6_0:=blk_frozen BK1.out 0)|((with_reducible refine gate_callee (f:=198) rfl ?_);refine goesL_ (some 6) rfl rfl Try.func198 kR rfl #[.slice A1 l1.length c1,.func (.func 199) #[] #[.pointer (some ⟨gb789,0,none⟩)]] rfl mq ?_;(with_reducible refine (slices_ContainsFunc_int_int.calls k _ _ l1 (fun y0_=>impl_votesBy_1_1.f y0_ a0) 199 #[.pointer (some ⟨gb789,0,none⟩)] impl_votesBy_1_1.enters t790 _ ?side1 ?side2 ?side3 A3.out).mono ?_);(case side1=>exact qcs HR1.out HB.out);(case side2=>exact HC1.out);(case side3=>exact (fun W_ a0_ r0_ hx_ hb_ =>(impl_votesBy_1_1.calls a0_ gb789 a0 r0_ W_  (box_later bk hb_) hx_).mono (fun _ _ h_=>⟨h_.1,h_.2.below⟩)));rintro e w7 ⟨rfl,hb⟩;refine ⟨_,rfl,?_⟩;have n0_:=aM (blk_below (g:=gc1) (o:=.cells #[.slice A1 l1.length c1] 22 (0,0)) bk hb);have n1_:=aM (blk_below (g:=gb789) (o:=.cells #[.int .i64 a0] 3 (0,0)) bk hb);have n2_:=aM (below_step bw hb);clear BK1;clear BK789;clear HB;have BK1:=n0_;have BK789:=n1_;have HB:=n2_;clear n0_ n1_ n2_;(try clear hb);(try clear hb2);(try clear hk);(try clear hi)))
 go_ret
 exact ⟨by first|rfl|(simp [errW_none,errW_some] <;> rfl)|(simp [*,errW_none,errW_some] <;> rfl),by exact bw⟩
theorem impl_votesBy_1.enters:∀ (args:Array Value) (w:World),(callFunc 197 args).run Try.prog w = .ok (.enter 197 args) w:=enters_of Try.func197 kR rfl


/-! ### impl_votesBy: function 171 -/
def impl_votesBy.l0:Nat → Int → List (List Int) → Int → Int → List Int → Option (Int × List Bool)
 | 0,_,_,_,_,_=>none
 | k + 1,x0,x9,x10,x11,x796000=>if x11 < x10 then (if 0 ≤ x11 then (if x11 < (x9.length:Int) then ((impl_maskOf.f k (rd_LI x9 x11)).bind fun t797=>(if x796000.length < 17592186044416 then (impl_votesBy.l0 k x0 x9 x10 (wrap64 (x11 + 1)) (x796000 ++ [t797])) else (none))) else (none)) else (none)) else ((impl_votesOf.f k x0 (fun y0_=>impl_votesBy_1.f k y0_ x796000)).bind fun bt801=>(some (bt801.1,bt801.2)))
def impl_votesBy.f (k:Nat) (a0:Int) (l1:List (List Int)):Option (Int × List Bool):=impl_votesBy.l0 k a0 l1 (l1.length:Int) 0 (([]:List Int))
theorem impl_votesBy.mono_l:∀ k,(∀ y0 y1 y2 y3 y4,LeO (impl_votesBy.l0 k y0 y1 y2 y3 y4) (impl_votesBy.l0 (k + 1) y0 y1 y2 y3 y4))
 | 0=>fun _ _ _ _ _ r h=>by simp [impl_votesBy.l0] at h
 | k + 1=>by
  have ih0:=impl_votesBy.mono_l k
  ·intro y0 y1 y2 y3 y4;unfold impl_votesBy.l0
   repeat' with_reducible first|exact ih0 _ _ _ _ _|exact impl_maskOf.mono _ _|exact impl_votesBy_1.mono _ _ _|exact impl_votesOf.mono _ _ _|exact LeO.refl _|exact LeO.none _|refine LeO.trans (impl_votesOf.mono _ _ _) (impl_votesOf.mono_p (fun _=>?_) _ _)|refine LeO.ite ?_ ?_|refine LeO.bind ?_ (fun _=>?_)
theorem impl_votesBy.mono:∀ a0 a1 k,LeO (impl_votesBy.f k a0 a1) (impl_votesBy.f (k + 1) a0 a1):=by
 intro a0 a1 k;have ih0:=impl_votesBy.mono_l k;unfold impl_votesBy.f
 repeat' with_reducible first|exact ih0 _ _ _ _ _|exact impl_maskOf.mono _ _|exact impl_votesBy_1.mono _ _ _|exact impl_votesOf.mono _ _ _|exact LeO.refl _|exact LeO.none _|refine LeO.trans (impl_votesOf.mono _ _ _) (impl_votesOf.mono_p (fun _=>?_) _ _)|refine LeO.ite ?_ ?_|refine LeO.bind ?_ (fun _=>?_)
set_option maxHeartbeats 8000000 in
set_option maxRecDepth 100000 in
theorem impl_votesBy.calls (k:Nat) (a0:Int) (A1:Option Addr) (c1:Nat) (l1:List (List Int)) (r1:Int) (r2:List Bool) (w:World) (hr1:Kd.C (Kd.slice 3 (Kd.int .i64)) w A1 l1.length l1) (hc1:l1.length ≤ c1) (h:impl_votesBy.f k a0 l1 = some (r1,r2)) :
  Calls Try.prog 171 #[.int .i64 a0,.slice A1 l1.length c1] w fun e w'=>∃ v1_:Value,e = .returned (.agg #[.int .i64 r1,v1_]) ∧ Kd.R Kd.bool 4 w' w.heap.size (fun _=>True) v1_ r2 ∧ Below w.heap.size w w':=by
 have hmf:∀ (fn:Fn) (first cap:Array Value) (w:World),(Instr.makeFunc fn first cap).run Try.prog w = .ok (.func fn first cap) w:=fun _ _ _ _=>rfl
 have hu94:=Try.underlying94;have HR1:=aM hr1;have HC1:=aM hc1;clear hr1 hc1;have HB:=aM (Below.refl w.heap.size w);have H:(impl_votesBy.l0 k a0 l1 (l1.length:Int) 0 (([]:List Int))) = some (r1,r2):=h;clear h;obtain ⟨y792,hy792⟩:∃ y_:List Int,y_ = (([]:List Int)):=⟨_,rfl⟩;replace H:(impl_votesBy.l0 k a0 l1 (l1.length:Int) 0 y792) = some (r1,r2):=by first|(rw [hy792];with_reducible exact H)|(have H2_:=(Option.bind_some _ _).symm.trans H;rw [hy792];with_reducible exact H2_)|(have H2_:=(Option.bind_some _ _).symm.trans H;with_reducible exact H2_)|with_reducible exact H|(rw [hy792];exact H)|exact H
 have Ny792:=aM hy792;clear hy792;have H':=aM H;clear H;go_enter Try.func171,Try.ntmps171;go_wp2_with (first|((with_reducible refine gate_dst (N:=4) rfl ?_);refine box_event ?hg (N:=4) ?hd (cs:=#[.int .i64 0,.slice none 0 0]) (t:=94) ?hr ?_;(case hd=>rfl);(case hg=>rfl);(case hr=>first|(go_simp;done)|(go_simp;rfl));intro gb791 hg w3 hbox hb;have n0_:=aM (below_step bw hb);have n1_:=aM (hbox);have n2_:=aM ((by rw [hg];exact (below_size bw):w.heap.size ≤ gb791));have n3_:=aM ((by rw [hg];exact (below_size bw):w.heap.size ≤ gb791));clear HB;have HB:=n0_;have BK791:=n1_;have GW791:=n2_;have GE791:=n3_;clear n0_ n1_ n2_ n3_;clear hb hbox hg)|((with_reducible refine gate_dst (N:=8) rfl ?_);refine Kd.R_lit (Kd.int .i64) _ 3 ?hg (N:=8) ?hd (xs:=([]:List Int)) (inner:=[]) (ok:=fun _=>True) (okp:=fun _=>True) ?hr ?hp (fun _ hk=>hk) trivial (Below.refl _ _) (Nat.le_refl _) (by simp) ?_;(case hd=>rfl);(case hg=>rfl);(case hr=>first|(go_simp;done)|(go_simp;rfl));(case hp=>exact (Reps.none _ _));intro v793 w4 ho5 hb hg_ hnew_;clear hg_ hnew_;(first|rw [← Ny792.out] at ho5|(simp only [Int.reduceToNat] at ho5;rw [← Ny792.out] at ho5));have n0_:=aM (Kd.R_lower ho5 (below_size bw));have n1_:=aM (blk_below (g:=gb791) (o:=.cells #[.int .i64 0,.slice none 0 0] 94 (0,0)) bk hb);have n2_:=aM (below_step bw hb);clear BK791;clear HB;have HO794:=n0_;have BK791:=n1_;have HB:=n2_;clear n0_ n1_ n2_;clear hb ho5)|((with_reducible refine gate_dst (N:=5) rfl ?_);refine box_event ?hg (N:=5) ?hd (cs:=#[.slice none 0 0]) (t:=22) ?hr ?_;(case hd=>rfl);(case hg=>rfl);(case hr=>first|(go_simp;done)|(go_simp;rfl));intro gb795 hg w6 hbox hb;have n0_:=aM (Kd.R_below (qra HO794.out) hb);have n1_:=aM (blk_below (g:=gb791) (o:=.cells #[.int .i64 0,.slice none 0 0] 94 (0,0)) bk hb);have n2_:=aM (below_step bw hb);have n3_:=aM (hbox);have n4_:=aM ((by rw [hg];exact (below_size bw):w.heap.size ≤ gb795));have n5_:=aM ((by rw [hg];exact (below_size bw):w.heap.size ≤ gb795));have n6_:=aM ((by rw [hg];exact Nat.ne_of_lt (blk_lt (g:=gb791) (o:=.cells #[.int .i64 0,.slice none 0 0] 94 (0,0)) bk):gb791 ≠ gb795));have n7_:=aM ((by rw [hg];exact Nat.ne_of_gt (blk_lt (g:=gb791) (o:=.cells #[.int .i64 0,.slice none 0 0] 94 (0,0)) bk):gb795 ≠ gb791));clear HO794;clear BK791;clear HB;have HO794:=n0_;have BK791:=n1_;have HB:=n2_;have BK795:=n3_;have GW795:=n4_;have GE795:=n5_;have NB791_795:=n6_;have NB795_791:=n7_;clear n0_ n1_ n2_ n3_ n4_ n5_ n6_ n7_;clear hb hbox hg;obtain ⟨Ao7,co7,eo7⟩:=Kd.R_slice HO794.out;subst eo7;have hnb8:=NB795_791.out;have hnc8:=NB791_795.out;have hcz9_0:w6.cell? ⟨gb795,0,none⟩ = some (.slice none 0 0):=(blk_cell BK795.out 0).trans rfl;have hfz9_0:=blk_frozen BK795.out 0))
 go_loopg [11] k (fun kq v11 w'=>∃ (x11_1:Int) (x796000_1:List Int) (u796000:Value),v11 = .int .i64 x11_1 ∧ Aside0 (impl_votesBy.l0 kq a0 l1 (l1.length:Int) x11_1 x796000_1 = some (r1,r2)) ∧ Aside0 (kq ≤ k) ∧ Aside0 (Kd.R (Kd.int .i64) 3 w' w.heap.size (fun _=>True) u796000 x796000_1) ∧ Aside0 (w'.heap[gb791]? = some (.cells #[.int .i64 0,(.slice none 0 0)] 94 (0,0))) ∧ Aside0 (w'.heap[gb795]? = some (.cells #[u796000] 22 (0,0))) ∧ Aside0 (Below w.heap.size w w'))
 case atStart=>exact ⟨(0),(y792),(.slice Ao7 y792.length co7),qrs,H',⟨Nat.le_refl _⟩,⟨by (with_reducible repeat (first|apply Kd.R_alloc|apply Kd.R_drewN|apply Kd.R_drew));exact Kd.R_mono (Kd.R_far (p:=⟨gb795,0,none⟩) (Kd.R_types HO794.out BK795.out (by decide)) (fun _ hk=>hk.2) (.slice Ao7 y792.length co7)) (fun _ hk=>trivial)⟩,⟨by (with_reducible repeat (first|refine blk_drewN ?_ _|refine blk_drew ?_|refine blk_alloc ?_ _));refine blk_far ?_ NB791_795.out _;(with_reducible repeat (first|refine blk_drewN ?_ _|refine blk_drew ?_|refine blk_alloc ?_ _));exact BK791.out⟩,⟨by (with_reducible repeat (first|refine blk_drewN ?_ _|refine blk_drew ?_|refine blk_alloc ?_ _));refine blk_put (cs:=#[.slice none 0 0]) ?_ 0 _ rfl;(with_reducible repeat (first|refine blk_drewN ?_ _|refine blk_drew ?_|refine blk_alloc ?_ _));exact BK795.out⟩,⟨by exact bw⟩⟩
 case round =>
  clear H';(try clear c1);(try clear p2);(try clear c8);(try clear hcz9_0);(try clear hfz9_0)
  obtain ⟨x11_1,x796000_1,u796000,rfl,HA,HK1,HO_796000,BK791,BK795,HB⟩:=hrel
  cases gk with
  | zero=>exact absurd HA.out (by simp [impl_votesBy.l0])
  | succ k1 =>
   have H:=HA.out;clear HA;simp only [impl_votesBy.l0] at H;by_cases c10:x11_1 < (l1.length:Int)
   ·rw [if_pos c10] at H;have c10b0:decide (x11_1 < (l1.length:Int)) = true:=decide_eq_true c10;clear c10;by_cases c11:0 ≤ x11_1
    ·rw [if_pos c11] at H;have c11b0:decide (0 ≤ x11_1) = true:=decide_eq_true c11;clear c11;by_cases c12:x11_1 < (l1.length:Int)
     ·rw [if_pos c12] at H;have c12b0:decide (x11_1 < (l1.length:Int)) = true:=decide_eq_true c12;clear c12;replace H:=Option.bind_eq_some_iff.mp H;obtain ⟨t797,A130,H⟩:=H;replace H:(if x796000_1.length < 17592186044416 then (impl_votesBy.l0 k1 a0 l1 (l1.length:Int) (wrap64 (x11_1 + 1)) (x796000_1 ++ [t797])) else (none)) = some (r1,r2):=H;have A13:=aM A130;clear A130;by_cases c14:x796000_1.length < 17592186044416
      ·rw [if_pos c14] at H;have LMc14:=aM c14;clear c14;obtain ⟨y798,hy798⟩:∃ y_:List Int,y_ = (x796000_1 ++ [t797]):=⟨_,rfl⟩;replace H:(impl_votesBy.l0 k1 a0 l1 (l1.length:Int) (wrap64 (x11_1 + 1)) y798) = some (r1,r2):=by first|(rw [hy798];with_reducible exact H)|(have H2_:=(Option.bind_some _ _).symm.trans H;rw [hy798];with_reducible exact H2_)|(have H2_:=(Option.bind_some _ _).symm.trans H;with_reducible exact H2_)|with_reducible exact H|(rw [hy798];exact H)|exact H
       have Ny798:=aM hy798;clear hy798;have H':=aM H;clear H;have p796:0 ≤ (x11_1:Int):=of_decide_eq_true ab;have q796:x11_1 < (l1.length:Int):=of_decide_eq_true ab;obtain ⟨ad796,A796_0,c796_0,e796,hx796_0,hl796_0,hi796_0⟩:=at_LI HR1.out x11_1 p796 q796;cases e796
       replace hx796_0:=(HB.out.cell (World.block_lt_of_cell? w _ hx796_0)).trans hx796_0;have HR796_0:=aM hi796_0;have HC796_0:=aM hl796_0;clear hi796_0 hl796_0;replace p796:=eq_true p796;replace q796:=eq_true q796
       try go_wp2
       have n0_:=aM (Kd.R_drew HO_796000.out);have n1_:=aM (blk_drew BK791.out);have n2_:=aM (blk_drew BK795.out);have n3_:=aM (below_drew1 HB.out);clear HO_796000;clear BK791;clear BK795;clear HB;have HO_796000:=n0_;have BK791:=n1_;have BK795:=n2_;have HB:=n3_;clear n0_ n1_ n2_ n3_;refine start_ (n:=6) (S:=fun w'=>w'.cell? ⟨gb795,0,none⟩ = some (u796000)) (ds:=[5]) (mA 6 0) kR rfl rfl ((blk_cell BK795.out 0).trans rfl) (fun hHeld=>?_);generalize wr.drew = w15 at HO_796000 BK791 BK795 HB hHeld ⊢
       refine pure_ (i:=1) (N:=some 16) (v:=?_) (a':=?_) (mA 6 2) rfl rfl kR (fun _ _ _ h=>h) (Or.inl ⟨by rfl,?_⟩) ?_ ?_;rotate_left
       ·intro w';go_simp
        with_reducible rfl
       rotate_left
       ·simp only [Act.put,sA,sZ,sS,i64_w,i32_w];rfl
       refine take_ (i:=0) (N:=some 15) (v:=?_) (a':=?_) (mA 6 3) rfl rfl kR (fun _ _ _ h=>h) (Or.inl ⟨by rfl,?_⟩) hHeld ?_ ?_;rotate_left
       ·intro w' s0;go_simp
        with_reducible rfl
       rotate_left
       ·simp only [Act.put,sA,sZ,sS,i64_w,i32_w];rfl
       refine one_ (i:=2) (N:=some 17) (mA 6 7) rfl rfl kR (by decide) (fun K hK=>?_);refine goes_ Try.func170 kR rfl #[.slice A796_0 (rd_LI l1 x11_1).length c796_0] (by rfl) rfl rfl mq ?_
       with_reducible refine (impl_maskOf.calls k1 _ _ (rd_LI l1 x11_1) t797 _ ?side1 ?side2 A13.out).mono ?_
       (case side1=>exact qcs HR796_0.out HB.out)
       (case side2=>exact HC796_0.out)
       rintro e w' ⟨rfl,⟨nd,rfl⟩⟩
       refine ⟨_,rfl,?_⟩;refine hK.out _ _ ((blk_cell BK795.out 0).trans rfl) (fun hHeld=>?_);clear hK K;refine norm_ (a':=?_) ?_ ?_;rotate_left
       ·show Act.put _ (some 17) _ = _;simp only [Act.put,sA,sZ,sS,i64_w,i32_w];rfl
       refine one_ (i:=3) (N:=some 18) (mA 6 15) rfl rfl kR (by decide) (fun K hK=>?_);refine value_ (w1:=?_) (v:=?_) (by rfl) rfl ?_ ?_;rotate_left 2
       ·go_simp
        constructor
        ·rfl
        ·rfl
       refine hK.out _ _ ((blk_cell (blk_alloc BK795.out _) 0).trans rfl) (fun hHeld=>?_);clear hK K;refine norm_ (a':=?_) ?_ ?_;rotate_left
       ·show Act.put _ (some 18) _ = _;simp only [Act.put,sA,sZ,sS,i64_w,i32_w];rfl
       refine one_ (i:=4) (N:=some 19) (mA 6 31) rfl rfl kR (by decide) (fun K hK=>?_);refine Kd.R_append_step (Kd.int .i64) (w0:=w) w.heap.size (by rfl) (.tmp 15) (.tmp 18) 22 3 (.int .i64 0) 8 rfl Try.underlying22 info3 rfl (by decide) (by omega) u796000 x796000_1 t797 [.int .i64 t797] (fun _=>True) (fun _=>False) rfl rfl ?aP (fun _ hk=>hk.elim) ?aF ?aO ?aB ?aS ?aL ?_;(case aP=>exact rfl)
       (case aB=>exact bw)
       (case aF=>exact (fun _ _=>trivial))
       (case aO=>exact (qra HO_796000.out))
       (case aS=>exact (below_size bw))
       (case aL=>have:=LMc14.out;omega)
       intro v799 w16 ho hb hg hat;rw [← Ny798.out] at ho;have n0_:=aM (blk_grown (g:=gb791) (o:=.cells #[.int .i64 0,.slice none 0 0] 94 (0,0)) bk hg (Kd.R_ne HO_796000.out BK791.out (by decide)));have n1_:=aM (blk_grown (g:=gb795) (o:=.cells #[u796000] 22 (0,0)) bk hg (Kd.R_ne HO_796000.out BK795.out (by decide)));have n2_:=aM (hb);have n3_:=aM (ho);clear BK791;clear BK795;clear HB;clear HO_796000;have BK791:=n0_;have BK795:=n1_;have HB:=n2_;have HO800:=n3_;clear n0_ n1_ n2_ n3_;clear ho hb hg hat;obtain ⟨Ao17,co17,eo17⟩:=Kd.R_slice HO800.out;(first|subst eo17|(injection eo17 with f1_ f2_ f3_;have f4_:=f1_.symm;have f5_:=f3_.symm;clear f1_ f2_ f3_;subst f4_;subst f5_))
       refine hK.out _ _ ((blk_cell BK795.out 0).trans rfl) (fun hHeld=>?_);clear hK K;refine norm_ (a':=?_) ?_ ?_;rotate_left
       ·show Act.put _ (some 19) _ = _;simp only [Act.put,sA,sZ,sS,i64_w,i32_w];rfl
       refine last_ (i:=5) (N:=none) (mA 6 63) rfl rfl kR (by decide) (fun K hK=>?_);have hs18:w16.cell? ⟨gb795,0,none⟩ = some (u796000):=(blk_cell BK795.out 0).trans rfl;have hfs18:=blk_frozen BK795.out 0;have hns18_0:=NB791_795.out;have hms18_0:=NB795_791.out;refine skip_ (w1:=?_) (by rfl) rfl ?_ ?_;rotate_left
       ·go_simp
        rfl
       refine hK.out _ _ ?_;clear hK K;refine done_ kR ?_
       try go_wp2
       go_roundg k1
       case measure=>have:=HK1.out;omega
       case rel=>exact ⟨(wrap64 (x11_1 + 1)),(y798),(.slice Ao17 y798.length co17),qrs,H',⟨by have:=HK1.out;omega⟩,⟨by (with_reducible repeat (first|apply Kd.R_alloc|apply Kd.R_drewN|apply Kd.R_drew));exact Kd.R_mono (Kd.R_far (p:=⟨gb795,0,none⟩) (Kd.R_types HO800.out BK795.out (by decide)) (fun _ hk=>hk.2) (.slice Ao17 y798.length co17)) (fun _ hk=>trivial)⟩,⟨by (with_reducible repeat (first|refine blk_drewN ?_ _|refine blk_drew ?_|refine blk_alloc ?_ _));refine blk_far ?_ NB791_795.out _;(with_reducible repeat (first|refine blk_drewN ?_ _|refine blk_drew ?_|refine blk_alloc ?_ _));exact BK791.out⟩,⟨by (with_reducible repeat (first|refine blk_drewN ?_ _|refine blk_drew ?_|refine blk_alloc ?_ _));refine blk_put (cs:=#[u796000]) ?_ 0 _ rfl;(with_reducible repeat (first|refine blk_drewN ?_ _|refine blk_drew ?_|refine blk_alloc ?_ _));exact BK795.out⟩,⟨by exact bw⟩⟩
      ·rw [if_neg c14] at H;exact absurd H (by simp)
     ·rw [if_neg c12] at H;exact absurd H (by simp)
    ·rw [if_neg c11] at H;exact absurd H (by simp)
   ·rw [if_neg c10] at H;have c10b0:decide (x11_1 < (l1.length:Int)) = false:=decide_eq_false c10;clear c10;replace H:=Option.bind_eq_some_iff.mp H;obtain ⟨⟨t801,t802⟩,A190,H⟩:=H;replace H:(some (t801,t802)) = some (r1,r2):=H;have A19:=aM A190;clear A190;simp only [Option.some.injEq,Prod.mk.injEq] at H;obtain ⟨rfl,rfl⟩:=H;obtain ⟨Ao20,co20,eo20⟩:=Kd.R_slice HO_796000.out;subst eo20;go_wp2_with (first|((with_reducible refine gate_callee (f:=150) rfl ?_);refine goesL_ (some 23) rfl rfl Try.func150 kR rfl #[.int .i64 a0,.func (.func 197) #[] #[.pointer (some ⟨gb795,0,none⟩)]] rfl mq ?_;(with_reducible refine (impl_votesOf.calls k1 a0 (fun y0_=>impl_votesBy_1.f k1 y0_ x796000_1) 197 #[.pointer (some ⟨gb795,0,none⟩)] impl_votesBy_1.enters t801 t802 _ ?side1 A19.out).mono ?_);(case side1=>exact (fun W_ a0_ r0_ hx_ hb_ =>(impl_votesBy_1.calls k1 a0_ gb795 _ _ x796000_1 r0_ W_  (Kd.C_below (by repeat (first|exact (Kd.R_reads' HO_796000.out).2.2|(with_reducible refine Kd.C_alloc ?_ _)|(with_reducible refine Kd.C_drewN ?_ _)|(with_reducible refine Kd.C_drew ?_))) hb_) (by exact (Kd.R_reads' HO_796000.out).2.1) (box_later bk hb_) hx_).mono (fun _ _ h_=>h_)));rintro e w21 ⟨v803,rfl,ho0,hb⟩;refine ⟨_,rfl,?_⟩;have n0_:=aM (Kd.R_below (qra HO_796000.out) hb);have n1_:=aM (Kd.R_lower ho0 (below_size bw));have n2_:=aM (blk_below (g:=gb791) (o:=.cells #[.int .i64 0,.slice none 0 0] 94 (0,0)) bk hb);have n3_:=aM (blk_below (g:=gb795) (o:=.cells #[.slice Ao20 x796000_1.length co20] 22 (0,0)) bk hb);have n4_:=aM (below_step bw hb);clear HO_796000;clear BK791;clear BK795;clear HB;have HO_796000:=n0_;have HO804:=n1_;have BK791:=n2_;have BK795:=n3_;have HB:=n4_;clear n0_ n1_ n2_ n3_ n4_;(try clear hb);(try clear hb2);(try clear hk);(try clear hi);(try clear ho0);have hnb22:=NB791_795.out;have hnc22:=NB795_791.out;have hcz23_0:w21.cell? ⟨gb791,0,none⟩ = some (.int .i64 0):=(blk_cell BK791.out 0).trans rfl;have hcz23_1:w21.cell? ⟨gb791,1,none⟩ = some (.slice none 0 0):=(blk_cell BK791.out 1).trans rfl;have hfz23_0:=blk_frozen BK791.out 0;have hfz23_1:=blk_frozen BK791.out 1;obtain ⟨Ao24,co24,eo24⟩:=Kd.R_slice HO804.out;subst eo24))
    refine bodyPost_ret (results_cell_row rfl _ _ gb791 94 #[.int .i64 t801,.slice Ao24 t802.length co24] (0,0) _ rfl (by (with_reducible repeat (first|refine blk_drewN ?_ _|refine blk_drew ?_|refine blk_alloc ?_ _));refine blk_put (cs:=#[.int .i64 t801,.slice none 0 0]) ?_ 1 _ rfl;(with_reducible repeat (first|refine blk_drewN ?_ _|refine blk_drew ?_|refine blk_alloc ?_ _));refine blk_put (cs:=#[.int .i64 0,.slice none 0 0]) ?_ 0 _ rfl;(with_reducible repeat (first|refine blk_drewN ?_ _|refine blk_drew ?_|refine blk_alloc ?_ _));exact BK791.out) Try.underlying94 rfl kR) rfl ?_;exact ⟨_,by first|rfl|(simp [errW_none,errW_some] <;> rfl)|(simp [*,errW_none,errW_some] <;> rfl),by (with_reducible repeat (first|apply Kd.R_alloc|apply Kd.R_drewN|apply Kd.R_drew));exact Kd.R_mono (Kd.R_far (p:=⟨gb791,1,none⟩) (Kd.R_far (p:=⟨gb791,0,none⟩) (Kd.R_types HO804.out BK791.out (by decide)) (fun _ hk=>hk.2) (.int .i64 t801)) (fun _ hk=>hk.2) (.slice Ao24 t802.length co24)) (fun _ hk=>trivial),by exact bw⟩


/-! ### impl_Game_votes: function 105 -/
def impl_Game_votes.f (k:Nat) (a0_0:Int) (l0_1:List (List Int)):Option (Int × List Bool):=(impl_votesBy.f k a0_0 l0_1).bind fun bt807=>(some (bt807.1,bt807.2))
theorem impl_Game_votes.mono:∀ a0 a1 k,LeO (impl_Game_votes.f k a0 a1) (impl_Game_votes.f (k + 1) a0 a1):=by
 intro a0 a1 k;unfold impl_Game_votes.f
 repeat' with_reducible first|exact impl_votesBy.mono _ _ _|exact LeO.refl _|exact LeO.none _|refine LeO.ite ?_ ?_|refine LeO.bind ?_ (fun _=>?_)
set_option maxHeartbeats 8000000 in
set_option maxRecDepth 100000 in
theorem impl_Game_votes.calls (k:Nat) (a0_0:Int) (A0_1:Option Addr) (c0_1:Nat) (l0_1:List (List Int)) (r1:Int) (r2:List Bool) (w:World) (hr0_1:Kd.C (Kd.slice 3 (Kd.int .i64)) w A0_1 l0_1.length l0_1) (hc0_1:l0_1.length ≤ c0_1) (h:impl_Game_votes.f k a0_0 l0_1 = some (r1,r2)) :
  Calls Try.prog 105 #[.agg #[.int .i64 a0_0,.slice A0_1 l0_1.length c0_1]] w fun e w'=>∃ v1_:Value,e = .returned (.agg #[.int .i64 r1,v1_]) ∧ Kd.R Kd.bool 4 w' w.heap.size (fun _=>True) v1_ r2 ∧ Below w.heap.size w w':=by
 have hu57:=Try.underlying57;have hu94:=Try.underlying94;have HR0_1:=aM hr0_1;have HC0_1:=aM hc0_1;clear hr0_1 hc0_1;have HB:=aM (Below.refl w.heap.size w);have H:((impl_votesBy.f k a0_0 l0_1).bind fun bt807=>(some (bt807.1,bt807.2))) = some (r1,r2):=h;clear h;replace H:=Option.bind_eq_some_iff.mp H;obtain ⟨⟨t807,t808⟩,A20,H⟩:=H;replace H:(some (t807,t808)) = some (r1,r2):=H;have A2:=aM A20;clear A20;simp only [Option.some.injEq,Prod.mk.injEq] at H;obtain ⟨rfl,rfl⟩:=H;go_enter Try.func105,Try.ntmps105;go_wp2_with (first|((with_reducible refine gate_dst (N:=1) rfl ?_);refine box_event ?hg (N:=1) ?hd (cs:=#[.int .i64 a0_0,.slice A0_1 l0_1.length c0_1]) (t:=57) ?hr ?_;(case hd=>rfl);(case hg=>rfl);(case hr=>first|(go_simp;done)|(go_simp;rfl));intro gb805 hg w3 hbox hb;have n0_:=aM (below_step bw hb);have n1_:=aM (hbox);have n2_:=aM ((by rw [hg];exact (below_size bw):w.heap.size ≤ gb805));have n3_:=aM ((by rw [hg];exact (below_size bw):w.heap.size ≤ gb805));clear HB;have HB:=n0_;have BK805:=n1_;have GW805:=n2_;have GE805:=n3_;clear n0_ n1_ n2_ n3_;clear hb hbox hg)|((with_reducible refine gate_dst (N:=2) rfl ?_);refine box_event ?hg (N:=2) ?hd (cs:=#[.int .i64 0,.slice none 0 0]) (t:=94) ?hr ?_;(case hd=>rfl);(case hg=>rfl);(case hr=>first|(go_simp;done)|(go_simp;rfl));intro gb806 hg w4 hbox hb;have n0_:=aM (blk_below (g:=gb805) (o:=.cells #[.int .i64 a0_0,.slice A0_1 l0_1.length c0_1] 57 (0,0)) bk hb);have n1_:=aM (below_step bw hb);have n2_:=aM (hbox);have n3_:=aM ((by rw [hg];exact (below_size bw):w.heap.size ≤ gb806));have n4_:=aM ((by rw [hg];exact (below_size bw):w.heap.size ≤ gb806));have n5_:=aM ((by rw [hg];exact Nat.ne_of_lt (blk_lt (g:=gb805) (o:=.cells #[.int .i64 a0_0,.slice A0_1 l0_1.length c0_1] 57 (0,0)) bk):gb805 ≠ gb806));have n6_:=aM ((by rw [hg];exact Nat.ne_of_gt (blk_lt (g:=gb805) (o:=.cells #[.int .i64 a0_0,.slice A0_1 l0_1.length c0_1] 57 (0,0)) bk):gb806 ≠ gb805));clear BK805;clear HB;have BK805:=n0_;have HB:=n1_;have BK806:=n2_;have GW806:=n3_;have GE806:=n4_;have NB805_806:=n5_;have NB806_805:=n6_;clear n0_ n1_ n2_ n3_ n4_ n5_ n6_;clear hb hbox hg;have hnb5:=NB805_806.out;have hnc5:=NB806_805.out;have hcz6_0:w4.cell? ⟨gb805,0,none⟩ = some (.int .i64 a0_0):=(blk_cell BK805.out 0).trans rfl;have hcz6_1:w4.cell? ⟨gb805,1,none⟩ = some (.slice A0_1 l0_1.length c0_1):=(blk_cell BK805.out 1).trans rfl;have hfz6_0:=blk_frozen BK805.out 0;have hfz6_1:=blk_frozen BK805.out 1)|((with_reducible refine gate_callee (f:=171) rfl ?_);refine goesL_ (some 7) rfl rfl Try.func171 kR rfl #[.int .i64 a0_0,.slice A0_1 l0_1.length c0_1] rfl mq ?_;(with_reducible refine (impl_votesBy.calls k a0_0 _ _ l0_1 t807 t808 _ ?side1 ?side2 A2.out).mono ?_);(case side1=>exact qcs HR0_1.out HB.out);(case side2=>exact HC0_1.out);rintro e w7 ⟨v809,rfl,ho0,hb⟩;refine ⟨_,rfl,?_⟩;have n0_:=aM (Kd.R_lower ho0 (below_size bw));have n1_:=aM (blk_below (g:=gb805) (o:=.cells #[.int .i64 a0_0,.slice A0_1 l0_1.length c0_1] 57 (0,0)) bk hb);have n2_:=aM (blk_below (g:=gb806) (o:=.cells #[.int .i64 0,.slice none 0 0] 94 (0,0)) bk hb);have n3_:=aM (below_step bw hb);clear BK805;clear BK806;clear HB;have HO810:=n0_;have BK805:=n1_;have BK806:=n2_;have HB:=n3_;clear n0_ n1_ n2_ n3_;(try clear hb);(try clear hb2);(try clear hk);(try clear hi);(try clear ho0);have hcz8_0:w7.cell? ⟨gb806,0,none⟩ = some (.int .i64 0):=(blk_cell BK806.out 0).trans rfl;have hcz8_1:w7.cell? ⟨gb806,1,none⟩ = some (.slice none 0 0):=(blk_cell BK806.out 1).trans rfl;have hfz8_0:=blk_frozen BK806.out 0;have hfz8_1:=blk_frozen BK806.out 1;obtain ⟨Ao9,co9,eo9⟩:=Kd.R_slice HO810.out;subst eo9))
 refine bodyPost_ret (results_cell_row rfl _ _ gb806 94 #[.int .i64 t807,.slice Ao9 t808.length co9] (0,0) _ rfl (by (with_reducible repeat (first|refine blk_drewN ?_ _|refine blk_drew ?_|refine blk_alloc ?_ _));refine blk_put (cs:=#[.int .i64 t807,.slice none 0 0]) ?_ 1 _ rfl;(with_reducible repeat (first|refine blk_drewN ?_ _|refine blk_drew ?_|refine blk_alloc ?_ _));refine blk_put (cs:=#[.int .i64 0,.slice none 0 0]) ?_ 0 _ rfl;(with_reducible repeat (first|refine blk_drewN ?_ _|refine blk_drew ?_|refine blk_alloc ?_ _));exact BK806.out) Try.underlying94 rfl kR) rfl ?_;exact ⟨_,by first|rfl|(simp [errW_none,errW_some] <;> rfl)|(simp [*,errW_none,errW_some] <;> rfl),by (with_reducible repeat (first|apply Kd.R_alloc|apply Kd.R_drewN|apply Kd.R_drew));exact Kd.R_mono (Kd.R_far (p:=⟨gb806,1,none⟩) (Kd.R_far (p:=⟨gb806,0,none⟩) (Kd.R_types HO810.out BK806.out (by decide)) (fun _ hk=>hk.2) (.int .i64 t807)) (fun _ hk=>hk.2) (.slice Ao9 t808.length co9)) (fun _ hk=>trivial),by exact bw⟩


/-! ### impl_areTraded: function 118 -/
def impl_areTraded.l0:Nat → List (List Int) → Bool → List Int → List (List Int) → Int → Int → Int → List Bool → Option (List Int × Bool)
 | 0,_,_,_,_,_,_,_,_=>none
 | k + 1,x1,x2,x8,x12,x13,x14,x1079000,x1079001=>if x14 < x13 then (if 0 ≤ x14 then (if x14 < (x12.length:Int) then ((impl_isSet.f k (rd_LI x12 x14) x1079000).bind fun t1083=>(if t1083 = true then ((impl_maskOf.f k (rd_LI x12 x14)).bind fun t1084=>(if 0 ≤ t1084 then (if t1084 < (x1079001.length:Int) then (if ((rdOf false x1079001 t1084) != x2) = true then (some (([]:List Int),false)) else (if x14 > 0 then (if 0 ≤ (wrap64 (x14 - 1)) then (if (wrap64 (x14 - 1)) < (x1.length:Int) then ((slices_Compare_int_int.f k (rd_LI x1 (wrap64 (x14 - 1))) (rd_LI x12 x14)).bind fun t1087=>(if t1087 > 0 then (some (([]:List Int),false)) else ((impl_maskOf.f k (rd_LI x12 x14)).bind fun t1088=>(if x8.length < 17592186044416 then (impl_areTraded.l0 k x1 x2 (x8 ++ [t1088]) x12 x13 (wrap64 (x14 + 1)) x1079000 x1079001) else (none))))) else (none)) else (none)) else ((impl_maskOf.f k (rd_LI x12 x14)).bind fun t1092=>(if x8.length < 17592186044416 then (impl_areTraded.l0 k x1 x2 (x8 ++ [t1092]) x12 x13 (wrap64 (x14 + 1)) x1079000 x1079001) else (none))))) else (none)) else (none))) else (some (([]:List Int),false)))) else (none)) else (none)) else (some (x8,true))
def impl_areTraded.f (k:Nat) (a0_0:Int) (l0_1:List Bool) (l1:List (List Int)) (a2:Bool):Option (List Int × Bool):=impl_areTraded.l0 k l1 a2 (([]:List Int)) l1 (l1.length:Int) 0 a0_0 l0_1
theorem impl_areTraded.mono_l:∀ k,(∀ y0 y1 y2 y3 y4 y5 y6 y7,LeO (impl_areTraded.l0 k y0 y1 y2 y3 y4 y5 y6 y7) (impl_areTraded.l0 (k + 1) y0 y1 y2 y3 y4 y5 y6 y7))
 | 0=>fun _ _ _ _ _ _ _ _ r h=>by simp [impl_areTraded.l0] at h
 | k + 1=>by
  have ih0:=impl_areTraded.mono_l k
  ·intro y0 y1 y2 y3 y4 y5 y6 y7;unfold impl_areTraded.l0
   repeat' with_reducible first|exact ih0 _ _ _ _ _ _ _ _|exact impl_isSet.mono _ _ _|exact impl_maskOf.mono _ _|exact slices_Compare_int_int.mono _ _ _|exact LeO.refl _|exact LeO.none _|refine LeO.ite ?_ ?_|refine LeO.bind ?_ (fun _=>?_)
theorem impl_areTraded.mono:∀ a0 a1 a2 a3 k,LeO (impl_areTraded.f k a0 a1 a2 a3) (impl_areTraded.f (k + 1) a0 a1 a2 a3):=by
 intro a0 a1 a2 a3 k;have ih0:=impl_areTraded.mono_l k;unfold impl_areTraded.f
 repeat' with_reducible first|exact ih0 _ _ _ _ _ _ _ _|exact impl_isSet.mono _ _ _|exact impl_maskOf.mono _ _|exact slices_Compare_int_int.mono _ _ _|exact LeO.refl _|exact LeO.none _|refine LeO.ite ?_ ?_|refine LeO.bind ?_ (fun _=>?_)
def impl_areTraded.T5:Bool × List (List Nat × List Nat):=(true,[([],[]),([],[]),([1],[1]),([0,2],[0,2]),([3],[3]),([4,3],[4]),([5],[5]),([6,5],[5,6]),([5],[5]),([8,5,5],[5,8]),([7,9,5],[5,7,9]),([10,5],[5,10]),([5],[5]),([11,12,5],[5,11,12]),([5,13],[5,13]),([14,9],[14]),([15],[15]),([16,15],[15,16]),([17,15,15],[15,17]),([18],[18]),([18],[18]),([20,18],[18,20]),([19,21,18],[18,19,21]),([22,18],[18,22]),([18],[18]),([23,24,18,18],[18,23,24]),([25,18],[18,25]),([18,26,15],[15,18,26]),([15,27],[15,27])])
def impl_areTraded.B5:List Nat:=[0,0,2,7,15,31,63,127,63,319,1023,2047,63,8191,16383,32767,65535,131071,262143,524287,524287,1572863,4194303,8388607,524287,33554431,67108863,134217727,268435455]
theorem impl_areTraded.tab5:rtab .any (opsOf Try.f118 5) = impl_areTraded.T5:=by kernel_rfl
theorem impl_areTraded.bits5:waitsOk impl_areTraded.T5.2 impl_areTraded.B5 = true:=by kernel_rfl
set_option maxHeartbeats 8000000 in
set_option maxRecDepth 100000 in
theorem impl_areTraded.calls (k:Nat) (a0_0:Int) (A0_1:Option Addr) (c0_1:Nat) (l0_1:List Bool) (A1:Option Addr) (c1:Nat) (l1:List (List Int)) (a2:Bool) (r1:List Int) (r2:Bool) (w:World) (hr0_1:Kd.C Kd.bool w A0_1 l0_1.length l0_1) (hc0_1:l0_1.length ≤ c0_1) (hr1:Kd.C (Kd.slice 3 (Kd.int .i64)) w A1 l1.length l1) (hc1:l1.length ≤ c1) (h:impl_areTraded.f k a0_0 l0_1 l1 a2 = some (r1,r2)) :
  Calls Try.prog 118 #[.agg #[.int .i64 a0_0,.slice A0_1 l0_1.length c0_1],.slice A1 l1.length c1,.bool a2] w fun e w'=>∃ v0_:Value,e = .returned (.tuple #[v0_,.bool r2]) ∧ Kd.R (Kd.int .i64) 3 w' w.heap.size (fun _=>True) v0_ r1 ∧ Below w.heap.size w w':=by
 have hu94:=Try.underlying94;have HR0_1:=aM hr0_1;have HC0_1:=aM hc0_1;clear hr0_1 hc0_1;have HR1:=aM hr1;have HC1:=aM hc1;clear hr1 hc1;have HB:=aM (Below.refl w.heap.size w);have H:(impl_areTraded.l0 k l1 a2 (([]:List Int)) l1 (l1.length:Int) 0 a0_0 l0_1) = some (r1,r2):=h;clear h;obtain ⟨y1079,hy1079⟩:∃ y_:List Int,y_ = (([]:List Int)):=⟨_,rfl⟩;replace H:(impl_areTraded.l0 k l1 a2 y1079 l1 (l1.length:Int) 0 a0_0 l0_1) = some (r1,r2):=by first|(rw [hy1079];with_reducible exact H)|(have H2_:=(Option.bind_some _ _).symm.trans H;rw [hy1079];with_reducible exact H2_)|(have H2_:=(Option.bind_some _ _).symm.trans H;with_reducible exact H2_)|with_reducible exact H|(rw [hy1079];exact H)|exact H
 have Ny1079:=aM hy1079;clear hy1079;have H':=aM H;clear H;go_enter Try.func118,Try.ntmps118;go_wp2_with (first|((with_reducible refine gate_dst (N:=3) rfl ?_);refine box_event ?hg (N:=3) ?hd (cs:=#[.int .i64 a0_0,.slice A0_1 l0_1.length c0_1]) (t:=94) ?hr ?_;(case hd=>rfl);(case hg=>rfl);(case hr=>first|(go_simp;done)|(go_simp;rfl));intro gb1078 hg w4 hbox hb;have n0_:=aM (below_step bw hb);have n1_:=aM (hbox);have n2_:=aM ((by rw [hg];exact (below_size bw):w.heap.size ≤ gb1078));have n3_:=aM ((by rw [hg];exact (below_size bw):w.heap.size ≤ gb1078));clear HB;have HB:=n0_;have BK1078:=n1_;have GW1078:=n2_;have GE1078:=n3_;clear n0_ n1_ n2_ n3_;clear hb hbox hg)|((with_reducible refine gate_dst (N:=11) rfl ?_);refine Kd.R_lit (Kd.int .i64) _ 3 ?hg (N:=11) ?hd (xs:=([]:List Int)) (inner:=[]) (ok:=fun _=>True) (okp:=fun _=>True) ?hr ?hp (fun _ hk=>hk) trivial (Below.refl _ _) (Nat.le_refl _) (by simp) ?_;(case hd=>rfl);(case hg=>rfl);(case hr=>first|(go_simp;done)|(go_simp;rfl));(case hp=>exact (Reps.none _ _));intro v1080 w5 ho6 hb hg_ hnew_;clear hg_ hnew_;(first|rw [← Ny1079.out] at ho6|(simp only [Int.reduceToNat] at ho6;rw [← Ny1079.out] at ho6));have n0_:=aM (Kd.R_lower ho6 (below_size bw));have n1_:=aM (blk_below (g:=gb1078) (o:=.cells #[.int .i64 a0_0,.slice A0_1 l0_1.length c0_1] 94 (0,0)) bk hb);have n2_:=aM (below_step bw hb);clear BK1078;clear HB;have HO1081:=n0_;have BK1078:=n1_;have HB:=n2_;clear n0_ n1_ n2_;clear hb ho6))
 go_loopg [8,14] k (fun kq v8 v14 w'=>∃ (x8_1:List Int) (x14_1:Int),v14 = .int .i64 x14_1 ∧ Aside0 (impl_areTraded.l0 kq l1 a2 x8_1 l1 (l1.length:Int) x14_1 a0_0 l0_1 = some (r1,r2)) ∧ Aside0 (kq ≤ k) ∧ Aside0 (Kd.R (Kd.int .i64) 3 w' w.heap.size (fun _=>True) v8 x8_1) ∧ Aside0 (w'.heap[gb1078]? = some (.cells #[.int .i64 a0_0,(.slice A0_1 l0_1.length c0_1)] 94 (0,0))) ∧ Aside0 (Below w.heap.size w w'))
 case atStart=>exact ⟨(y1079),(0),qrs,H',⟨Nat.le_refl _⟩,⟨qra HO1081.out⟩,⟨by (with_reducible repeat (first|refine blk_drewN ?_ _|refine blk_drew ?_|refine blk_alloc ?_ _));exact BK1078.out⟩,⟨by exact bw⟩⟩
 case round =>
  clear H';(try clear c1);(try clear p2)
  obtain ⟨x8_1,x14_1,rfl,HA,HK1,HO_8,BK1078,HB⟩:=hrel
  cases gk with
  | zero=>exact absurd HA.out (by simp [impl_areTraded.l0])
  | succ k1 =>
   have H:=HA.out;clear HA;simp only [impl_areTraded.l0] at H;by_cases c7:x14_1 < (l1.length:Int)
   ·rw [if_pos c7] at H;have c7b0:decide (x14_1 < (l1.length:Int)) = true:=decide_eq_true c7;clear c7;by_cases c8:0 ≤ x14_1
    ·rw [if_pos c8] at H;have c8b0:decide (0 ≤ x14_1) = true:=decide_eq_true c8;clear c8;by_cases c9:x14_1 < (l1.length:Int)
     ·rw [if_pos c9] at H;have c9b0:decide (x14_1 < (l1.length:Int)) = true:=decide_eq_true c9;clear c9;replace H:=Option.bind_eq_some_iff.mp H;obtain ⟨t1083,A100,H⟩:=H;replace H:(if t1083 = true then ((impl_maskOf.f k1 (rd_LI l1 x14_1)).bind fun t1084=>(if 0 ≤ t1084 then (if t1084 < (l0_1.length:Int) then (if ((rdOf false l0_1 t1084) != a2) = true then (some (([]:List Int),false)) else (if x14_1 > 0 then (if 0 ≤ (wrap64 (x14_1 - 1)) then (if (wrap64 (x14_1 - 1)) < (l1.length:Int) then ((slices_Compare_int_int.f k1 (rd_LI l1 (wrap64 (x14_1 - 1))) (rd_LI l1 x14_1)).bind fun t1087=>(if t1087 > 0 then (some (([]:List Int),false)) else ((impl_maskOf.f k1 (rd_LI l1 x14_1)).bind fun t1088=>(if x8_1.length < 17592186044416 then (impl_areTraded.l0 k1 l1 a2 (x8_1 ++ [t1088]) l1 (l1.length:Int) (wrap64 (x14_1 + 1)) a0_0 l0_1) else (none))))) else (none)) else (none)) else ((impl_maskOf.f k1 (rd_LI l1 x14_1)).bind fun t1092=>(if x8_1.length < 17592186044416 then (impl_areTraded.l0 k1 l1 a2 (x8_1 ++ [t1092]) l1 (l1.length:Int) (wrap64 (x14_1 + 1)) a0_0 l0_1) else (none))))) else (none)) else (none))) else (some (([]:List Int),false))) = some (r1,r2):=H;have A10:=aM A100;clear A100;by_cases c11:t1083 = true
      ·subst c11;have H1:((impl_maskOf.f k1 (rd_LI l1 x14_1)).bind fun t1084=>(if 0 ≤ t1084 then (if t1084 < (l0_1.length:Int) then (if ((rdOf false l0_1 t1084) != a2) = true then (some (([]:List Int),false)) else (if x14_1 > 0 then (if 0 ≤ (wrap64 (x14_1 - 1)) then (if (wrap64 (x14_1 - 1)) < (l1.length:Int) then ((slices_Compare_int_int.f k1 (rd_LI l1 (wrap64 (x14_1 - 1))) (rd_LI l1 x14_1)).bind fun t1087=>(if t1087 > 0 then (some (([]:List Int),false)) else ((impl_maskOf.f k1 (rd_LI l1 x14_1)).bind fun t1088=>(if x8_1.length < 17592186044416 then (impl_areTraded.l0 k1 l1 a2 (x8_1 ++ [t1088]) l1 (l1.length:Int) (wrap64 (x14_1 + 1)) a0_0 l0_1) else (none))))) else (none)) else (none)) else ((impl_maskOf.f k1 (rd_LI l1 x14_1)).bind fun t1092=>(if x8_1.length < 17592186044416 then (impl_areTraded.l0 k1 l1 a2 (x8_1 ++ [t1092]) l1 (l1.length:Int) (wrap64 (x14_1 + 1)) a0_0 l0_1) else (none))))) else (none)) else (none))) = some (r1,r2):=by rw [if_pos rfl] at H;exact H
       clear H;have H:=H1;clear H1;replace H:=Option.bind_eq_some_iff.mp H;obtain ⟨t1084,A120,H⟩:=H;replace H:(if 0 ≤ t1084 then (if t1084 < (l0_1.length:Int) then (if ((rdOf false l0_1 t1084) != a2) = true then (some (([]:List Int),false)) else (if x14_1 > 0 then (if 0 ≤ (wrap64 (x14_1 - 1)) then (if (wrap64 (x14_1 - 1)) < (l1.length:Int) then ((slices_Compare_int_int.f k1 (rd_LI l1 (wrap64 (x14_1 - 1))) (rd_LI l1 x14_1)).bind fun t1087=>(if t1087 > 0 then (some (([]:List Int),false)) else ((impl_maskOf.f k1 (rd_LI l1 x14_1)).bind fun t1088=>(if x8_1.length < 17592186044416 then (impl_areTraded.l0 k1 l1 a2 (x8_1 ++ [t1088]) l1 (l1.length:Int) (wrap64 (x14_1 + 1)) a0_0 l0_1) else (none))))) else (none)) else (none)) else ((impl_maskOf.f k1 (rd_LI l1 x14_1)).bind fun t1092=>(if x8_1.length < 17592186044416 then (impl_areTraded.l0 k1 l1 a2 (x8_1 ++ [t1092]) l1 (l1.length:Int) (wrap64 (x14_1 + 1)) a0_0 l0_1) else (none))))) else (none)) else (none)) = some (r1,r2):=H;have A12:=aM A120;clear A120;by_cases c13:0 ≤ t1084
       ·rw [if_pos c13] at H;have c13b0:decide (0 ≤ t1084) = true:=decide_eq_true c13;clear c13;by_cases c14:t1084 < (l0_1.length:Int)
        ·rw [if_pos c14] at H;have c14b0:decide (t1084 < (l0_1.length:Int)) = true:=decide_eq_true c14;clear c14;by_cases c15:((rdOf false l0_1 t1084) != a2) = true
         ·rw [if_pos c15] at H;have c15b0:((rdOf false l0_1 t1084) != a2) = true:=c15;(try (have c15b1:decide ((rdOf false l0_1 t1084) = a2) = false:=by simpa using c15))
          (try (have c15b2:((rdOf false l0_1 t1084) == a2) = false:=by simpa using c15))
          (try (have c15b3:¬ ((rdOf false l0_1 t1084) = a2):=by simpa using c15))
          clear c15;simp only [Option.some.injEq,Prod.mk.injEq] at H;obtain ⟨rfl,rfl⟩:=H;have p1082:0 ≤ (x14_1:Int):=of_decide_eq_true ab;have q1082:x14_1 < (l1.length:Int):=of_decide_eq_true ab;obtain ⟨ad1082,A1082_0,c1082_0,e1082,hx1082_0,hl1082_0,hi1082_0⟩:=at_LI HR1.out x14_1 p1082 q1082;cases e1082
          replace hx1082_0:=(HB.out.cell (World.block_lt_of_cell? w _ hx1082_0)).trans hx1082_0;have HR1082_0:=aM hi1082_0;have HC1082_0:=aM hl1082_0;clear hi1082_0 hl1082_0;replace p1082:=eq_true p1082;replace q1082:=eq_true q1082
          try go_wp2
          have n0_:=aM (Kd.R_drew HO_8.out);have n1_:=aM (blk_drew BK1078.out);have n2_:=aM (below_drew1 HB.out);clear HO_8;clear BK1078;clear HB;have HO_8:=n0_;have BK1078:=n1_;have HB:=n2_;clear n0_ n1_ n2_;have p1085:0 ≤ (t1084:Int):=of_decide_eq_true ab;have q1085:t1084 < (l0_1.length:Int):=of_decide_eq_true ab;obtain ⟨ad1085,e1085,hx1085_0⟩:=Kd.at_bool HR0_1.out t1084 p1085 q1085;have hw1085_0:=hx1085_0;cases e1085
          replace hx1085_0:=(HB.out.cell (World.block_lt_of_cell? w _ hx1085_0)).trans hx1085_0;replace p1085:=eq_true p1085;replace q1085:=eq_true q1085;refine start_ (n:=29) (S:=fun w'=>w'.cell? ⟨gb1078,0,none⟩ = some (.int .i64 a0_0) ∧ w'.cell? ⟨gb1078,1,none⟩ = some (.slice (some ad1085) l0_1.length c0_1) ∧ w'.cell? (ad1085.add (t1084).toNat) = some (.bool (rdOf false l0_1 t1084))) (ds:=[]) (mA 29 0) kR rfl rfl ⟨(blk_cell BK1078.out 0).trans rfl,(blk_cell BK1078.out 1).trans rfl,((HB.out.cell (World.block_lt_of_cell? w _ hw1085_0)).trans hw1085_0)⟩ (fun hHeld=>?_);refine with_tabW impl_areTraded.tab5 impl_areTraded.bits5 (fun HT_ HW_=>?_)
          generalize wr.drew = w16 at HO_8 BK1078 HB hx1085_0 hHeld ⊢
          refine pure_ (i:=0) (N:=some 19) (v:=?_) (a':=?_) (mA 29 1) rfl rfl (any_of HT_.out kR) (fun _ _ _ h=>h) (Or.inl ⟨by rfl,?_⟩) ?_ ?_;rotate_left
          ·intro w';go_simp
           with_reducible rfl
          rotate_left
          ·simp only [Act.put,sA,sZ,sS,i64_w,i32_w];rfl
          refine pure_ (i:=1) (N:=some 20) (v:=?_) (a':=?_) (mA 29 3) rfl rfl (any_of HT_.out kR) (fun _ _ _ h=>h) (Or.inl ⟨by rfl,?_⟩) ?_ ?_;rotate_left
          ·intro w';go_simp
           with_reducible rfl
          rotate_left
          ·simp only [Act.put,sA,sZ,sS,i64_w,i32_w];rfl
          refine take_ (i:=2) (N:=some 21) (v:=?_) (a':=?_) (mA 29 7) rfl rfl (take_ofW HT_.out HW_.out kR) (fun _ _ _ h=>h) (Or.inl ⟨by rfl,?_⟩) hHeld ?_ ?_;rotate_left
          ·rintro w' ⟨s0,s1,s2⟩
           go_simp
           with_reducible rfl
          rotate_left
          ·simp only [Act.put,sA,sZ,sS,i64_w,i32_w];rfl
          refine one_ (i:=3) (N:=some 22) (mA 29 15) rfl rfl (one_of HT_.out kR) (by decide) (fun K hK=>?_);refine goes_ Try.func176 kR rfl #[.slice A1082_0 (rd_LI l1 x14_1).length c1082_0,.int .i64 a0_0] (by rfl) rfl rfl mq ?_
          with_reducible refine (impl_isSet.calls k1 _ _ (rd_LI l1 x14_1) a0_0 true _ ?side1 ?side2 A10.out).mono ?_
          (case side1=>exact qcs HR1082_0.out HB.out)
          (case side2=>exact HC1082_0.out)
          rintro e w17 ⟨rfl,hb⟩
          refine ⟨_,rfl,?_⟩;have n0_:=aM (Kd.R_below (qra HO_8.out) hb);have n1_:=aM (blk_below (g:=gb1078) (o:=.cells #[.int .i64 a0_0,.slice (some ad1085) l0_1.length c0_1] 94 (0,0)) bk hb);have n2_:=aM (below_step bw hb);clear HO_8;clear BK1078;clear HB;have HO_8:=n0_;have BK1078:=n1_;have HB:=n2_;clear n0_ n1_ n2_;(try clear hb)
          (try clear hb2)
          (try clear hk)
          (try clear hi)
          refine hK.out _ _ ⟨(blk_cell BK1078.out 0).trans rfl,(blk_cell BK1078.out 1).trans rfl,((HB.out.cell (World.block_lt_of_cell? w _ hw1085_0)).trans hw1085_0)⟩ (fun hHeld=>?_);clear hK K;refine norm_ (a':=?_) ?_ ?_;rotate_left
          ·show Act.put _ (some 22) _ = _;simp only [Act.put,sA,sZ,sS,i64_w,i32_w];rfl
          refine pure_ (i:=4) (N:=some 23) (v:=?_) (a':=?_) (mA 29 31) rfl rfl (any_of HT_.out kR) (fun _ _ _ h=>h) (Or.inl ⟨by rfl,?_⟩) ?_ ?_;rotate_left
          ·intro w';go_simp
           with_reducible rfl
          rotate_left
          ·simp only [Act.put,sA,sZ,sS,i64_w,i32_w];rfl
          refine pure_ (i:=5) (N:=some 24) (v:=?_) (a':=?_) (mA 29 63) rfl rfl (any_of HT_.out kR) (fun _ _ _ h=>h) (Or.inl ⟨by rfl,?_⟩) ?_ ?_;rotate_left
          ·intro w';go_simp
           with_reducible rfl
          rotate_left
          ·simp only [Act.put,sA,sZ,sS,i64_w,i32_w];rfl
          refine pure_ (i:=6) (N:=some 25) (v:=?_) (a':=?_) (mA 29 127) rfl rfl (any_of HT_.out kR) (fun _ _ _ h=>h) (Or.inl ⟨by rfl,?_⟩) ?_ ?_;rotate_left
          ·intro w';go_simp
           with_reducible rfl
          rotate_left
          ·simp only [Act.put,sA,sZ,sS,i64_w,i32_w];rfl
          refine pure_ (i:=8) (N:=some 27) (v:=?_) (a':=?_) (mA 29 383) rfl rfl (any_of HT_.out kR) (fun _ _ _ h=>h) (Or.inl ⟨by rfl,?_⟩) ?_ ?_;rotate_left
          ·intro w';go_simp
           with_reducible rfl
          rotate_left
          ·simp only [Act.put,sA,sZ,sS,i64_w,i32_w];rfl
          refine pure_ (i:=12) (N:=some 31) (v:=?_) (a':=?_) (mA 29 4479) rfl rfl (any_of HT_.out kR) (fun _ _ _ h=>h) (Or.inl ⟨by rfl,?_⟩) ?_ ?_;rotate_left
          ·intro w';go_simp
           with_reducible rfl
          rotate_left
          ·simp only [Act.put,sA,sZ,sS,i64_w,i32_w];rfl
          refine take_ (i:=7) (N:=some 26) (v:=?_) (a':=?_) (mA 29 4607) rfl rfl (take_ofW HT_.out HW_.out kR) (fun _ _ _ h=>h) (Or.inl ⟨by rfl,?_⟩) hHeld ?_ ?_;rotate_left
          ·rintro w' ⟨s0,s1,s2⟩
           go_simp
           with_reducible rfl
          rotate_left
          ·simp only [Act.put,sA,sZ,sS,i64_w,i32_w];rfl
          refine one_ (i:=9) (N:=some 28) (mA 29 5119) rfl rfl (one_of HT_.out kR) (by decide) (fun K hK=>?_);refine goes_ Try.func170 kR rfl #[.slice A1082_0 (rd_LI l1 x14_1).length c1082_0] (by rfl) rfl rfl mq ?_
          with_reducible refine (impl_maskOf.calls k1 _ _ (rd_LI l1 x14_1) t1084 _ ?side1 ?side2 A12.out).mono ?_
          (case side1=>exact qcs HR1082_0.out HB.out)
          (case side2=>exact HC1082_0.out)
          rintro e w' ⟨rfl,⟨nd,rfl⟩⟩
          refine ⟨_,rfl,?_⟩;refine hK.out _ _ ⟨(blk_cell BK1078.out 0).trans rfl,(blk_cell BK1078.out 1).trans rfl,((HB.out.cell (World.block_lt_of_cell? w _ hw1085_0)).trans hw1085_0)⟩ (fun hHeld=>?_);clear hK K;refine norm_ (a':=?_) ?_ ?_;rotate_left
          ·show Act.put _ (some 28) _ = _;simp only [Act.put,sA,sZ,sS,i64_w,i32_w];rfl
          refine pure_ (i:=10) (N:=some 29) (v:=?_) (a':=?_) (mA 29 6143) rfl rfl (any_of HT_.out kR) (fun _ _ _ h=>h) (Or.inl ⟨by rfl,?_⟩) ?_ ?_;rotate_left
          ·intro w';go_simp
           with_reducible rfl
          rotate_left
          ·simp only [Act.put,sA,sZ,sS,i64_w,i32_w];rfl
          refine take_ (i:=11) (N:=some 30) (v:=?_) (a':=?_) (mA 29 8191) rfl rfl (take_ofW HT_.out HW_.out kR) (fun _ _ _ h=>h) (Or.inl ⟨by rfl,?_⟩) hHeld ?_ ?_;rotate_left
          ·rintro w' ⟨s0,s1,s2⟩
           go_simp
           with_reducible rfl
          rotate_left
          ·simp only [Act.put,sA,sZ,sS,i64_w,i32_w];rfl
          refine pure_ (i:=13) (N:=some 32) (v:=?_) (a':=?_) (mA 29 16383) rfl rfl (any_of HT_.out kR) (fun _ _ _ h=>h) (Or.inl ⟨by rfl,?_⟩) ?_ ?_;rotate_left
          ·intro w';go_simp
           with_reducible rfl
          rotate_left
          ·simp only [Act.put,sA,sZ,sS,i64_w,i32_w];rfl
          refine pure_ (i:=14) (N:=some 33) (v:=?_) (a':=?_) (mA 29 32767) rfl rfl (any_of HT_.out kR) (fun _ _ _ h=>h) (Or.inl ⟨by rfl,?_⟩) ?_ ?_;rotate_left
          ·intro w';go_simp
           with_reducible rfl
          rotate_left
          ·simp only [Act.put,sA,sZ,sS,i64_w,i32_w];rfl
          refine pure_ (i:=15) (N:=some 34) (v:=?_) (a':=?_) (mA 29 65535) rfl rfl (any_of HT_.out kR) (fun _ _ _ h=>h) (Or.inl ⟨by rfl,?_⟩) ?_ ?_;rotate_left
          ·intro w';go_simp
           with_reducible rfl
          rotate_left
          ·simp only [Act.put,sA,sZ,sS,i64_w,i32_w];rfl
          refine pure_ (i:=16) (N:=some 35) (v:=undef) (a':=?_) (mA 29 131071) rfl rfl (any_of HT_.out kR) (fun _ _ _ h=>h) (Or.inr ⟨by rfl,rfl⟩) ?_ ?_;rotate_left
          ·simp only [Act.put,sA,sZ,sS,i64_w,i32_w];rfl
          refine pure_ (i:=17) (N:=some 36) (v:=undef) (a':=?_) (mA 29 262143) rfl rfl (any_of HT_.out kR) (fun _ _ _ h=>h) (Or.inr ⟨by rfl,rfl⟩) ?_ ?_;rotate_left
          ·simp only [Act.put,sA,sZ,sS,i64_w,i32_w];rfl
          refine pure_ (i:=18) (N:=some 37) (v:=undef) (a':=?_) (mA 29 524287) rfl rfl (any_of HT_.out kR) (fun _ _ _ h=>h) (Or.inr ⟨by rfl,rfl⟩) ?_ ?_;rotate_left
          ·simp only [Act.put,sA,sZ,sS,i64_w,i32_w];rfl
          refine pure_ (i:=19) (N:=some 38) (v:=undef) (a':=?_) (mA 29 1048575) rfl rfl (any_of HT_.out kR) (fun _ _ _ h=>h) (Or.inr ⟨by rfl,rfl⟩) ?_ ?_;rotate_left
          ·simp only [Act.put,sA,sZ,sS,i64_w,i32_w];rfl
          refine pure_ (i:=20) (N:=some 39) (v:=undef) (a':=?_) (mA 29 2097151) rfl rfl (any_of HT_.out kR) (fun _ _ _ h=>h) (Or.inr ⟨by rfl,rfl⟩) ?_ ?_;rotate_left
          ·simp only [Act.put,sA,sZ,sS,i64_w,i32_w];rfl
          refine pure_ (i:=21) (N:=some 40) (v:=undef) (a':=?_) (mA 29 4194303) rfl rfl (any_of HT_.out kR) (fun _ _ _ h=>h) (Or.inr ⟨by rfl,rfl⟩) ?_ ?_;rotate_left
          ·simp only [Act.put,sA,sZ,sS,i64_w,i32_w];rfl
          refine pure_ (i:=22) (N:=some 41) (v:=undef) (a':=?_) (mA 29 8388607) rfl rfl (any_of HT_.out kR) (fun _ _ _ h=>h) (Or.inr ⟨by rfl,rfl⟩) ?_ ?_;rotate_left
          ·simp only [Act.put,sA,sZ,sS,i64_w,i32_w];rfl
          refine pure_ (i:=23) (N:=some 42) (v:=undef) (a':=?_) (mA 29 16777215) rfl rfl (any_of HT_.out kR) (fun _ _ _ h=>h) (Or.inr ⟨by rfl,rfl⟩) ?_ ?_;rotate_left
          ·simp only [Act.put,sA,sZ,sS,i64_w,i32_w];rfl
          refine pure_ (i:=24) (N:=some 43) (v:=undef) (a':=?_) (mA 29 33554431) rfl rfl (any_of HT_.out kR) (fun _ _ _ h=>h) (Or.inr ⟨by rfl,rfl⟩) ?_ ?_;rotate_left
          ·simp only [Act.put,sA,sZ,sS,i64_w,i32_w];rfl
          refine pure_ (i:=25) (N:=some 44) (v:=undef) (a':=?_) (mA 29 67108863) rfl rfl (any_of HT_.out kR) (fun _ _ _ h=>h) (Or.inr ⟨by rfl,rfl⟩) ?_ ?_;rotate_left
          ·simp only [Act.put,sA,sZ,sS,i64_w,i32_w];rfl
          refine pure_ (i:=26) (N:=some 45) (v:=undef) (a':=?_) (mA 29 134217727) rfl rfl (any_of HT_.out kR) (fun _ _ _ h=>h) (Or.inr ⟨by rfl,rfl⟩) ?_ ?_;rotate_left
          ·simp only [Act.put,sA,sZ,sS,i64_w,i32_w];rfl
          refine pure_ (i:=27) (N:=some 46) (v:=undef) (a':=?_) (mA 29 268435455) rfl rfl (any_of HT_.out kR) (fun _ _ _ h=>h) (Or.inr ⟨by rfl,rfl⟩) ?_ ?_;rotate_left
          ·simp only [Act.put,sA,sZ,sS,i64_w,i32_w];rfl
          refine pure_ (i:=28) (N:=some 47) (v:=?_) (a':=?_) (mA 29 536870911) rfl rfl (any_of HT_.out kR) (fun _ _ _ h=>h) (Or.inl ⟨by rfl,?_⟩) ?_ ?_;rotate_left
          ·intro w';go_simp
           with_reducible rfl
          rotate_left
          ·simp only [Act.put,sA,sZ,sS,i64_w,i32_w];rfl
          refine done_ (done_of HT_.out kR) ?_
          try go_wp2
          go_ret2
          exact ⟨_,by first|rfl|(simp [errW_none,errW_some] <;> rfl)|(simp [*,errW_none,errW_some] <;> rfl),by first|exact Kd.R_nil _ _ _ _ _|exact Kd.N_nil _ _ _ _ _|exact Kd.V_nil _ _ _ _ _|exact Kd.Q_nil _ _ _ _ _|exact Kd.S_nil _ _ _ _ _,by exact bw⟩
         ·rw [if_neg c15] at H;have c15b0:((rdOf false l0_1 t1084) != a2) = false:=by simpa using c15
          (try (have c15b1:decide ((rdOf false l0_1 t1084) = a2) = true:=by simpa using c15))
          (try (have c15b2:((rdOf false l0_1 t1084) == a2) = true:=by simpa using c15))
          clear c15;by_cases c18:x14_1 > 0
          ·rw [if_pos c18] at H;have c18b0:decide (0 < x14_1) = true:=decide_eq_true c18;clear c18;obtain ⟨ji19,hji19⟩:∃ j_:Int,(wrap64 (x14_1 - 1)) = j_:=⟨_,rfl⟩;replace H:(if 0 ≤ (ji19) then (if (ji19) < (l1.length:Int) then ((slices_Compare_int_int.f k1 (rd_LI l1 (ji19)) (rd_LI l1 x14_1)).bind fun t1087=>(if t1087 > 0 then (some (([]:List Int),false)) else ((impl_maskOf.f k1 (rd_LI l1 x14_1)).bind fun t1088=>(if x8_1.length < 17592186044416 then (impl_areTraded.l0 k1 l1 a2 (x8_1 ++ [t1088]) l1 (l1.length:Int) (wrap64 (x14_1 + 1)) a0_0 l0_1) else (none))))) else (none)) else (none)) = some (r1,r2):=by first|(rw [hji19] at H;exact H)|(simp only [hji19] at H ⊢;exact H)
           (try rw [hji19] at A10)
           (try rw [hji19] at A12)
           have hji19w:(IntKind.i64.wrap (x14_1 - 1)) = ji19:=(i64_w _).trans hji19;by_cases c20:0 ≤ (ji19)
           ·rw [if_pos c20] at H;have c20b0:decide (0 ≤ (ji19)) = true:=decide_eq_true c20;clear c20;by_cases c21:(ji19) < (l1.length:Int)
            ·rw [if_pos c21] at H;have c21b0:decide ((ji19) < (l1.length:Int)) = true:=decide_eq_true c21;clear c21;replace H:=Option.bind_eq_some_iff.mp H;obtain ⟨t1087,A220,H⟩:=H;replace H:(if t1087 > 0 then (some (([]:List Int),false)) else ((impl_maskOf.f k1 (rd_LI l1 x14_1)).bind fun t1088=>(if x8_1.length < 17592186044416 then (impl_areTraded.l0 k1 l1 a2 (x8_1 ++ [t1088]) l1 (l1.length:Int) (wrap64 (x14_1 + 1)) a0_0 l0_1) else (none)))) = some (r1,r2):=H;have A22:=aM A220;clear A220;by_cases c23:t1087 > 0
             ·rw [if_pos c23] at H;have c23b0:decide (0 < t1087) = true:=decide_eq_true c23;clear c23;simp only [Option.some.injEq,Prod.mk.injEq] at H;obtain ⟨rfl,rfl⟩:=H;have p1082:0 ≤ (x14_1:Int):=of_decide_eq_true ab;have q1082:x14_1 < (l1.length:Int):=of_decide_eq_true ab;obtain ⟨ad1082,A1082_0,c1082_0,e1082,hx1082_0,hl1082_0,hi1082_0⟩:=at_LI HR1.out x14_1 p1082 q1082;cases e1082
              replace hx1082_0:=(HB.out.cell (World.block_lt_of_cell? w _ hx1082_0)).trans hx1082_0;have HR1082_0:=aM hi1082_0;have HC1082_0:=aM hl1082_0;clear hi1082_0 hl1082_0;replace p1082:=eq_true p1082;replace q1082:=eq_true q1082
              try go_wp2
              have n0_:=aM (Kd.R_drew HO_8.out);have n1_:=aM (blk_drew BK1078.out);have n2_:=aM (below_drew1 HB.out);clear HO_8;clear BK1078;clear HB;have HO_8:=n0_;have BK1078:=n1_;have HB:=n2_;clear n0_ n1_ n2_;have p1085:0 ≤ (t1084:Int):=of_decide_eq_true ab;have q1085:t1084 < (l0_1.length:Int):=of_decide_eq_true ab;obtain ⟨ad1085,e1085,hx1085_0⟩:=Kd.at_bool HR0_1.out t1084 p1085 q1085;have hw1085_0:=hx1085_0;cases e1085
              replace hx1085_0:=(HB.out.cell (World.block_lt_of_cell? w _ hx1085_0)).trans hx1085_0;replace p1085:=eq_true p1085;replace q1085:=eq_true q1085;have p1086:0 ≤ ((ji19):Int):=of_decide_eq_true ab;have q1086:(ji19) < (l1.length:Int):=of_decide_eq_true ab;obtain ⟨ad1086,A1086_0,c1086_0,e1086,hx1086_0,hl1086_0,hi1086_0⟩:=at_LI HR1.out (ji19) p1086 q1086;have hw1086_0:=hx1086_0;obtain rfl:ad1082 = ad1086:=(by injection e1086);replace hx1086_0:=(HB.out.cell (World.block_lt_of_cell? w _ hx1086_0)).trans hx1086_0;have HR1086_0:=aM hi1086_0;have HC1086_0:=aM hl1086_0;clear hi1086_0 hl1086_0;replace p1086:=eq_true p1086;replace q1086:=eq_true q1086;refine start_ (n:=29) (S:=fun w'=>w'.cell? ⟨gb1078,0,none⟩ = some (.int .i64 a0_0) ∧ w'.cell? ⟨gb1078,1,none⟩ = some (.slice (some ad1085) l0_1.length c0_1) ∧ w'.cell? (ad1085.add (t1084).toNat) = some (.bool (rdOf false l0_1 t1084)) ∧ w'.cell? (ad1082.add ((ji19)).toNat) = some (.slice A1086_0 (rd_LI l1 (ji19)).length c1086_0)) (ds:=[]) (mA 29 0) kR rfl rfl ⟨(blk_cell BK1078.out 0).trans rfl,(blk_cell BK1078.out 1).trans rfl,((HB.out.cell (World.block_lt_of_cell? w _ hw1085_0)).trans hw1085_0),((HB.out.cell (World.block_lt_of_cell? w _ hw1086_0)).trans hw1086_0)⟩ (fun hHeld=>?_);refine with_tabW impl_areTraded.tab5 impl_areTraded.bits5 (fun HT_ HW_=>?_)
              generalize wr.drew = w24 at HO_8 BK1078 HB HR1086_0 hx1085_0 hx1086_0 hHeld ⊢
              refine pure_ (i:=0) (N:=some 19) (v:=?_) (a':=?_) (mA 29 1) rfl rfl (any_of HT_.out kR) (fun _ _ _ h=>h) (Or.inl ⟨by rfl,?_⟩) ?_ ?_;rotate_left
              ·intro w';go_simp
               with_reducible rfl
              rotate_left
              ·simp only [Act.put,sA,sZ,sS,i64_w,i32_w];rfl
              refine pure_ (i:=1) (N:=some 20) (v:=?_) (a':=?_) (mA 29 3) rfl rfl (any_of HT_.out kR) (fun _ _ _ h=>h) (Or.inl ⟨by rfl,?_⟩) ?_ ?_;rotate_left
              ·intro w';go_simp
               with_reducible rfl
              rotate_left
              ·simp only [Act.put,sA,sZ,sS,i64_w,i32_w];rfl
              refine take_ (i:=2) (N:=some 21) (v:=?_) (a':=?_) (mA 29 7) rfl rfl (take_ofW HT_.out HW_.out kR) (fun _ _ _ h=>h) (Or.inl ⟨by rfl,?_⟩) hHeld ?_ ?_;rotate_left
              ·rintro w' ⟨s0,s1,s2,s3⟩
               go_simp
               with_reducible rfl
              rotate_left
              ·simp only [Act.put,sA,sZ,sS,i64_w,i32_w];rfl
              refine one_ (i:=3) (N:=some 22) (mA 29 15) rfl rfl (one_of HT_.out kR) (by decide) (fun K hK=>?_);refine goes_ Try.func176 kR rfl #[.slice A1082_0 (rd_LI l1 x14_1).length c1082_0,.int .i64 a0_0] (by rfl) rfl rfl mq ?_
              with_reducible refine (impl_isSet.calls k1 _ _ (rd_LI l1 x14_1) a0_0 true _ ?side1 ?side2 A10.out).mono ?_
              (case side1=>exact qcs HR1082_0.out HB.out)
              (case side2=>exact HC1082_0.out)
              rintro e w25 ⟨rfl,hb⟩
              refine ⟨_,rfl,?_⟩;have n0_:=aM (Kd.R_below (qra HO_8.out) hb);have n1_:=aM (blk_below (g:=gb1078) (o:=.cells #[.int .i64 a0_0,.slice (some ad1085) l0_1.length c0_1] 94 (0,0)) bk hb);have n2_:=aM (below_step bw hb);clear HO_8;clear BK1078;clear HB;have HO_8:=n0_;have BK1078:=n1_;have HB:=n2_;clear n0_ n1_ n2_;(try clear hb)
              (try clear hb2)
              (try clear hk)
              (try clear hi)
              refine hK.out _ _ ⟨(blk_cell BK1078.out 0).trans rfl,(blk_cell BK1078.out 1).trans rfl,((HB.out.cell (World.block_lt_of_cell? w _ hw1085_0)).trans hw1085_0),((HB.out.cell (World.block_lt_of_cell? w _ hw1086_0)).trans hw1086_0)⟩ (fun hHeld=>?_);clear hK K;refine norm_ (a':=?_) ?_ ?_;rotate_left
              ·show Act.put _ (some 22) _ = _;simp only [Act.put,sA,sZ,sS,i64_w,i32_w];rfl
              refine pure_ (i:=4) (N:=some 23) (v:=?_) (a':=?_) (mA 29 31) rfl rfl (any_of HT_.out kR) (fun _ _ _ h=>h) (Or.inl ⟨by rfl,?_⟩) ?_ ?_;rotate_left
              ·intro w';go_simp
               with_reducible rfl
              rotate_left
              ·simp only [Act.put,sA,sZ,sS,i64_w,i32_w];rfl
              refine pure_ (i:=5) (N:=some 24) (v:=?_) (a':=?_) (mA 29 63) rfl rfl (any_of HT_.out kR) (fun _ _ _ h=>h) (Or.inl ⟨by rfl,?_⟩) ?_ ?_;rotate_left
              ·intro w';go_simp
               with_reducible rfl
              rotate_left
              ·simp only [Act.put,sA,sZ,sS,i64_w,i32_w];rfl
              refine pure_ (i:=6) (N:=some 25) (v:=?_) (a':=?_) (mA 29 127) rfl rfl (any_of HT_.out kR) (fun _ _ _ h=>h) (Or.inl ⟨by rfl,?_⟩) ?_ ?_;rotate_left
              ·intro w';go_simp
               with_reducible rfl
              rotate_left
              ·simp only [Act.put,sA,sZ,sS,i64_w,i32_w];rfl
              refine pure_ (i:=8) (N:=some 27) (v:=?_) (a':=?_) (mA 29 383) rfl rfl (any_of HT_.out kR) (fun _ _ _ h=>h) (Or.inl ⟨by rfl,?_⟩) ?_ ?_;rotate_left
              ·intro w';go_simp
               with_reducible rfl
              rotate_left
              ·simp only [Act.put,sA,sZ,sS,i64_w,i32_w];rfl
              refine pure_ (i:=12) (N:=some 31) (v:=?_) (a':=?_) (mA 29 4479) rfl rfl (any_of HT_.out kR) (fun _ _ _ h=>h) (Or.inl ⟨by rfl,?_⟩) ?_ ?_;rotate_left
              ·intro w';go_simp
               with_reducible rfl
              rotate_left
              ·simp only [Act.put,sA,sZ,sS,i64_w,i32_w];rfl
              refine take_ (i:=7) (N:=some 26) (v:=?_) (a':=?_) (mA 29 4607) rfl rfl (take_ofW HT_.out HW_.out kR) (fun _ _ _ h=>h) (Or.inl ⟨by rfl,?_⟩) hHeld ?_ ?_;rotate_left
              ·rintro w' ⟨s0,s1,s2,s3⟩
               go_simp
               with_reducible rfl
              rotate_left
              ·simp only [Act.put,sA,sZ,sS,i64_w,i32_w];rfl
              refine one_ (i:=9) (N:=some 28) (mA 29 5119) rfl rfl (one_of HT_.out kR) (by decide) (fun K hK=>?_);refine goes_ Try.func170 kR rfl #[.slice A1082_0 (rd_LI l1 x14_1).length c1082_0] (by rfl) rfl rfl mq ?_
              with_reducible refine (impl_maskOf.calls k1 _ _ (rd_LI l1 x14_1) t1084 _ ?side1 ?side2 A12.out).mono ?_
              (case side1=>exact qcs HR1082_0.out HB.out)
              (case side2=>exact HC1082_0.out)
              rintro e w' ⟨rfl,⟨nd,rfl⟩⟩
              refine ⟨_,rfl,?_⟩;refine hK.out _ _ ⟨(blk_cell BK1078.out 0).trans rfl,(blk_cell BK1078.out 1).trans rfl,((HB.out.cell (World.block_lt_of_cell? w _ hw1085_0)).trans hw1085_0),((HB.out.cell (World.block_lt_of_cell? w _ hw1086_0)).trans hw1086_0)⟩ (fun hHeld=>?_);clear hK K;refine norm_ (a':=?_) ?_ ?_;rotate_left
              ·show Act.put _ (some 28) _ = _;simp only [Act.put,sA,sZ,sS,i64_w,i32_w];rfl
              refine pure_ (i:=10) (N:=some 29) (v:=?_) (a':=?_) (mA 29 6143) rfl rfl (any_of HT_.out kR) (fun _ _ _ h=>h) (Or.inl ⟨by rfl,?_⟩) ?_ ?_;rotate_left
              ·intro w';go_simp
               with_reducible rfl
              rotate_left
              ·simp only [Act.put,sA,sZ,sS,i64_w,i32_w];rfl
              refine take_ (i:=11) (N:=some 30) (v:=?_) (a':=?_) (mA 29 8191) rfl rfl (take_ofW HT_.out HW_.out kR) (fun _ _ _ h=>h) (Or.inl ⟨by rfl,?_⟩) hHeld ?_ ?_;rotate_left
              ·rintro w' ⟨s0,s1,s2,s3⟩
               go_simp
               with_reducible rfl
              rotate_left
              ·simp only [Act.put,sA,sZ,sS,i64_w,i32_w];rfl
              refine pure_ (i:=13) (N:=some 32) (v:=?_) (a':=?_) (mA 29 16383) rfl rfl (any_of HT_.out kR) (fun _ _ _ h=>h) (Or.inl ⟨by rfl,?_⟩) ?_ ?_;rotate_left
              ·intro w';go_simp
               with_reducible rfl
              rotate_left
              ·simp only [Act.put,sA,sZ,sS,i64_w,i32_w];rfl
              refine pure_ (i:=14) (N:=some 33) (v:=?_) (a':=?_) (mA 29 32767) rfl rfl (any_of HT_.out kR) (fun _ _ _ h=>h) (Or.inl ⟨by rfl,?_⟩) ?_ ?_;rotate_left
              ·intro w';go_simp
               with_reducible rfl
              rotate_left
              ·simp only [Act.put,sA,sZ,sS,i64_w,i32_w];rfl
              refine pure_ (i:=15) (N:=some 34) (v:=?_) (a':=?_) (mA 29 65535) rfl rfl (any_of HT_.out kR) (fun _ _ _ h=>h) (Or.inl ⟨by rfl,?_⟩) ?_ ?_;rotate_left
              ·intro w';go_simp
               with_reducible rfl
              rotate_left
              ·simp only [Act.put,sA,sZ,sS,i64_w,i32_w];rfl
              refine pure_ (i:=16) (N:=some 35) (v:=?_) (a':=?_) (mA 29 131071) rfl rfl (any_of HT_.out kR) (fun _ _ _ h=>h) (Or.inl ⟨by rfl,?_⟩) ?_ ?_;rotate_left
              ·intro w';go_simp
               with_reducible rfl
              rotate_left
              ·simp only [Act.put,sA,sZ,sS,i64_w,i32_w];rfl
              refine pure_ (i:=17) (N:=some 36) (v:=?_) (a':=?_) (mA 29 262143) rfl rfl (any_of HT_.out kR) (fun _ _ _ h=>h) (Or.inl ⟨by rfl,?_⟩) ?_ ?_;rotate_left
              ·intro w';go_simp
               with_reducible rfl
              rotate_left
              ·simp only [Act.put,sA,sZ,sS,i64_w,i32_w];rfl
              refine pure_ (i:=18) (N:=some 37) (v:=?_) (a':=?_) (mA 29 524287) rfl rfl (any_of HT_.out kR) (fun _ _ _ h=>h) (Or.inl ⟨by rfl,?_⟩) ?_ ?_;rotate_left
              ·intro w';go_simp
               with_reducible rfl
              rotate_left
              ·simp only [Act.put,sA,sZ,sS,i64_w,i32_w];rfl
              refine pure_ (i:=19) (N:=some 38) (v:=?_) (a':=?_) (mA 29 1048575) rfl rfl (any_of HT_.out kR) (fun _ _ _ h=>h) (Or.inl ⟨by rfl,?_⟩) ?_ ?_;rotate_left
              ·intro w';go_simp
               with_reducible rfl
              rotate_left
              ·simp only [Act.put,sA,sZ,sS,i64_w,i32_w];rfl
              refine pure_ (i:=20) (N:=some 39) (v:=?_) (a':=?_) (mA 29 2097151) rfl rfl (any_of HT_.out kR) (fun _ _ _ h=>h) (Or.inl ⟨by rfl,?_⟩) ?_ ?_;rotate_left
              ·intro w';go_simp
               with_reducible rfl
              rotate_left
              ·simp only [Act.put,sA,sZ,sS,i64_w,i32_w];rfl
              refine pure_ (i:=21) (N:=some 40) (v:=?_) (a':=?_) (mA 29 4194303) rfl rfl (any_of HT_.out kR) (fun _ _ _ h=>h) (Or.inl ⟨by rfl,?_⟩) ?_ ?_;rotate_left
              ·intro w';go_simp
               with_reducible rfl
              rotate_left
              ·simp only [Act.put,sA,sZ,sS,i64_w,i32_w];rfl
              refine pure_ (i:=22) (N:=some 41) (v:=?_) (a':=?_) (mA 29 8388607) rfl rfl (any_of HT_.out kR) (fun _ _ _ h=>h) (Or.inl ⟨by rfl,?_⟩) ?_ ?_;rotate_left
              ·intro w';go_simp
               with_reducible rfl
              rotate_left
              ·simp only [Act.put,sA,sZ,sS,i64_w,i32_w];rfl
              refine pure_ (i:=24) (N:=some 43) (v:=?_) (a':=?_) (mA 29 25165823) rfl rfl (any_of HT_.out kR) (fun _ _ _ h=>h) (Or.inl ⟨by rfl,?_⟩) ?_ ?_;rotate_left
              ·intro w';go_simp
               with_reducible rfl
              rotate_left
              ·simp only [Act.put,sA,sZ,sS,i64_w,i32_w];rfl
              refine take_ (i:=23) (N:=some 42) (v:=?_) (a':=?_) (mA 29 33554431) rfl rfl (take_ofW HT_.out HW_.out kR) (fun _ _ _ h=>h) (Or.inl ⟨by rfl,?_⟩) hHeld ?_ ?_;rotate_left
              ·rintro w' ⟨s0,s1,s2,s3⟩
               go_simp
               with_reducible rfl
              rotate_left
              ·simp only [Act.put,sA,sZ,sS,i64_w,i32_w];rfl
              refine one_ (i:=25) (N:=some 44) (mA 29 67108863) rfl rfl (one_of HT_.out kR) (by decide) (fun K hK=>?_);refine goes_ Try.func169 kR rfl #[.slice A1086_0 (rd_LI l1 (ji19)).length c1086_0,.slice A1082_0 (rd_LI l1 x14_1).length c1082_0] (by rfl) rfl rfl (by (try simp only [List.map_toArray,List.map_cons,List.map_nil]);first|done|(simp only [hji19];rfl)|rfl|(simp only [List.length_drop,List.length_take];rfl)) ?_
              with_reducible refine (slices_Compare_int_int.calls k1 _ _ (rd_LI l1 (ji19)) _ _ (rd_LI l1 x14_1) t1087 _ ?side1 ?side2 ?side3 ?side4 A22.out).mono ?_
              (case side1=>repeat (first|exact (Kd.C_below HR1086_0.out bw)|(with_reducible refine Kd.C_alloc ?_ _)|(with_reducible refine Kd.C_drewN ?_ _)|(with_reducible refine Kd.C_drew ?_)))
              (case side2=>exact HC1086_0.out)
              (case side3=>repeat (first|exact (Kd.C_below HR1082_0.out bw)|(with_reducible refine Kd.C_alloc ?_ _)|(with_reducible refine Kd.C_drewN ?_ _)|(with_reducible refine Kd.C_drew ?_)))
              (case side4=>exact HC1082_0.out)
              rintro e w' ⟨rfl,⟨nd,rfl⟩⟩
              refine ⟨_,rfl,?_⟩;refine hK.out _ _ ⟨(blk_cell BK1078.out 0).trans rfl,(blk_cell BK1078.out 1).trans rfl,((HB.out.cell (World.block_lt_of_cell? w _ hw1085_0)).trans hw1085_0),((HB.out.cell (World.block_lt_of_cell? w _ hw1086_0)).trans hw1086_0)⟩ (fun hHeld=>?_);clear hK K;refine norm_ (a':=?_) ?_ ?_;rotate_left
              ·show Act.put _ (some 44) _ = _;simp only [Act.put,sA,sZ,sS,i64_w,i32_w];rfl
              refine pure_ (i:=26) (N:=some 45) (v:=?_) (a':=?_) (mA 29 134217727) rfl rfl (any_of HT_.out kR) (fun _ _ _ h=>h) (Or.inl ⟨by rfl,?_⟩) ?_ ?_;rotate_left
              ·intro w';go_simp
               with_reducible rfl
              rotate_left
              ·simp only [Act.put,sA,sZ,sS,i64_w,i32_w];rfl
              refine pure_ (i:=27) (N:=some 46) (v:=?_) (a':=?_) (mA 29 268435455) rfl rfl (any_of HT_.out kR) (fun _ _ _ h=>h) (Or.inl ⟨by rfl,?_⟩) ?_ ?_;rotate_left
              ·intro w';go_simp
               with_reducible rfl
              rotate_left
              ·simp only [Act.put,sA,sZ,sS,i64_w,i32_w];rfl
              refine pure_ (i:=28) (N:=some 47) (v:=?_) (a':=?_) (mA 29 536870911) rfl rfl (any_of HT_.out kR) (fun _ _ _ h=>h) (Or.inl ⟨by rfl,?_⟩) ?_ ?_;rotate_left
              ·intro w';go_simp
               with_reducible rfl
              rotate_left
              ·simp only [Act.put,sA,sZ,sS,i64_w,i32_w];rfl
              refine done_ (done_of HT_.out kR) ?_
              try go_wp2
              go_ret2
              exact ⟨_,by first|rfl|(simp [errW_none,errW_some] <;> rfl)|(simp only [← hji19];first|rfl|(simp [errW_none,errW_some] <;> rfl))|(simp [*,errW_none,errW_some] <;> rfl),by first|exact Kd.R_nil _ _ _ _ _|exact Kd.N_nil _ _ _ _ _|exact Kd.V_nil _ _ _ _ _|exact Kd.Q_nil _ _ _ _ _|exact Kd.S_nil _ _ _ _ _,by exact bw⟩
             ·rw [if_neg c23] at H;have c23b0:decide (0 < t1087) = false:=decide_eq_false c23;clear c23;replace H:=Option.bind_eq_some_iff.mp H;obtain ⟨t1088,A260,H⟩:=H;replace H:(if x8_1.length < 17592186044416 then (impl_areTraded.l0 k1 l1 a2 (x8_1 ++ [t1088]) l1 (l1.length:Int) (wrap64 (x14_1 + 1)) a0_0 l0_1) else (none)) = some (r1,r2):=H;have A26:=aM A260;clear A260;obtain rfl:t1084 = t1088:=Option.some.inj (A12.out.symm.trans A26.out);by_cases c27:x8_1.length < 17592186044416
              ·rw [if_pos c27] at H;have LMc27:=aM c27;clear c27;obtain ⟨y1089,hy1089⟩:∃ y_:List Int,y_ = (x8_1 ++ [t1084]):=⟨_,rfl⟩;replace H:(impl_areTraded.l0 k1 l1 a2 y1089 l1 (l1.length:Int) (wrap64 (x14_1 + 1)) a0_0 l0_1) = some (r1,r2):=by first|(rw [hy1089];with_reducible exact H)|(have H2_:=(Option.bind_some _ _).symm.trans H;rw [hy1089];with_reducible exact H2_)|(have H2_:=(Option.bind_some _ _).symm.trans H;with_reducible exact H2_)|with_reducible exact H|(rw [hy1089];exact H)|exact H
               have Ny1089:=aM hy1089;clear hy1089;have H':=aM H;clear H;have p1082:0 ≤ (x14_1:Int):=of_decide_eq_true ab;have q1082:x14_1 < (l1.length:Int):=of_decide_eq_true ab;obtain ⟨ad1082,A1082_0,c1082_0,e1082,hx1082_0,hl1082_0,hi1082_0⟩:=at_LI HR1.out x14_1 p1082 q1082;cases e1082
               replace hx1082_0:=(HB.out.cell (World.block_lt_of_cell? w _ hx1082_0)).trans hx1082_0;have HR1082_0:=aM hi1082_0;have HC1082_0:=aM hl1082_0;clear hi1082_0 hl1082_0;replace p1082:=eq_true p1082;replace q1082:=eq_true q1082
               try go_wp2
               have n0_:=aM (Kd.R_drew HO_8.out);have n1_:=aM (blk_drew BK1078.out);have n2_:=aM (below_drew1 HB.out);clear HO_8;clear BK1078;clear HB;have HO_8:=n0_;have BK1078:=n1_;have HB:=n2_;clear n0_ n1_ n2_;have p1085:0 ≤ (t1084:Int):=of_decide_eq_true ab;have q1085:t1084 < (l0_1.length:Int):=of_decide_eq_true ab;obtain ⟨ad1085,e1085,hx1085_0⟩:=Kd.at_bool HR0_1.out t1084 p1085 q1085;have hw1085_0:=hx1085_0;cases e1085
               replace hx1085_0:=(HB.out.cell (World.block_lt_of_cell? w _ hx1085_0)).trans hx1085_0;replace p1085:=eq_true p1085;replace q1085:=eq_true q1085;have p1086:0 ≤ ((ji19):Int):=of_decide_eq_true ab;have q1086:(ji19) < (l1.length:Int):=of_decide_eq_true ab;obtain ⟨ad1086,A1086_0,c1086_0,e1086,hx1086_0,hl1086_0,hi1086_0⟩:=at_LI HR1.out (ji19) p1086 q1086;have hw1086_0:=hx1086_0;obtain rfl:ad1082 = ad1086:=(by injection e1086);replace hx1086_0:=(HB.out.cell (World.block_lt_of_cell? w _ hx1086_0)).trans hx1086_0;have HR1086_0:=aM hi1086_0;have HC1086_0:=aM hl1086_0;clear hi1086_0 hl1086_0;replace p1086:=eq_true p1086;replace q1086:=eq_true q1086;refine start_ (n:=29) (S:=fun w'=>w'.cell? ⟨gb1078,0,none⟩ = some (.int .i64 a0_0) ∧ w'.cell? ⟨gb1078,1,none⟩ = some (.slice (some ad1085) l0_1.length c0_1) ∧ w'.cell? (ad1085.add (t1084).toNat) = some (.bool (rdOf false l0_1 t1084)) ∧ w'.cell? (ad1082.add ((ji19)).toNat) = some (.slice A1086_0 (rd_LI l1 (ji19)).length c1086_0)) (ds:=[]) (mA 29 0) kR rfl rfl ⟨(blk_cell BK1078.out 0).trans rfl,(blk_cell BK1078.out 1).trans rfl,((HB.out.cell (World.block_lt_of_cell? w _ hw1085_0)).trans hw1085_0),((HB.out.cell (World.block_lt_of_cell? w _ hw1086_0)).trans hw1086_0)⟩ (fun hHeld=>?_);refine with_tabW impl_areTraded.tab5 impl_areTraded.bits5 (fun HT_ HW_=>?_)
               generalize wr.drew = w28 at HO_8 BK1078 HB HR1086_0 hx1085_0 hx1086_0 hHeld ⊢
               refine pure_ (i:=0) (N:=some 19) (v:=?_) (a':=?_) (mA 29 1) rfl rfl (any_of HT_.out kR) (fun _ _ _ h=>h) (Or.inl ⟨by rfl,?_⟩) ?_ ?_;rotate_left
               ·intro w';go_simp
                with_reducible rfl
               rotate_left
               ·simp only [Act.put,sA,sZ,sS,i64_w,i32_w];rfl
               refine pure_ (i:=1) (N:=some 20) (v:=?_) (a':=?_) (mA 29 3) rfl rfl (any_of HT_.out kR) (fun _ _ _ h=>h) (Or.inl ⟨by rfl,?_⟩) ?_ ?_;rotate_left
               ·intro w';go_simp
                with_reducible rfl
               rotate_left
               ·simp only [Act.put,sA,sZ,sS,i64_w,i32_w];rfl
               refine take_ (i:=2) (N:=some 21) (v:=?_) (a':=?_) (mA 29 7) rfl rfl (take_ofW HT_.out HW_.out kR) (fun _ _ _ h=>h) (Or.inl ⟨by rfl,?_⟩) hHeld ?_ ?_;rotate_left
               ·rintro w' ⟨s0,s1,s2,s3⟩
                go_simp
                with_reducible rfl
               rotate_left
               ·simp only [Act.put,sA,sZ,sS,i64_w,i32_w];rfl
               refine one_ (i:=3) (N:=some 22) (mA 29 15) rfl rfl (one_of HT_.out kR) (by decide) (fun K hK=>?_);refine goes_ Try.func176 kR rfl #[.slice A1082_0 (rd_LI l1 x14_1).length c1082_0,.int .i64 a0_0] (by rfl) rfl rfl mq ?_
               with_reducible refine (impl_isSet.calls k1 _ _ (rd_LI l1 x14_1) a0_0 true _ ?side1 ?side2 A10.out).mono ?_
               (case side1=>exact qcs HR1082_0.out HB.out)
               (case side2=>exact HC1082_0.out)
               rintro e w29 ⟨rfl,hb⟩
               refine ⟨_,rfl,?_⟩;have n0_:=aM (Kd.R_below (qra HO_8.out) hb);have n1_:=aM (blk_below (g:=gb1078) (o:=.cells #[.int .i64 a0_0,.slice (some ad1085) l0_1.length c0_1] 94 (0,0)) bk hb);have n2_:=aM (below_step bw hb);clear HO_8;clear BK1078;clear HB;have HO_8:=n0_;have BK1078:=n1_;have HB:=n2_;clear n0_ n1_ n2_;(try clear hb)
               (try clear hb2)
               (try clear hk)
               (try clear hi)
               refine hK.out _ _ ⟨(blk_cell BK1078.out 0).trans rfl,(blk_cell BK1078.out 1).trans rfl,((HB.out.cell (World.block_lt_of_cell? w _ hw1085_0)).trans hw1085_0),((HB.out.cell (World.block_lt_of_cell? w _ hw1086_0)).trans hw1086_0)⟩ (fun hHeld=>?_);clear hK K;refine norm_ (a':=?_) ?_ ?_;rotate_left
               ·show Act.put _ (some 22) _ = _;simp only [Act.put,sA,sZ,sS,i64_w,i32_w];rfl
               refine pure_ (i:=4) (N:=some 23) (v:=?_) (a':=?_) (mA 29 31) rfl rfl (any_of HT_.out kR) (fun _ _ _ h=>h) (Or.inl ⟨by rfl,?_⟩) ?_ ?_;rotate_left
               ·intro w';go_simp
                with_reducible rfl
               rotate_left
               ·simp only [Act.put,sA,sZ,sS,i64_w,i32_w];rfl
               refine pure_ (i:=5) (N:=some 24) (v:=?_) (a':=?_) (mA 29 63) rfl rfl (any_of HT_.out kR) (fun _ _ _ h=>h) (Or.inl ⟨by rfl,?_⟩) ?_ ?_;rotate_left
               ·intro w';go_simp
                with_reducible rfl
               rotate_left
               ·simp only [Act.put,sA,sZ,sS,i64_w,i32_w];rfl
               refine pure_ (i:=6) (N:=some 25) (v:=?_) (a':=?_) (mA 29 127) rfl rfl (any_of HT_.out kR) (fun _ _ _ h=>h) (Or.inl ⟨by rfl,?_⟩) ?_ ?_;rotate_left
               ·intro w';go_simp
                with_reducible rfl
               rotate_left
               ·simp only [Act.put,sA,sZ,sS,i64_w,i32_w];rfl
               refine pure_ (i:=8) (N:=some 27) (v:=?_) (a':=?_) (mA 29 383) rfl rfl (any_of HT_.out kR) (fun _ _ _ h=>h) (Or.inl ⟨by rfl,?_⟩) ?_ ?_;rotate_left
               ·intro w';go_simp
                with_reducible rfl
               rotate_left
               ·simp only [Act.put,sA,sZ,sS,i64_w,i32_w];rfl
               refine pure_ (i:=12) (N:=some 31) (v:=?_) (a':=?_) (mA 29 4479) rfl rfl (any_of HT_.out kR) (fun _ _ _ h=>h) (Or.inl ⟨by rfl,?_⟩) ?_ ?_;rotate_left
               ·intro w';go_simp
                with_reducible rfl
               rotate_left
               ·simp only [Act.put,sA,sZ,sS,i64_w,i32_w];rfl
               refine take_ (i:=7) (N:=some 26) (v:=?_) (a':=?_) (mA 29 4607) rfl rfl (take_ofW HT_.out HW_.out kR) (fun _ _ _ h=>h) (Or.inl ⟨by rfl,?_⟩) hHeld ?_ ?_;rotate_left
               ·rintro w' ⟨s0,s1,s2,s3⟩
                go_simp
                with_reducible rfl
               rotate_left
               ·simp only [Act.put,sA,sZ,sS,i64_w,i32_w];rfl
               refine one_ (i:=9) (N:=some 28) (mA 29 5119) rfl rfl (one_of HT_.out kR) (by decide) (fun K hK=>?_);refine goes_ Try.func170 kR rfl #[.slice A1082_0 (rd_LI l1 x14_1).length c1082_0] (by rfl) rfl rfl mq ?_
               with_reducible refine (impl_maskOf.calls k1 _ _ (rd_LI l1 x14_1) t1084 _ ?side1 ?side2 A12.out).mono ?_
               (case side1=>exact qcs HR1082_0.out HB.out)
               (case side2=>exact HC1082_0.out)
               rintro e w' ⟨rfl,⟨nd,rfl⟩⟩
               refine ⟨_,rfl,?_⟩;refine hK.out _ _ ⟨(blk_cell BK1078.out 0).trans rfl,(blk_cell BK1078.out 1).trans rfl,((HB.out.cell (World.block_lt_of_cell? w _ hw1085_0)).trans hw1085_0),((HB.out.cell (World.block_lt_of_cell? w _ hw1086_0)).trans hw1086_0)⟩ (fun hHeld=>?_);clear hK K;refine norm_ (a':=?_) ?_ ?_;rotate_left
               ·show Act.put _ (some 28) _ = _;simp only [Act.put,sA,sZ,sS,i64_w,i32_w];rfl
               refine pure_ (i:=10) (N:=some 29) (v:=?_) (a':=?_) (mA 29 6143) rfl rfl (any_of HT_.out kR) (fun _ _ _ h=>h) (Or.inl ⟨by rfl,?_⟩) ?_ ?_;rotate_left
               ·intro w';go_simp
                with_reducible rfl
               rotate_left
               ·simp only [Act.put,sA,sZ,sS,i64_w,i32_w];rfl
               refine take_ (i:=11) (N:=some 30) (v:=?_) (a':=?_) (mA 29 8191) rfl rfl (take_ofW HT_.out HW_.out kR) (fun _ _ _ h=>h) (Or.inl ⟨by rfl,?_⟩) hHeld ?_ ?_;rotate_left
               ·rintro w' ⟨s0,s1,s2,s3⟩
                go_simp
                with_reducible rfl
               rotate_left
               ·simp only [Act.put,sA,sZ,sS,i64_w,i32_w];rfl
               refine pure_ (i:=13) (N:=some 32) (v:=?_) (a':=?_) (mA 29 16383) rfl rfl (any_of HT_.out kR) (fun _ _ _ h=>h) (Or.inl ⟨by rfl,?_⟩) ?_ ?_;rotate_left
               ·intro w';go_simp
                with_reducible rfl
               rotate_left
               ·simp only [Act.put,sA,sZ,sS,i64_w,i32_w];rfl
               refine pure_ (i:=14) (N:=some 33) (v:=?_) (a':=?_) (mA 29 32767) rfl rfl (any_of HT_.out kR) (fun _ _ _ h=>h) (Or.inl ⟨by rfl,?_⟩) ?_ ?_;rotate_left
               ·intro w';go_simp
                with_reducible rfl
               rotate_left
               ·simp only [Act.put,sA,sZ,sS,i64_w,i32_w];rfl
               refine pure_ (i:=15) (N:=some 34) (v:=?_) (a':=?_) (mA 29 65535) rfl rfl (any_of HT_.out kR) (fun _ _ _ h=>h) (Or.inl ⟨by rfl,?_⟩) ?_ ?_;rotate_left
               ·intro w';go_simp
                with_reducible rfl
               rotate_left
               ·simp only [Act.put,sA,sZ,sS,i64_w,i32_w];rfl
               refine pure_ (i:=16) (N:=some 35) (v:=?_) (a':=?_) (mA 29 131071) rfl rfl (any_of HT_.out kR) (fun _ _ _ h=>h) (Or.inl ⟨by rfl,?_⟩) ?_ ?_;rotate_left
               ·intro w';go_simp
                with_reducible rfl
               rotate_left
               ·simp only [Act.put,sA,sZ,sS,i64_w,i32_w];rfl
               refine pure_ (i:=17) (N:=some 36) (v:=?_) (a':=?_) (mA 29 262143) rfl rfl (any_of HT_.out kR) (fun _ _ _ h=>h) (Or.inl ⟨by rfl,?_⟩) ?_ ?_;rotate_left
               ·intro w';go_simp
                with_reducible rfl
               rotate_left
               ·simp only [Act.put,sA,sZ,sS,i64_w,i32_w];rfl
               refine pure_ (i:=18) (N:=some 37) (v:=?_) (a':=?_) (mA 29 524287) rfl rfl (any_of HT_.out kR) (fun _ _ _ h=>h) (Or.inl ⟨by rfl,?_⟩) ?_ ?_;rotate_left
               ·intro w';go_simp
                with_reducible rfl
               rotate_left
               ·simp only [Act.put,sA,sZ,sS,i64_w,i32_w];rfl
               refine pure_ (i:=19) (N:=some 38) (v:=?_) (a':=?_) (mA 29 1048575) rfl rfl (any_of HT_.out kR) (fun _ _ _ h=>h) (Or.inl ⟨by rfl,?_⟩) ?_ ?_;rotate_left
               ·intro w';go_simp
                with_reducible rfl
               rotate_left
               ·simp only [Act.put,sA,sZ,sS,i64_w,i32_w];rfl
               refine pure_ (i:=20) (N:=some 39) (v:=?_) (a':=?_) (mA 29 2097151) rfl rfl (any_of HT_.out kR) (fun _ _ _ h=>h) (Or.inl ⟨by rfl,?_⟩) ?_ ?_;rotate_left
               ·intro w';go_simp
                with_reducible rfl
               rotate_left
               ·simp only [Act.put,sA,sZ,sS,i64_w,i32_w];rfl
               refine pure_ (i:=21) (N:=some 40) (v:=?_) (a':=?_) (mA 29 4194303) rfl rfl (any_of HT_.out kR) (fun _ _ _ h=>h) (Or.inl ⟨by rfl,?_⟩) ?_ ?_;rotate_left
               ·intro w';go_simp
                with_reducible rfl
               rotate_left
               ·simp only [Act.put,sA,sZ,sS,i64_w,i32_w];rfl
               refine pure_ (i:=22) (N:=some 41) (v:=?_) (a':=?_) (mA 29 8388607) rfl rfl (any_of HT_.out kR) (fun _ _ _ h=>h) (Or.inl ⟨by rfl,?_⟩) ?_ ?_;rotate_left
               ·intro w';go_simp
                with_reducible rfl
               rotate_left
               ·simp only [Act.put,sA,sZ,sS,i64_w,i32_w];rfl
               refine pure_ (i:=24) (N:=some 43) (v:=?_) (a':=?_) (mA 29 25165823) rfl rfl (any_of HT_.out kR) (fun _ _ _ h=>h) (Or.inl ⟨by rfl,?_⟩) ?_ ?_;rotate_left
               ·intro w';go_simp
                with_reducible rfl
               rotate_left
               ·simp only [Act.put,sA,sZ,sS,i64_w,i32_w];rfl
               refine take_ (i:=23) (N:=some 42) (v:=?_) (a':=?_) (mA 29 33554431) rfl rfl (take_ofW HT_.out HW_.out kR) (fun _ _ _ h=>h) (Or.inl ⟨by rfl,?_⟩) hHeld ?_ ?_;rotate_left
               ·rintro w' ⟨s0,s1,s2,s3⟩
                go_simp
                with_reducible rfl
               rotate_left
               ·simp only [Act.put,sA,sZ,sS,i64_w,i32_w];rfl
               refine one_ (i:=25) (N:=some 44) (mA 29 67108863) rfl rfl (one_of HT_.out kR) (by decide) (fun K hK=>?_);refine goes_ Try.func169 kR rfl #[.slice A1086_0 (rd_LI l1 (ji19)).length c1086_0,.slice A1082_0 (rd_LI l1 x14_1).length c1082_0] (by rfl) rfl rfl (by (try simp only [List.map_toArray,List.map_cons,List.map_nil]);first|done|(simp only [hji19];rfl)|rfl|(simp only [List.length_drop,List.length_take];rfl)) ?_
               with_reducible refine (slices_Compare_int_int.calls k1 _ _ (rd_LI l1 (ji19)) _ _ (rd_LI l1 x14_1) t1087 _ ?side1 ?side2 ?side3 ?side4 A22.out).mono ?_
               (case side1=>repeat (first|exact (Kd.C_below HR1086_0.out bw)|(with_reducible refine Kd.C_alloc ?_ _)|(with_reducible refine Kd.C_drewN ?_ _)|(with_reducible refine Kd.C_drew ?_)))
               (case side2=>exact HC1086_0.out)
               (case side3=>repeat (first|exact (Kd.C_below HR1082_0.out bw)|(with_reducible refine Kd.C_alloc ?_ _)|(with_reducible refine Kd.C_drewN ?_ _)|(with_reducible refine Kd.C_drew ?_)))
               (case side4=>exact HC1082_0.out)
               rintro e w' ⟨rfl,⟨nd,rfl⟩⟩
               refine ⟨_,rfl,?_⟩;refine hK.out _ _ ⟨(blk_cell BK1078.out 0).trans rfl,(blk_cell BK1078.out 1).trans rfl,((HB.out.cell (World.block_lt_of_cell? w _ hw1085_0)).trans hw1085_0),((HB.out.cell (World.block_lt_of_cell? w _ hw1086_0)).trans hw1086_0)⟩ (fun hHeld=>?_);clear hK K;refine norm_ (a':=?_) ?_ ?_;rotate_left
               ·show Act.put _ (some 44) _ = _;simp only [Act.put,sA,sZ,sS,i64_w,i32_w];rfl
               refine pure_ (i:=26) (N:=some 45) (v:=?_) (a':=?_) (mA 29 134217727) rfl rfl (any_of HT_.out kR) (fun _ _ _ h=>h) (Or.inl ⟨by rfl,?_⟩) ?_ ?_;rotate_left
               ·intro w';go_simp
                with_reducible rfl
               rotate_left
               ·simp only [Act.put,sA,sZ,sS,i64_w,i32_w];rfl
               refine pure_ (i:=27) (N:=some 46) (v:=?_) (a':=?_) (mA 29 268435455) rfl rfl (any_of HT_.out kR) (fun _ _ _ h=>h) (Or.inl ⟨by rfl,?_⟩) ?_ ?_;rotate_left
               ·intro w';go_simp
                with_reducible rfl
               rotate_left
               ·simp only [Act.put,sA,sZ,sS,i64_w,i32_w];rfl
               refine pure_ (i:=28) (N:=some 47) (v:=?_) (a':=?_) (mA 29 536870911) rfl rfl (any_of HT_.out kR) (fun _ _ _ h=>h) (Or.inl ⟨by rfl,?_⟩) ?_ ?_;rotate_left
               ·intro w';go_simp
                with_reducible rfl
               rotate_left
               ·simp only [Act.put,sA,sZ,sS,i64_w,i32_w];rfl
               refine done_ (done_of HT_.out kR) ?_
               try go_wp2_with (first|((with_reducible refine gate_callee (f:=170) rfl ?_);refine goesL_ (some 50) rfl rfl Try.func170 kR rfl #[.slice A1082_0 (rd_LI l1 x14_1).length c1082_0] rfl mq ?_;(with_reducible refine (impl_maskOf.calls k1 _ _ (rd_LI l1 x14_1) t1084 _ ?side1 ?side2 A26.out).mono ?_);(case side1=>repeat (first|exact (Kd.C_below HR1082_0.out bw)|(with_reducible refine Kd.C_alloc ?_ _)|(with_reducible refine Kd.C_drewN ?_ _)|(with_reducible refine Kd.C_drew ?_)));(case side2=>exact HC1082_0.out);rintro e w' ⟨rfl,⟨nd,rfl⟩⟩;refine ⟨_,rfl,?_⟩)|((with_reducible refine gate_builtin (b:=.append) (xs:=#[.tmp 48,.tmp 51]) rfl ?_);at_builtin;refine Kd.R_append (Kd.int .i64) (w0:=w) w.heap.size rfl (.tmp 48) (.tmp 51) 22 3 (.int .i64 0) 8 rfl Try.underlying22 info3 rfl (by decide) (by omega) u8 x8_1 t1084 [.int .i64 t1084] (fun _=>True) (fun _=>False) rfl rfl ?aP (fun _ hk=>hk.elim) ?aF ?aO ?aB ?aS ?aL ?_;(case aP=>exact rfl);(case aB=>exact bw);(case aF=>exact (fun _ _=>trivial));(case aO=>exact (qra HO_8.out));(case aS=>exact (below_size bw));(case aL=>have:=LMc27.out;omega);intro v1090 w30 ho hb hg hat;rw [← Ny1089.out] at ho;have n0_:=aM (blk_grown (g:=gb1078) (o:=.cells #[.int .i64 a0_0,.slice (some ad1085) l0_1.length c0_1] 94 (0,0)) bk hg (Kd.R_ne HO_8.out BK1078.out (by decide)));have n1_:=aM (hb);have n2_:=aM (ho);clear BK1078;clear HB;clear HO_8;have BK1078:=n0_;have HB:=n1_;have HO1091:=n2_;clear n0_ n1_ n2_;clear ho hb hg hat))
               go_roundg k1
               case measure=>have:=HK1.out;omega
               case rel=>exact ⟨(y1089),(wrap64 (x14_1 + 1)),qrs,H',⟨by have:=HK1.out;omega⟩,⟨qra HO1091.out⟩,⟨by (with_reducible repeat (first|refine blk_drewN ?_ _|refine blk_drew ?_|refine blk_alloc ?_ _));exact BK1078.out⟩,⟨by exact bw⟩⟩
              ·rw [if_neg c27] at H;exact absurd H (by simp)
            ·rw [if_neg c21] at H;exact absurd H (by simp)
           ·rw [if_neg c20] at H;exact absurd H (by simp)
          ·rw [if_neg c18] at H;have c18b0:decide (0 < x14_1) = false:=decide_eq_false c18;clear c18;replace H:=Option.bind_eq_some_iff.mp H;obtain ⟨t1092,A310,H⟩:=H;replace H:(if x8_1.length < 17592186044416 then (impl_areTraded.l0 k1 l1 a2 (x8_1 ++ [t1092]) l1 (l1.length:Int) (wrap64 (x14_1 + 1)) a0_0 l0_1) else (none)) = some (r1,r2):=H;have A31:=aM A310;clear A310;obtain rfl:t1084 = t1092:=Option.some.inj (A12.out.symm.trans A31.out);by_cases c32:x8_1.length < 17592186044416
           ·rw [if_pos c32] at H;have LMc32:=aM c32;clear c32;obtain ⟨y1093,hy1093⟩:∃ y_:List Int,y_ = (x8_1 ++ [t1084]):=⟨_,rfl⟩;replace H:(impl_areTraded.l0 k1 l1 a2 y1093 l1 (l1.length:Int) (wrap64 (x14_1 + 1)) a0_0 l0_1) = some (r1,r2):=by first|(rw [hy1093];with_reducible exact H)|(have H2_:=(Option.bind_some _ _).symm.trans H;rw [hy1093];with_reducible exact H2_)|(have H2_:=(Option.bind_some _ _).symm.trans H;with_reducible exact H2_)|with_reducible exact H|(rw [hy1093];exact H)|exact H
            have Ny1093:=aM hy1093;clear hy1093;have H':=aM H;clear H;have p1082:0 ≤ (x14_1:Int):=of_decide_eq_true ab;have q1082:x14_1 < (l1.length:Int):=of_decide_eq_true ab;obtain ⟨ad1082,A1082_0,c1082_0,e1082,hx1082_0,hl1082_0,hi1082_0⟩:=at_LI HR1.out x14_1 p1082 q1082;cases e1082
            replace hx1082_0:=(HB.out.cell (World.block_lt_of_cell? w _ hx1082_0)).trans hx1082_0;have HR1082_0:=aM hi1082_0;have HC1082_0:=aM hl1082_0;clear hi1082_0 hl1082_0;replace p1082:=eq_true p1082;replace q1082:=eq_true q1082
            try go_wp2
            have n0_:=aM (Kd.R_drew HO_8.out);have n1_:=aM (blk_drew BK1078.out);have n2_:=aM (below_drew1 HB.out);clear HO_8;clear BK1078;clear HB;have HO_8:=n0_;have BK1078:=n1_;have HB:=n2_;clear n0_ n1_ n2_;have p1085:0 ≤ (t1084:Int):=of_decide_eq_true ab;have q1085:t1084 < (l0_1.length:Int):=of_decide_eq_true ab;obtain ⟨ad1085,e1085,hx1085_0⟩:=Kd.at_bool HR0_1.out t1084 p1085 q1085;have hw1085_0:=hx1085_0;cases e1085
            replace hx1085_0:=(HB.out.cell (World.block_lt_of_cell? w _ hx1085_0)).trans hx1085_0;replace p1085:=eq_true p1085;replace q1085:=eq_true q1085;refine start_ (n:=29) (S:=fun w'=>w'.cell? ⟨gb1078,0,none⟩ = some (.int .i64 a0_0) ∧ w'.cell? ⟨gb1078,1,none⟩ = some (.slice (some ad1085) l0_1.length c0_1) ∧ w'.cell? (ad1085.add (t1084).toNat) = some (.bool (rdOf false l0_1 t1084))) (ds:=[]) (mA 29 0) kR rfl rfl ⟨(blk_cell BK1078.out 0).trans rfl,(blk_cell BK1078.out 1).trans rfl,((HB.out.cell (World.block_lt_of_cell? w _ hw1085_0)).trans hw1085_0)⟩ (fun hHeld=>?_);refine with_tabW impl_areTraded.tab5 impl_areTraded.bits5 (fun HT_ HW_=>?_)
            generalize wr.drew = w33 at HO_8 BK1078 HB hx1085_0 hHeld ⊢
            refine pure_ (i:=0) (N:=some 19) (v:=?_) (a':=?_) (mA 29 1) rfl rfl (any_of HT_.out kR) (fun _ _ _ h=>h) (Or.inl ⟨by rfl,?_⟩) ?_ ?_;rotate_left
            ·intro w';go_simp
             with_reducible rfl
            rotate_left
            ·simp only [Act.put,sA,sZ,sS,i64_w,i32_w];rfl
            refine pure_ (i:=1) (N:=some 20) (v:=?_) (a':=?_) (mA 29 3) rfl rfl (any_of HT_.out kR) (fun _ _ _ h=>h) (Or.inl ⟨by rfl,?_⟩) ?_ ?_;rotate_left
            ·intro w';go_simp
             with_reducible rfl
            rotate_left
            ·simp only [Act.put,sA,sZ,sS,i64_w,i32_w];rfl
            refine take_ (i:=2) (N:=some 21) (v:=?_) (a':=?_) (mA 29 7) rfl rfl (take_ofW HT_.out HW_.out kR) (fun _ _ _ h=>h) (Or.inl ⟨by rfl,?_⟩) hHeld ?_ ?_;rotate_left
            ·rintro w' ⟨s0,s1,s2⟩
             go_simp
             with_reducible rfl
            rotate_left
            ·simp only [Act.put,sA,sZ,sS,i64_w,i32_w];rfl
            refine one_ (i:=3) (N:=some 22) (mA 29 15) rfl rfl (one_of HT_.out kR) (by decide) (fun K hK=>?_);refine goes_ Try.func176 kR rfl #[.slice A1082_0 (rd_LI l1 x14_1).length c1082_0,.int .i64 a0_0] (by rfl) rfl rfl mq ?_
            with_reducible refine (impl_isSet.calls k1 _ _ (rd_LI l1 x14_1) a0_0 true _ ?side1 ?side2 A10.out).mono ?_
            (case side1=>exact qcs HR1082_0.out HB.out)
            (case side2=>exact HC1082_0.out)
            rintro e w34 ⟨rfl,hb⟩
            refine ⟨_,rfl,?_⟩;have n0_:=aM (Kd.R_below (qra HO_8.out) hb);have n1_:=aM (blk_below (g:=gb1078) (o:=.cells #[.int .i64 a0_0,.slice (some ad1085) l0_1.length c0_1] 94 (0,0)) bk hb);have n2_:=aM (below_step bw hb);clear HO_8;clear BK1078;clear HB;have HO_8:=n0_;have BK1078:=n1_;have HB:=n2_;clear n0_ n1_ n2_;(try clear hb)
            (try clear hb2)
            (try clear hk)
            (try clear hi)
            refine hK.out _ _ ⟨(blk_cell BK1078.out 0).trans rfl,(blk_cell BK1078.out 1).trans rfl,((HB.out.cell (World.block_lt_of_cell? w _ hw1085_0)).trans hw1085_0)⟩ (fun hHeld=>?_);clear hK K;refine norm_ (a':=?_) ?_ ?_;rotate_left
            ·show Act.put _ (some 22) _ = _;simp only [Act.put,sA,sZ,sS,i64_w,i32_w];rfl
            refine pure_ (i:=4) (N:=some 23) (v:=?_) (a':=?_) (mA 29 31) rfl rfl (any_of HT_.out kR) (fun _ _ _ h=>h) (Or.inl ⟨by rfl,?_⟩) ?_ ?_;rotate_left
            ·intro w';go_simp
             with_reducible rfl
            rotate_left
            ·simp only [Act.put,sA,sZ,sS,i64_w,i32_w];rfl
            refine pure_ (i:=5) (N:=some 24) (v:=?_) (a':=?_) (mA 29 63) rfl rfl (any_of HT_.out kR) (fun _ _ _ h=>h) (Or.inl ⟨by rfl,?_⟩) ?_ ?_;rotate_left
            ·intro w';go_simp
             with_reducible rfl
            rotate_left
            ·simp only [Act.put,sA,sZ,sS,i64_w,i32_w];rfl
            refine pure_ (i:=6) (N:=some 25) (v:=?_) (a':=?_) (mA 29 127) rfl rfl (any_of HT_.out kR) (fun _ _ _ h=>h) (Or.inl ⟨by rfl,?_⟩) ?_ ?_;rotate_left
            ·intro w';go_simp
             with_reducible rfl
            rotate_left
            ·simp only [Act.put,sA,sZ,sS,i64_w,i32_w];rfl
            refine pure_ (i:=8) (N:=some 27) (v:=?_) (a':=?_) (mA 29 383) rfl rfl (any_of HT_.out kR) (fun _ _ _ h=>h) (Or.inl ⟨by rfl,?_⟩) ?_ ?_;rotate_left
            ·intro w';go_simp
             with_reducible rfl
            rotate_left
            ·simp only [Act.put,sA,sZ,sS,i64_w,i32_w];rfl
            refine pure_ (i:=12) (N:=some 31) (v:=?_) (a':=?_) (mA 29 4479) rfl rfl (any_of HT_.out kR) (fun _ _ _ h=>h) (Or.inl ⟨by rfl,?_⟩) ?_ ?_;rotate_left
            ·intro w';go_simp
             with_reducible rfl
            rotate_left
            ·simp only [Act.put,sA,sZ,sS,i64_w,i32_w];rfl
            refine take_ (i:=7) (N:=some 26) (v:=?_) (a':=?_) (mA 29 4607) rfl rfl (take_ofW HT_.out HW_.out kR) (fun _ _ _ h=>h) (Or.inl ⟨by rfl,?_⟩) hHeld ?_ ?_;rotate_left
            ·rintro w' ⟨s0,s1,s2⟩
             go_simp
             with_reducible rfl
            rotate_left
            ·simp only [Act.put,sA,sZ,sS,i64_w,i32_w];rfl
            refine one_ (i:=9) (N:=some 28) (mA 29 5119) rfl rfl (one_of HT_.out kR) (by decide) (fun K hK=>?_);refine goes_ Try.func170 kR rfl #[.slice A1082_0 (rd_LI l1 x14_1).length c1082_0] (by rfl) rfl rfl mq ?_
            with_reducible refine (impl_maskOf.calls k1 _ _ (rd_LI l1 x14_1) t1084 _ ?side1 ?side2 A12.out).mono ?_
            (case side1=>exact qcs HR1082_0.out HB.out)
            (case side2=>exact HC1082_0.out)
            rintro e w' ⟨rfl,⟨nd,rfl⟩⟩
            refine ⟨_,rfl,?_⟩;refine hK.out _ _ ⟨(blk_cell BK1078.out 0).trans rfl,(blk_cell BK1078.out 1).trans rfl,((HB.out.cell (World.block_lt_of_cell? w _ hw1085_0)).trans hw1085_0)⟩ (fun hHeld=>?_);clear hK K;refine norm_ (a':=?_) ?_ ?_;rotate_left
            ·show Act.put _ (some 28) _ = _;simp only [Act.put,sA,sZ,sS,i64_w,i32_w];rfl
            refine pure_ (i:=10) (N:=some 29) (v:=?_) (a':=?_) (mA 29 6143) rfl rfl (any_of HT_.out kR) (fun _ _ _ h=>h) (Or.inl ⟨by rfl,?_⟩) ?_ ?_;rotate_left
            ·intro w';go_simp
             with_reducible rfl
            rotate_left
            ·simp only [Act.put,sA,sZ,sS,i64_w,i32_w];rfl
            refine take_ (i:=11) (N:=some 30) (v:=?_) (a':=?_) (mA 29 8191) rfl rfl (take_ofW HT_.out HW_.out kR) (fun _ _ _ h=>h) (Or.inl ⟨by rfl,?_⟩) hHeld ?_ ?_;rotate_left
            ·rintro w' ⟨s0,s1,s2⟩
             go_simp
             with_reducible rfl
            rotate_left
            ·simp only [Act.put,sA,sZ,sS,i64_w,i32_w];rfl
            refine pure_ (i:=13) (N:=some 32) (v:=?_) (a':=?_) (mA 29 16383) rfl rfl (any_of HT_.out kR) (fun _ _ _ h=>h) (Or.inl ⟨by rfl,?_⟩) ?_ ?_;rotate_left
            ·intro w';go_simp
             with_reducible rfl
            rotate_left
            ·simp only [Act.put,sA,sZ,sS,i64_w,i32_w];rfl
            refine pure_ (i:=14) (N:=some 33) (v:=?_) (a':=?_) (mA 29 32767) rfl rfl (any_of HT_.out kR) (fun _ _ _ h=>h) (Or.inl ⟨by rfl,?_⟩) ?_ ?_;rotate_left
            ·intro w';go_simp
             with_reducible rfl
            rotate_left
            ·simp only [Act.put,sA,sZ,sS,i64_w,i32_w];rfl
            refine pure_ (i:=15) (N:=some 34) (v:=?_) (a':=?_) (mA 29 65535) rfl rfl (any_of HT_.out kR) (fun _ _ _ h=>h) (Or.inl ⟨by rfl,?_⟩) ?_ ?_;rotate_left
            ·intro w';go_simp
             with_reducible rfl
            rotate_left
            ·simp only [Act.put,sA,sZ,sS,i64_w,i32_w];rfl
            refine pure_ (i:=16) (N:=some 35) (v:=?_) (a':=?_) (mA 29 131071) rfl rfl (any_of HT_.out kR) (fun _ _ _ h=>h) (Or.inl ⟨by rfl,?_⟩) ?_ ?_;rotate_left
            ·intro w';go_simp
             with_reducible rfl
            rotate_left
            ·simp only [Act.put,sA,sZ,sS,i64_w,i32_w];rfl
            refine pure_ (i:=17) (N:=some 36) (v:=?_) (a':=?_) (mA 29 262143) rfl rfl (any_of HT_.out kR) (fun _ _ _ h=>h) (Or.inl ⟨by rfl,?_⟩) ?_ ?_;rotate_left
            ·intro w';go_simp
             with_reducible rfl
            rotate_left
            ·simp only [Act.put,sA,sZ,sS,i64_w,i32_w];rfl
            refine pure_ (i:=18) (N:=some 37) (v:=?_) (a':=?_) (mA 29 524287) rfl rfl (any_of HT_.out kR) (fun _ _ _ h=>h) (Or.inl ⟨by rfl,?_⟩) ?_ ?_;rotate_left
            ·intro w';go_simp
             with_reducible rfl
            rotate_left
            ·simp only [Act.put,sA,sZ,sS,i64_w,i32_w];rfl
            refine pure_ (i:=19) (N:=some 38) (v:=undef) (a':=?_) (mA 29 1048575) rfl rfl (any_of HT_.out kR) (fun _ _ _ h=>h) (Or.inr ⟨by rfl,rfl⟩) ?_ ?_;rotate_left
            ·simp only [Act.put,sA,sZ,sS,i64_w,i32_w];rfl
            refine pure_ (i:=20) (N:=some 39) (v:=undef) (a':=?_) (mA 29 2097151) rfl rfl (any_of HT_.out kR) (fun _ _ _ h=>h) (Or.inr ⟨by rfl,rfl⟩) ?_ ?_;rotate_left
            ·simp only [Act.put,sA,sZ,sS,i64_w,i32_w];rfl
            refine pure_ (i:=21) (N:=some 40) (v:=undef) (a':=?_) (mA 29 4194303) rfl rfl (any_of HT_.out kR) (fun _ _ _ h=>h) (Or.inr ⟨by rfl,rfl⟩) ?_ ?_;rotate_left
            ·simp only [Act.put,sA,sZ,sS,i64_w,i32_w];rfl
            refine pure_ (i:=22) (N:=some 41) (v:=undef) (a':=?_) (mA 29 8388607) rfl rfl (any_of HT_.out kR) (fun _ _ _ h=>h) (Or.inr ⟨by rfl,rfl⟩) ?_ ?_;rotate_left
            ·simp only [Act.put,sA,sZ,sS,i64_w,i32_w];rfl
            refine pure_ (i:=23) (N:=some 42) (v:=undef) (a':=?_) (mA 29 16777215) rfl rfl (any_of HT_.out kR) (fun _ _ _ h=>h) (Or.inr ⟨by rfl,rfl⟩) ?_ ?_;rotate_left
            ·simp only [Act.put,sA,sZ,sS,i64_w,i32_w];rfl
            refine pure_ (i:=24) (N:=some 43) (v:=undef) (a':=?_) (mA 29 33554431) rfl rfl (any_of HT_.out kR) (fun _ _ _ h=>h) (Or.inr ⟨by rfl,rfl⟩) ?_ ?_;rotate_left
            ·simp only [Act.put,sA,sZ,sS,i64_w,i32_w];rfl
            refine pure_ (i:=25) (N:=some 44) (v:=undef) (a':=?_) (mA 29 67108863) rfl rfl (any_of HT_.out kR) (fun _ _ _ h=>h) (Or.inr ⟨by rfl,rfl⟩) ?_ ?_;rotate_left
            ·simp only [Act.put,sA,sZ,sS,i64_w,i32_w];rfl
            refine pure_ (i:=26) (N:=some 45) (v:=undef) (a':=?_) (mA 29 134217727) rfl rfl (any_of HT_.out kR) (fun _ _ _ h=>h) (Or.inr ⟨by rfl,rfl⟩) ?_ ?_;rotate_left
            ·simp only [Act.put,sA,sZ,sS,i64_w,i32_w];rfl
            refine pure_ (i:=27) (N:=some 46) (v:=?_) (a':=?_) (mA 29 268435455) rfl rfl (any_of HT_.out kR) (fun _ _ _ h=>h) (Or.inl ⟨by rfl,?_⟩) ?_ ?_;rotate_left
            ·intro w';go_simp
             with_reducible rfl
            rotate_left
            ·simp only [Act.put,sA,sZ,sS,i64_w,i32_w];rfl
            refine pure_ (i:=28) (N:=some 47) (v:=?_) (a':=?_) (mA 29 536870911) rfl rfl (any_of HT_.out kR) (fun _ _ _ h=>h) (Or.inl ⟨by rfl,?_⟩) ?_ ?_;rotate_left
            ·intro w';go_simp
             with_reducible rfl
            rotate_left
            ·simp only [Act.put,sA,sZ,sS,i64_w,i32_w];rfl
            refine done_ (done_of HT_.out kR) ?_
            try go_wp2_with (first|((with_reducible refine gate_callee (f:=170) rfl ?_);refine goesL_ (some 50) rfl rfl Try.func170 kR rfl #[.slice A1082_0 (rd_LI l1 x14_1).length c1082_0] rfl mq ?_;(with_reducible refine (impl_maskOf.calls k1 _ _ (rd_LI l1 x14_1) t1084 _ ?side1 ?side2 A31.out).mono ?_);(case side1=>repeat (first|exact (Kd.C_below HR1082_0.out bw)|(with_reducible refine Kd.C_alloc ?_ _)|(with_reducible refine Kd.C_drewN ?_ _)|(with_reducible refine Kd.C_drew ?_)));(case side2=>exact HC1082_0.out);rintro e w' ⟨rfl,⟨nd,rfl⟩⟩;refine ⟨_,rfl,?_⟩)|((with_reducible refine gate_builtin (b:=.append) (xs:=#[.tmp 48,.tmp 51]) rfl ?_);at_builtin;refine Kd.R_append (Kd.int .i64) (w0:=w) w.heap.size rfl (.tmp 48) (.tmp 51) 22 3 (.int .i64 0) 8 rfl Try.underlying22 info3 rfl (by decide) (by omega) u8 x8_1 t1084 [.int .i64 t1084] (fun _=>True) (fun _=>False) rfl rfl ?aP (fun _ hk=>hk.elim) ?aF ?aO ?aB ?aS ?aL ?_;(case aP=>exact rfl);(case aB=>exact bw);(case aF=>exact (fun _ _=>trivial));(case aO=>exact (qra HO_8.out));(case aS=>exact (below_size bw));(case aL=>have:=LMc32.out;omega);intro v1094 w35 ho hb hg hat;rw [← Ny1093.out] at ho;have n0_:=aM (blk_grown (g:=gb1078) (o:=.cells #[.int .i64 a0_0,.slice (some ad1085) l0_1.length c0_1] 94 (0,0)) bk hg (Kd.R_ne HO_8.out BK1078.out (by decide)));have n1_:=aM (hb);have n2_:=aM (ho);clear BK1078;clear HB;clear HO_8;have BK1078:=n0_;have HB:=n1_;have HO1095:=n2_;clear n0_ n1_ n2_;clear ho hb hg hat))
            go_roundg k1
            case measure=>have:=HK1.out;omega
            case rel=>exact ⟨(y1093),(wrap64 (x14_1 + 1)),qrs,H',⟨by have:=HK1.out;omega⟩,⟨qra HO1095.out⟩,⟨by (with_reducible repeat (first|refine blk_drewN ?_ _|refine blk_drew ?_|refine blk_alloc ?_ _));exact BK1078.out⟩,⟨by exact bw⟩⟩
           ·rw [if_neg c32] at H;exact absurd H (by simp)
        ·rw [if_neg c14] at H;exact absurd H (by simp)
       ·rw [if_neg c13] at H;exact absurd H (by simp)
      ·replace c11:=Bool.eq_false_iff.mpr c11;subst c11;have H1:(some (([]:List Int),false)) = some (r1,r2):=by rw [if_neg (show ¬ (false = true) by decide)] at H;exact H
       clear H;have H:=H1;clear H1;simp only [Option.some.injEq,Prod.mk.injEq] at H;obtain ⟨rfl,rfl⟩:=H;have p1082:0 ≤ (x14_1:Int):=of_decide_eq_true ab;have q1082:x14_1 < (l1.length:Int):=of_decide_eq_true ab;obtain ⟨ad1082,A1082_0,c1082_0,e1082,hx1082_0,hl1082_0,hi1082_0⟩:=at_LI HR1.out x14_1 p1082 q1082;cases e1082
       replace hx1082_0:=(HB.out.cell (World.block_lt_of_cell? w _ hx1082_0)).trans hx1082_0;have HR1082_0:=aM hi1082_0;have HC1082_0:=aM hl1082_0;clear hi1082_0 hl1082_0;replace p1082:=eq_true p1082;replace q1082:=eq_true q1082
       try go_wp2
       have n0_:=aM (Kd.R_drew HO_8.out);have n1_:=aM (blk_drew BK1078.out);have n2_:=aM (below_drew1 HB.out);clear HO_8;clear BK1078;clear HB;have HO_8:=n0_;have BK1078:=n1_;have HB:=n2_;clear n0_ n1_ n2_;refine start_ (n:=29) (S:=fun w'=>w'.cell? ⟨gb1078,0,none⟩ = some (.int .i64 a0_0) ∧ w'.cell? ⟨gb1078,1,none⟩ = some (.slice A0_1 l0_1.length c0_1)) (ds:=[]) (mA 29 0) kR rfl rfl ⟨(blk_cell BK1078.out 0).trans rfl,(blk_cell BK1078.out 1).trans rfl⟩ (fun hHeld=>?_);refine with_tabW impl_areTraded.tab5 impl_areTraded.bits5 (fun HT_ HW_=>?_)
       generalize wr.drew = w36 at HO_8 BK1078 HB hHeld ⊢
       refine pure_ (i:=0) (N:=some 19) (v:=?_) (a':=?_) (mA 29 1) rfl rfl (any_of HT_.out kR) (fun _ _ _ h=>h) (Or.inl ⟨by rfl,?_⟩) ?_ ?_;rotate_left
       ·intro w';go_simp
        with_reducible rfl
       rotate_left
       ·simp only [Act.put,sA,sZ,sS,i64_w,i32_w];rfl
       refine pure_ (i:=1) (N:=some 20) (v:=?_) (a':=?_) (mA 29 3) rfl rfl (any_of HT_.out kR) (fun _ _ _ h=>h) (Or.inl ⟨by rfl,?_⟩) ?_ ?_;rotate_left
       ·intro w';go_simp
        with_reducible rfl
       rotate_left
       ·simp only [Act.put,sA,sZ,sS,i64_w,i32_w];rfl
       refine take_ (i:=2) (N:=some 21) (v:=?_) (a':=?_) (mA 29 7) rfl rfl (take_ofW HT_.out HW_.out kR) (fun _ _ _ h=>h) (Or.inl ⟨by rfl,?_⟩) hHeld ?_ ?_;rotate_left
       ·rintro w' ⟨s0,s1⟩
        go_simp
        with_reducible rfl
       rotate_left
       ·simp only [Act.put,sA,sZ,sS,i64_w,i32_w];rfl
       refine one_ (i:=3) (N:=some 22) (mA 29 15) rfl rfl (one_of HT_.out kR) (by decide) (fun K hK=>?_);refine goes_ Try.func176 kR rfl #[.slice A1082_0 (rd_LI l1 x14_1).length c1082_0,.int .i64 a0_0] (by rfl) rfl rfl mq ?_
       with_reducible refine (impl_isSet.calls k1 _ _ (rd_LI l1 x14_1) a0_0 false _ ?side1 ?side2 A10.out).mono ?_
       (case side1=>exact qcs HR1082_0.out HB.out)
       (case side2=>exact HC1082_0.out)
       rintro e w37 ⟨rfl,hb⟩
       refine ⟨_,rfl,?_⟩;have n0_:=aM (Kd.R_below (qra HO_8.out) hb);have n1_:=aM (blk_below (g:=gb1078) (o:=.cells #[.int .i64 a0_0,.slice A0_1 l0_1.length c0_1] 94 (0,0)) bk hb);have n2_:=aM (below_step bw hb);clear HO_8;clear BK1078;clear HB;have HO_8:=n0_;have BK1078:=n1_;have HB:=n2_;clear n0_ n1_ n2_;(try clear hb)
       (try clear hb2)
       (try clear hk)
       (try clear hi)
       refine hK.out _ _ ⟨(blk_cell BK1078.out 0).trans rfl,(blk_cell BK1078.out 1).trans rfl⟩ (fun hHeld=>?_);clear hK K;refine norm_ (a':=?_) ?_ ?_;rotate_left
       ·show Act.put _ (some 22) _ = _;simp only [Act.put,sA,sZ,sS,i64_w,i32_w];rfl
       refine pure_ (i:=4) (N:=some 23) (v:=?_) (a':=?_) (mA 29 31) rfl rfl (any_of HT_.out kR) (fun _ _ _ h=>h) (Or.inl ⟨by rfl,?_⟩) ?_ ?_;rotate_left
       ·intro w';go_simp
        with_reducible rfl
       rotate_left
       ·simp only [Act.put,sA,sZ,sS,i64_w,i32_w];rfl
       refine pure_ (i:=5) (N:=some 24) (v:=?_) (a':=?_) (mA 29 63) rfl rfl (any_of HT_.out kR) (fun _ _ _ h=>h) (Or.inl ⟨by rfl,?_⟩) ?_ ?_;rotate_left
       ·intro w';go_simp
        with_reducible rfl
       rotate_left
       ·simp only [Act.put,sA,sZ,sS,i64_w,i32_w];rfl
       refine pure_ (i:=6) (N:=some 25) (v:=undef) (a':=?_) (mA 29 127) rfl rfl (any_of HT_.out kR) (fun _ _ _ h=>h) (Or.inr ⟨by rfl,rfl⟩) ?_ ?_;rotate_left
       ·simp only [Act.put,sA,sZ,sS,i64_w,i32_w];rfl
       refine pure_ (i:=7) (N:=some 26) (v:=undef) (a':=?_) (mA 29 255) rfl rfl (any_of HT_.out kR) (fun _ _ _ h=>h) (Or.inr ⟨by rfl,rfl⟩) ?_ ?_;rotate_left
       ·simp only [Act.put,sA,sZ,sS,i64_w,i32_w];rfl
       refine pure_ (i:=8) (N:=some 27) (v:=undef) (a':=?_) (mA 29 511) rfl rfl (any_of HT_.out kR) (fun _ _ _ h=>h) (Or.inr ⟨by rfl,rfl⟩) ?_ ?_;rotate_left
       ·simp only [Act.put,sA,sZ,sS,i64_w,i32_w];rfl
       refine pure_ (i:=9) (N:=some 28) (v:=undef) (a':=?_) (mA 29 1023) rfl rfl (any_of HT_.out kR) (fun _ _ _ h=>h) (Or.inr ⟨by rfl,rfl⟩) ?_ ?_;rotate_left
       ·simp only [Act.put,sA,sZ,sS,i64_w,i32_w];rfl
       refine pure_ (i:=10) (N:=some 29) (v:=undef) (a':=?_) (mA 29 2047) rfl rfl (any_of HT_.out kR) (fun _ _ _ h=>h) (Or.inr ⟨by rfl,rfl⟩) ?_ ?_;rotate_left
       ·simp only [Act.put,sA,sZ,sS,i64_w,i32_w];rfl
       refine pure_ (i:=11) (N:=some 30) (v:=undef) (a':=?_) (mA 29 4095) rfl rfl (any_of HT_.out kR) (fun _ _ _ h=>h) (Or.inr ⟨by rfl,rfl⟩) ?_ ?_;rotate_left
       ·simp only [Act.put,sA,sZ,sS,i64_w,i32_w];rfl
       refine pure_ (i:=12) (N:=some 31) (v:=undef) (a':=?_) (mA 29 8191) rfl rfl (any_of HT_.out kR) (fun _ _ _ h=>h) (Or.inr ⟨by rfl,rfl⟩) ?_ ?_;rotate_left
       ·simp only [Act.put,sA,sZ,sS,i64_w,i32_w];rfl
       refine pure_ (i:=13) (N:=some 32) (v:=undef) (a':=?_) (mA 29 16383) rfl rfl (any_of HT_.out kR) (fun _ _ _ h=>h) (Or.inr ⟨by rfl,rfl⟩) ?_ ?_;rotate_left
       ·simp only [Act.put,sA,sZ,sS,i64_w,i32_w];rfl
       refine pure_ (i:=14) (N:=some 33) (v:=?_) (a':=?_) (mA 29 32767) rfl rfl (any_of HT_.out kR) (fun _ _ _ h=>h) (Or.inl ⟨by rfl,?_⟩) ?_ ?_;rotate_left
       ·intro w';go_simp
        with_reducible rfl
       rotate_left
       ·simp only [Act.put,sA,sZ,sS,i64_w,i32_w];rfl
       refine pure_ (i:=15) (N:=some 34) (v:=?_) (a':=?_) (mA 29 65535) rfl rfl (any_of HT_.out kR) (fun _ _ _ h=>h) (Or.inl ⟨by rfl,?_⟩) ?_ ?_;rotate_left
       ·intro w';go_simp
        with_reducible rfl
       rotate_left
       ·simp only [Act.put,sA,sZ,sS,i64_w,i32_w];rfl
       refine pure_ (i:=16) (N:=some 35) (v:=undef) (a':=?_) (mA 29 131071) rfl rfl (any_of HT_.out kR) (fun _ _ _ h=>h) (Or.inr ⟨by rfl,rfl⟩) ?_ ?_;rotate_left
       ·simp only [Act.put,sA,sZ,sS,i64_w,i32_w];rfl
       refine pure_ (i:=17) (N:=some 36) (v:=undef) (a':=?_) (mA 29 262143) rfl rfl (any_of HT_.out kR) (fun _ _ _ h=>h) (Or.inr ⟨by rfl,rfl⟩) ?_ ?_;rotate_left
       ·simp only [Act.put,sA,sZ,sS,i64_w,i32_w];rfl
       refine pure_ (i:=18) (N:=some 37) (v:=undef) (a':=?_) (mA 29 524287) rfl rfl (any_of HT_.out kR) (fun _ _ _ h=>h) (Or.inr ⟨by rfl,rfl⟩) ?_ ?_;rotate_left
       ·simp only [Act.put,sA,sZ,sS,i64_w,i32_w];rfl
       refine pure_ (i:=19) (N:=some 38) (v:=undef) (a':=?_) (mA 29 1048575) rfl rfl (any_of HT_.out kR) (fun _ _ _ h=>h) (Or.inr ⟨by rfl,rfl⟩) ?_ ?_;rotate_left
       ·simp only [Act.put,sA,sZ,sS,i64_w,i32_w];rfl
       refine pure_ (i:=20) (N:=some 39) (v:=undef) (a':=?_) (mA 29 2097151) rfl rfl (any_of HT_.out kR) (fun _ _ _ h=>h) (Or.inr ⟨by rfl,rfl⟩) ?_ ?_;rotate_left
       ·simp only [Act.put,sA,sZ,sS,i64_w,i32_w];rfl
       refine pure_ (i:=21) (N:=some 40) (v:=undef) (a':=?_) (mA 29 4194303) rfl rfl (any_of HT_.out kR) (fun _ _ _ h=>h) (Or.inr ⟨by rfl,rfl⟩) ?_ ?_;rotate_left
       ·simp only [Act.put,sA,sZ,sS,i64_w,i32_w];rfl
       refine pure_ (i:=22) (N:=some 41) (v:=undef) (a':=?_) (mA 29 8388607) rfl rfl (any_of HT_.out kR) (fun _ _ _ h=>h) (Or.inr ⟨by rfl,rfl⟩) ?_ ?_;rotate_left
       ·simp only [Act.put,sA,sZ,sS,i64_w,i32_w];rfl
       refine pure_ (i:=23) (N:=some 42) (v:=undef) (a':=?_) (mA 29 16777215) rfl rfl (any_of HT_.out kR) (fun _ _ _ h=>h) (Or.inr ⟨by rfl,rfl⟩) ?_ ?_;rotate_left
       ·simp only [Act.put,sA,sZ,sS,i64_w,i32_w];rfl
       refine pure_ (i:=24) (N:=some 43) (v:=undef) (a':=?_) (mA 29 33554431) rfl rfl (any_of HT_.out kR) (fun _ _ _ h=>h) (Or.inr ⟨by rfl,rfl⟩) ?_ ?_;rotate_left
       ·simp only [Act.put,sA,sZ,sS,i64_w,i32_w];rfl
       refine pure_ (i:=25) (N:=some 44) (v:=undef) (a':=?_) (mA 29 67108863) rfl rfl (any_of HT_.out kR) (fun _ _ _ h=>h) (Or.inr ⟨by rfl,rfl⟩) ?_ ?_;rotate_left
       ·simp only [Act.put,sA,sZ,sS,i64_w,i32_w];rfl
       refine pure_ (i:=26) (N:=some 45) (v:=undef) (a':=?_) (mA 29 134217727) rfl rfl (any_of HT_.out kR) (fun _ _ _ h=>h) (Or.inr ⟨by rfl,rfl⟩) ?_ ?_;rotate_left
       ·simp only [Act.put,sA,sZ,sS,i64_w,i32_w];rfl
       refine pure_ (i:=27) (N:=some 46) (v:=undef) (a':=?_) (mA 29 268435455) rfl rfl (any_of HT_.out kR) (fun _ _ _ h=>h) (Or.inr ⟨by rfl,rfl⟩) ?_ ?_;rotate_left
       ·simp only [Act.put,sA,sZ,sS,i64_w,i32_w];rfl
       refine pure_ (i:=28) (N:=some 47) (v:=?_) (a':=?_) (mA 29 536870911) rfl rfl (any_of HT_.out kR) (fun _ _ _ h=>h) (Or.inl ⟨by rfl,?_⟩) ?_ ?_;rotate_left
       ·intro w';go_simp
        with_reducible rfl
       rotate_left
       ·simp only [Act.put,sA,sZ,sS,i64_w,i32_w];rfl
       refine done_ (done_of HT_.out kR) ?_
       try go_wp2
       go_ret2
       exact ⟨_,by first|rfl|(simp [errW_none,errW_some] <;> rfl)|(simp [*,errW_none,errW_some] <;> rfl),by first|exact Kd.R_nil _ _ _ _ _|exact Kd.N_nil _ _ _ _ _|exact Kd.V_nil _ _ _ _ _|exact Kd.Q_nil _ _ _ _ _|exact Kd.S_nil _ _ _ _ _,by exact bw⟩
     ·rw [if_neg c9] at H;exact absurd H (by simp)
    ·rw [if_neg c8] at H;exact absurd H (by simp)
   ·rw [if_neg c7] at H;have c7b0:decide (x14_1 < (l1.length:Int)) = false:=decide_eq_false c7;clear c7;simp only [Option.some.injEq,Prod.mk.injEq] at H;obtain ⟨rfl,rfl⟩:=H;go_wp2
    go_ret2
    exact ⟨_,by first|rfl|(simp [errW_none,errW_some] <;> rfl)|(simp [*,errW_none,errW_some] <;> rfl),by (with_reducible repeat (first|apply Kd.R_alloc|apply Kd.R_drewN|apply Kd.R_drew));exact HO_8.out,by exact bw⟩


/-! ### impl_setOf: function 177 -/
def impl_setOf.l0:Nat → Int → List Int → Int → Option (List Int)
 | 0,_,_,_=>none
 | k + 1,x0,x3,x4=>if 0 ≤ x4 then (if (shr .i64 x0 x4) > 0 then (if (Go.bits .and .i64 (shr .i64 x0 x4) 1) = 1 then (if x3.length < 17592186044416 then (impl_setOf.l0 k x0 (x3 ++ [x4]) (wrap64 (x4 + 1))) else (none)) else (impl_setOf.l0 k x0 x3 (wrap64 (x4 + 1)))) else (some x3)) else (none)
def impl_setOf.f (k:Nat) (a0:Int):Option (List Int):=impl_setOf.l0 k a0 (([]:List Int)) 0
theorem impl_setOf.mono_l:∀ k,(∀ y0 y1 y2,LeO (impl_setOf.l0 k y0 y1 y2) (impl_setOf.l0 (k + 1) y0 y1 y2))
 | 0=>fun _ _ _ r h=>by simp [impl_setOf.l0] at h
 | k + 1=>by
  have ih0:=impl_setOf.mono_l k
  ·intro y0 y1 y2;unfold impl_setOf.l0
   repeat' with_reducible first|exact ih0 _ _ _|exact LeO.refl _|exact LeO.none _|refine LeO.ite ?_ ?_|refine LeO.bind ?_ (fun _=>?_)
theorem impl_setOf.mono:∀ a0 k,LeO (impl_setOf.f k a0) (impl_setOf.f (k + 1) a0):=by
 intro a0 k;have ih0:=impl_setOf.mono_l k;unfold impl_setOf.f
 repeat' with_reducible first|exact ih0 _ _ _|exact LeO.refl _|exact LeO.none _|refine LeO.ite ?_ ?_|refine LeO.bind ?_ (fun _=>?_)
set_option maxHeartbeats 8000000 in
set_option maxRecDepth 100000 in
theorem impl_setOf.calls (k:Nat) (a0:Int) (r:List Int) (w:World) (h:impl_setOf.f k a0 = some r) :
  Calls Try.prog 177 #[.int .i64 a0] w fun e w'=>∃ v0_:Value,e = .returned (v0_) ∧ Kd.R (Kd.int .i64) 3 w' w.heap.size (fun _=>True) v0_ r ∧ Below w.heap.size w w':=by
 have HB:=aM (Below.refl w.heap.size w);have H:(impl_setOf.l0 k a0 (([]:List Int)) 0) = some r:=h;clear h;obtain ⟨y1096,hy1096⟩:∃ y_:List Int,y_ = (([]:List Int)):=⟨_,rfl⟩;replace H:(impl_setOf.l0 k a0 y1096 0) = some r:=by first|(rw [hy1096];with_reducible exact H)|(have H2_:=(Option.bind_some _ _).symm.trans H;rw [hy1096];with_reducible exact H2_)|(have H2_:=(Option.bind_some _ _).symm.trans H;with_reducible exact H2_)|with_reducible exact H|(rw [hy1096];exact H)|exact H
 have Ny1096:=aM hy1096;clear hy1096;have H':=aM H;clear H;go_enter Try.func177,Try.ntmps177;go_wp2_with (first|((with_reducible refine gate_dst (N:=5) rfl ?_);refine Kd.R_lit (Kd.int .i64) _ 3 ?hg (N:=5) ?hd (xs:=([]:List Int)) (inner:=[]) (ok:=fun _=>True) (okp:=fun _=>True) ?hr ?hp (fun _ hk=>hk) trivial (Below.refl _ _) (Nat.le_refl _) (by simp) ?_;(case hd=>rfl);(case hg=>rfl);(case hr=>first|(go_simp;done)|(go_simp;rfl));(case hp=>exact (Reps.none _ _));intro v1097 w2 ho3 hb hg_ hnew_;clear hg_ hnew_;(first|rw [← Ny1096.out] at ho3|(simp only [Int.reduceToNat] at ho3;rw [← Ny1096.out] at ho3));have n0_:=aM (Kd.R_lower ho3 (below_size bw));have n1_:=aM (below_step bw hb);clear HB;have HO1098:=n0_;have HB:=n1_;clear n0_ n1_;clear hb ho3))
 go_loopg [3,4] k (fun kq v3 v4 w'=>∃ (x3_1:List Int) (x4_1:Int),v4 = .int .i64 x4_1 ∧ Aside0 (impl_setOf.l0 kq a0 x3_1 x4_1 = some r) ∧ Aside0 (kq ≤ k) ∧ Aside0 (Kd.R (Kd.int .i64) 3 w' w.heap.size (fun _=>True) v3 x3_1) ∧ Aside0 (Below w.heap.size w w'))
 case atStart=>exact ⟨(y1096),(0),qrs,H',⟨Nat.le_refl _⟩,⟨qra HO1098.out⟩,⟨by exact bw⟩⟩
 case round =>
  clear H';(try clear c1);(try clear p2)
  obtain ⟨x3_1,x4_1,rfl,HA,HK1,HO_3,HB⟩:=hrel
  cases gk with
  | zero=>exact absurd HA.out (by simp [impl_setOf.l0])
  | succ k1 =>
   have H:=HA.out;clear HA;simp only [impl_setOf.l0] at H;by_cases c4:0 ≤ x4_1
   ·rw [if_pos c4] at H;have c4b0:=eq_true c4;have c4b1:decide (0 ≤ x4_1) = true:=decide_eq_true c4;clear c4;obtain ⟨ji5,hji5⟩:∃ j_:Int,(shr .i64 a0 x4_1) = j_:=⟨_,rfl⟩;replace H:(if (ji5) > 0 then (if (Go.bits .and .i64 (ji5) 1) = 1 then (if x3_1.length < 17592186044416 then (impl_setOf.l0 k1 a0 (x3_1 ++ [x4_1]) (wrap64 (x4_1 + 1))) else (none)) else (impl_setOf.l0 k1 a0 x3_1 (wrap64 (x4_1 + 1)))) else (some x3_1)) = some r:=by first|(rw [hji5] at H;exact H)|(simp only [hji5] at H ⊢;exact H)
    have hji5_:(a0 / 2 ^ min x4_1.toNat 64) = ji5:=hji5;have hji5z:x4_1 ≤ 64 → (a0 / 2 ^ x4_1.toNat) = ji5:=shr_small hji5;by_cases c6:(ji5) > 0
    ·rw [if_pos c6] at H;have c6b0:decide (0 < (ji5)) = true:=decide_eq_true c6;clear c6;have c7b0:=eq_true (of_decide_eq_true ab:0 ≤ x4_1);by_cases c8:(Go.bits .and .i64 (ji5) 1) = 1
     ·rw [if_pos c8] at H;have c8b0:((Go.bits .and .i64 (ji5) 1) == 1) = true:=beq_iff_eq.mpr c8;have c8b1:((Go.bits .and .i64 (ji5) 1) != 1) = false:=bne_eq_false_iff_eq.mpr c8;clear c8;by_cases c9:x3_1.length < 17592186044416
      ·rw [if_pos c9] at H;have LMc9:=aM c9;clear c9;obtain ⟨y1099,hy1099⟩:∃ y_:List Int,y_ = (x3_1 ++ [x4_1]):=⟨_,rfl⟩;replace H:(impl_setOf.l0 k1 a0 y1099 (wrap64 (x4_1 + 1))) = some r:=by first|(rw [hy1099];with_reducible exact H)|(have H2_:=(Option.bind_some _ _).symm.trans H;rw [hy1099];with_reducible exact H2_)|(have H2_:=(Option.bind_some _ _).symm.trans H;with_reducible exact H2_)|with_reducible exact H|(rw [hy1099];exact H)|exact H
       have Ny1099:=aM hy1099;clear hy1099;have H':=aM H;clear H;go_wp2_with (first|((with_reducible refine gate_builtin (b:=.append) (xs:=#[.tmp 17,.tmp 19]) rfl ?_);at_builtin;refine Kd.R_append (Kd.int .i64) (w0:=w) w.heap.size rfl (.tmp 17) (.tmp 19) 22 3 (.int .i64 0) 8 rfl Try.underlying22 info3 rfl (by decide) (by omega) u3 x3_1 x4_1 [.int .i64 x4_1] (fun _=>True) (fun _=>False) rfl rfl ?aP (fun _ hk=>hk.elim) ?aF ?aO ?aB ?aS ?aL ?_;(case aP=>exact rfl);(case aB=>exact bw);(case aF=>exact (fun _ _=>trivial));(case aO=>exact (qra HO_3.out));(case aS=>exact (below_size bw));(case aL=>have:=LMc9.out;omega);intro v1100 w10 ho hb hg hat;rw [← Ny1099.out] at ho;have n0_:=aM (hb);have n1_:=aM (ho);clear HB;clear HO_3;have HB:=n0_;have HO1101:=n1_;clear n0_ n1_;clear ho hb hg hat))
       go_roundg k1
       case measure=>have:=HK1.out;omega
       case rel=>exact ⟨(y1099),(wrap64 (x4_1 + 1)),qrs,H',⟨by have:=HK1.out;omega⟩,⟨qra HO1101.out⟩,⟨by exact bw⟩⟩
      ·rw [if_neg c9] at H;exact absurd H (by simp)
     ·rw [if_neg c8] at H;have c8b0:((Go.bits .and .i64 (ji5) 1) == 1) = false:=beq_eq_false_iff_ne.mpr c8;have c8b1:((Go.bits .and .i64 (ji5) 1) != 1) = true:=bne_iff_ne.mpr c8;have H':=aM H;clear H;go_wp2
      go_roundg k1
      case measure=>have:=HK1.out;omega
      case rel=>exact ⟨(x3_1),(wrap64 (x4_1 + 1)),qrs,H',⟨by have:=HK1.out;omega⟩,⟨qra HO_3.out⟩,⟨by exact bw⟩⟩
    ·rw [if_neg c6] at H;have c6b0:decide (0 < (ji5)) = false:=decide_eq_false c6;clear c6;obtain rfl:=Option.some.inj H;go_wp2
     go_ret
     exact ⟨_,by first|rfl|(simp [errW_none,errW_some] <;> rfl)|(simp only [← hji5];first|rfl|(simp [errW_none,errW_some] <;> rfl))|(simp [*,errW_none,errW_some] <;> rfl),by (with_reducible repeat (first|apply Kd.R_alloc|apply Kd.R_drewN|apply Kd.R_drew));exact HO_3.out,by exact bw⟩
   ·rw [if_neg c4] at H;exact absurd H (by simp)


def how9 (x : List Int) : Array Value := (x.map (Value.int .i64)).toArray
theorem how9_get (x : List Int) (i : Nat) (h : i < x.length) : (how9 x)[i]? = some (.int .i64 (x.getD i 0)) := by
  simp [how9, List.getElem?_map, List.getElem?_eq_getElem h]
theorem how9_size (x : List Int) : (how9 x).size = x.length := by simp [how9]
theorem how9_set (x : List Int) (i : Nat) (v : Int) : (how9 x).setIfInBounds i (.int .i64 v) = how9 (x.set i v) := by
  simp [how9, List.map_set]
theorem how9_one (x : List Int) : (how9 x).all (·.oneCell') = true := by
  rw [Array.all_eq_true_iff_forall_mem]
  intro u hu
  simp only [how9, List.mem_toArray, List.mem_map] at hu
  obtain ⟨y, _, rfl⟩ := hu
  rfl
def how0 : List Int := [0, 0, 0, 0, 0, 0, 0, 0, 0]
theorem how9_items (d : Nat) (x y : List Int) (w : World) : ∀ is : List Nat, (∀ i ∈ is, i < x.length ∧ i < y.length) → (Op.eqItems (d + 1) 3 1 (how9 x) (how9 y) is).run Try.prog w = .ok (is.all fun i => x.getD i 0 == y.getD i 0) w
  | [], _ => by simp [Op.eqItems]
  | i :: is, h => by
    have ha : ∀ w, (isAgg 3).run Try.prog w = .ok false w := fun w => by kernel_rfl
    obtain ⟨h1, h2⟩ := h i (List.mem_cons_self ..)
    have ih := how9_items d x y w is (fun j hj => h j (List.mem_cons_of_mem _ hj))
    have hp : ∀ z : List Int, i < z.length → (part 3 (how9 z) (i * 1)).run Try.prog w = .ok (.int .i64 (z.getD i 0)) w := fun z hz => by
      rw [Nat.mul_one]
      unfold part
      rw [Sem.run_bind, ha]
      simp only [Result.andThen_ok, Bool.false_eq_true, if_false, how9_get z i hz, Sem.run_pure]
    have he : ∀ a b : Int, (Op.equalIn (d + 1) 3 (.int .i64 a) (.int .i64 b)).run Try.prog w = .ok (a == b) w := fun a b => by simp [Op.equalIn, run_underlying Try.underlying3]
    rw [Op.eqItems, Sem.run_bind, hp x h1, Result.andThen_ok, Sem.run_bind, hp y h2, Result.andThen_ok, Sem.run_bind, he, Result.andThen_ok, List.all_cons]
    cases x.getD i 0 == y.getD i 0
    · rfl
    · rw [Bool.true_and]; exact ih
theorem how9_same {x y : List Int} (hx : x.length = 9) (hy : y.length = 9) : ((List.range 9).all fun i => x.getD i 0 == y.getD i 0) = (x == y) := by
  rw [Bool.eq_iff_iff, List.all_eq_true, beq_iff_eq]
  constructor
  · intro h
    apply List.ext_getElem (by omega)
    intro i h1 h2
    have := h i (List.mem_range.2 (by omega))
    rw [beq_iff_eq, List.getD_eq_getElem?_getD, List.getD_eq_getElem?_getD, List.getElem?_eq_getElem h1, List.getElem?_eq_getElem h2] at this
    exact this
  · rintro rfl i _
    exact beq_self_eq_true _
theorem how9_eql {x y : List Int} (hx : x.length = 9) (hy : y.length = 9) (w : World) : (binOp .eql 125 (.agg (how9 x)) (.agg (how9 y))).run Try.prog w = .ok (.bool (x == y)) w := by
  have hu9 : Try.prog.underlying 125 = some (.array 9 3) := by kernel_rfl
  obtain ⟨i0, hi, _⟩ := Option.map_eq_some_iff.1 info3
  have hc : Try.prog.cellsOf 3 = 1 := by kernel_rfl
  have h : ∀ d : Nat, (Op.equalIn (d + 1 + 1) 125 (.agg (how9 x)) (.agg (how9 y))).run Try.prog w = .ok (x == y) w := fun d => by
    rw [run_equalIn_array w (d + 1) (how9 x) (how9 y) hu9 hi, hc, how9_items d x y w _ (fun i hi => by have := List.mem_range.1 hi; omega), how9_same hx hy]
  simp only [binOp]
  simp [Op.equal, Op.maxDepth, h 9998]
mutual
def impl_howOften.l0 : Nat → List Int → Int → Int → List Int → Option (List Int)
  | 0, _, _, _, _ => none
  | k + 1, x9, x10, x11, x3 => if x11 < x10 then (if 0 ≤ x11 then (if x11 < (x9.length : Int) then ((impl_setOf.f k (rd x9 x11)).bind fun t1104 => (impl_howOften.l1 k x9 x10 x11 t1104 (t1104.length : Int) 0 x3)) else (none)) else (none)) else (some x3)
def impl_howOften.l1 : Nat → List Int → Int → Int → List Int → Int → Int → List Int → Option (List Int)
  | 0, _, _, _, _, _, _, _ => none
  | k + 1, x9, x10, x11, x16, x17, x18, x3 => if x18 < x17 then (if 0 ≤ x18 then (if x18 < (x16.length : Int) then (if 0 ≤ rd x16 x18 ∧ rd x16 x18 < 9 then (impl_howOften.l1 k x9 x10 x11 x16 x17 (wrap64 (x18 + 1)) (x3.set (rd x16 x18).toNat (wrap64 (rd x3 (rd x16 x18) + 1)))) else (none)) else (none)) else (none)) else (impl_howOften.l0 k x9 x10 (wrap64 (x11 + 1)) x3)
end
def impl_howOften.f (k : Nat) (l0 : List Int) : Option (List Int) := impl_howOften.l0 k l0 (l0.length : Int) 0 how0
theorem impl_howOften.mono_l : ∀ k, (∀ y0 y1 y2 y3, LeO (impl_howOften.l0 k y0 y1 y2 y3) (impl_howOften.l0 (k + 1) y0 y1 y2 y3)) ∧ (∀ y0 y1 y2 y3 y4 y5 y6, LeO (impl_howOften.l1 k y0 y1 y2 y3 y4 y5 y6) (impl_howOften.l1 (k + 1) y0 y1 y2 y3 y4 y5 y6))
  | 0 => ⟨fun _ _ _ _ r h => by simp [impl_howOften.l0] at h, fun _ _ _ _ _ _ _ r h => by simp [impl_howOften.l1] at h⟩
  | k + 1 => by
    obtain ⟨ih0, ih1⟩ := impl_howOften.mono_l k
    refine ⟨?_, ?_⟩
    · intro y0 y1 y2 y3
      unfold impl_howOften.l0
      repeat' first
      | (with_reducible exact ih0 _ _ _ _)
      | (with_reducible exact ih1 _ _ _ _ _ _ _)
      | (with_reducible exact impl_setOf.mono _ _)
      | (with_reducible exact LeO.refl _)
      | (with_reducible exact LeO.none _)
      | (with_reducible refine LeO.ite ?_ ?_)
      | (with_reducible refine LeO.bind ?_ (fun _ => ?_))
      | exact ih0 _ _ _ _
      | exact ih1 _ _ _ _ _ _ _
      | exact impl_setOf.mono _ _
      | exact LeO.none _
      | refine LeO.ite ?_ ?_
      | refine LeO.bind ?_ (fun _ => ?_)
    · intro y0 y1 y2 y3 y4 y5 y6
      unfold impl_howOften.l1
      repeat' first
      | (with_reducible exact ih0 _ _ _ _)
      | (with_reducible exact ih1 _ _ _ _ _ _ _)
      | (with_reducible exact impl_setOf.mono _ _)
      | (with_reducible exact LeO.refl _)
      | (with_reducible exact LeO.none _)
      | (with_reducible refine LeO.ite ?_ ?_)
      | (with_reducible refine LeO.bind ?_ (fun _ => ?_))
      | exact ih0 _ _ _ _
      | exact ih1 _ _ _ _ _ _ _
      | exact impl_setOf.mono _ _
      | exact LeO.none _
      | refine LeO.ite ?_ ?_
      | refine LeO.bind ?_ (fun _ => ?_)
theorem impl_howOften.mono : ∀ a0 k, LeO (impl_howOften.f k a0) (impl_howOften.f (k + 1) a0) := by
  intro a0 k
  obtain ⟨ih0, ih1⟩ := impl_howOften.mono_l k
  unfold impl_howOften.f
  repeat' first
      | (with_reducible exact ih0 _ _ _ _)
      | (with_reducible exact ih1 _ _ _ _ _ _ _)
      | (with_reducible exact impl_setOf.mono _ _)
      | (with_reducible exact LeO.refl _)
      | (with_reducible exact LeO.none _)
      | (with_reducible refine LeO.ite ?_ ?_)
      | (with_reducible refine LeO.bind ?_ (fun _ => ?_))
      | exact ih0 _ _ _ _
      | exact ih1 _ _ _ _ _ _ _
      | exact impl_setOf.mono _ _
      | exact LeO.none _
      | refine LeO.ite ?_ ?_
      | refine LeO.bind ?_ (fun _ => ?_)
theorem impl_howOften.len : ∀ k, (∀ y0 y1 y2 y3 r, impl_howOften.l0 k y0 y1 y2 y3 = some r → r.length = y3.length) ∧ (∀ y0 y1 y2 y3 y4 y5 y6 r, impl_howOften.l1 k y0 y1 y2 y3 y4 y5 y6 = some r → r.length = y6.length)
  | 0 => ⟨fun _ _ _ _ r h => by simp [impl_howOften.l0] at h, fun _ _ _ _ _ _ _ r h => by simp [impl_howOften.l1] at h⟩
  | k + 1 => by
    obtain ⟨ih0, ih1⟩ := impl_howOften.len k
    refine ⟨fun y0 y1 y2 y3 r h => ?_, fun y0 y1 y2 y3 y4 y5 y6 r h => ?_⟩
    · unfold impl_howOften.l0 at h
      split at h
      · split at h
        · split at h
          · obtain ⟨t, _, h⟩ := Option.bind_eq_some_iff.mp h
            exact ih1 _ _ _ _ _ _ _ _ h
          · cases h
        · cases h
      · cases h; rfl
    · unfold impl_howOften.l1 at h
      split at h
      · split at h
        · split at h
          · split at h
            · rw [ih1 _ _ _ _ _ _ _ _ h, List.length_set]
            · cases h
          · cases h
        · cases h
      · exact ih0 _ _ _ _ _ h
theorem impl_howOften.nine {k : Nat} {l r : List Int} (h : impl_howOften.f k l = some r) : r.length = 9 := (impl_howOften.len k).1 _ _ _ _ _ h
set_option maxHeartbeats 8000000 in
set_option maxRecDepth 100000 in
theorem impl_howOften.calls (k : Nat) (A0 : Option Addr) (c0 : Nat) (l0 : List Int) (r : List Int) (w : World) (hr0 : Kd.C (Kd.int .i64) w A0 l0.length l0) (hc0 : l0.length ≤ c0) (h : impl_howOften.f k l0 = some r) :
    Calls Try.prog 119 #[.slice A0 l0.length c0] w fun e w' => e = .returned (.agg (how9 r)) ∧ Below w.heap.size w w' := by
  have hu9 : Try.prog.underlying 125 = some (.array 9 3) := by kernel_rfl
  have hi9 : (Try.prog.info? 125).map (·.size) = some 9 := by kernel_rfl
  have HR0 := Aside0.mk hr0
  have HC0 := Aside0.mk hc0
  clear hr0 hc0
  have HB := Aside0.mk (Below.refl w.heap.size w)
  have H : (impl_howOften.l0 k l0 (l0.length : Int) 0 how0) = some r := h
  clear h
  have H' := Aside0.mk H
  clear H
  go_enter Try.func119, Try.ntmps119
  go_wp2_with (first
    | ((with_reducible refine gate_dst (N := 2) rfl ?_); refine box_event ?hg (N := 2) ?hd (cs := how9 how0) (t := 125) ?hr ?_; (case hd => rfl); (case hg => rfl); (case hr => first | (go_simp; done) | (go_simp; rfl)); intro gz hg w1 hbox hb; have n0_ := Aside0.mk (below_step (by repeat (first | (with_reducible first | exact HB.out | apply below_alloc | apply pw_below_drewN | apply below_drew1) | exact HB.out)) hb); have n1_ := Aside0.mk hbox; have n2_ := Aside0.mk ((by rw [hg]; exact (below_size (by repeat (first | (with_reducible first | exact HB.out | apply below_alloc | apply pw_below_drewN | apply below_drew1) | exact HB.out))) : w.heap.size ≤ gz)); clear HB; have HB := n0_; have BZ := n1_; have GZ := n2_; clear n0_ n1_ n2_ hb hbox hg)
    | ((with_reducible refine gate_dst (N := 3) rfl ?_); refine box_event ?hg (N := 3) ?hd (cs := how9 how0) (t := 125) ?hr ?_; (case hd => rfl); (case hg => rfl); (case hr => first | (go_simp; done) | (go_simp; rfl)); intro gb hg w2 hbox hb; have n3_ := Aside0.mk ((by rw [hg]; exact Nat.ne_of_lt (blk_lt BZ.out) : gz ≠ gb)); have n4_ := Aside0.mk (blk_below (g := gz) (o := .cells (how9 how0) 125 (0, 0)) BZ.out hb); have n0_ := Aside0.mk (below_step (by repeat (first | (with_reducible first | exact HB.out | apply below_alloc | apply pw_below_drewN | apply below_drew1) | exact HB.out)) hb); have n1_ := Aside0.mk hbox; have n2_ := Aside0.mk ((by rw [hg]; exact (below_size (by repeat (first | (with_reducible first | exact HB.out | apply below_alloc | apply pw_below_drewN | apply below_drew1) | exact HB.out))) : w.heap.size ≤ gb)); clear HB BZ; have HB := n0_; have BK := n1_; have GB := n2_; have NZ := n3_; have BZ := n4_; clear n0_ n1_ n2_ n3_ n4_ hb hbox hg)
    | (refine wpList_store_row rfl 125 (.tmp 3) (.tmp 8) rfl gb (how9 how0) rfl rfl 125 (how9 how0) BK.out hi9 rfl (how9_one _) ?_; have n0_ := Aside0.mk (setRow_heap _ gb _ (how9 how0) _ _ BK.out); have n1_ := Aside0.mk ((setRow_other _ gb gz (how9 how0) NZ.out).trans BZ.out); have n2_ := Aside0.mk (below_setRow HB.out GB.out (how9 how0)); clear BK BZ HB; have BK := n0_; have BZ := n1_; have HB := n2_; clear n0_ n1_ n2_))
  go_loopg [11] k (fun kq v11 w' => ∃ (x11_1 : Int) (x3_1 : List Int), v11 = .int .i64 x11_1 ∧ Aside0 (impl_howOften.l0 kq l0 (l0.length : Int) x11_1 x3_1 = some r) ∧ Aside0 (kq ≤ k) ∧ Aside0 (w'.heap[gb]? = some (.cells (how9 x3_1) 125 (0, 0))) ∧ Aside0 (x3_1.length = 9) ∧ Aside0 (w'.heap[gz]? = some (.cells (how9 how0) 125 (0, 0))) ∧ Aside0 (Below w.heap.size w w'))
  case atStart => exact ⟨(0), how0, (by first | rfl | (simp; done) | (simp [*]; done)), H', ⟨Nat.le_refl _⟩, ⟨BK.out⟩, ⟨rfl⟩, ⟨BZ.out⟩, ⟨HB.out⟩⟩
  case round =>
    clear H'
    clear BK BZ HB
    obtain ⟨x11_1, x3_1, rfl, HA, HK1, BK, HL, BZ, HB⟩ := hrel
    cases gk with
    | zero => exact absurd HA.out (by simp [impl_howOften.l0])
    | succ k1 =>
      have H := HA.out
      clear HA
      simp only [impl_howOften.l0] at H
      by_cases c3 : x11_1 < (l0.length : Int)
      · rw [if_pos c3] at H
        have c3b0 : decide (x11_1 < (l0.length : Int)) = true := decide_eq_true c3
        by_cases c4 : 0 ≤ x11_1
        · rw [if_pos c4, if_pos c3] at H
          have c4b0 : decide (0 ≤ x11_1) = true := decide_eq_true c4
          clear c3 c4
          replace H := Option.bind_eq_some_iff.mp H
          obtain ⟨t1104, A60, H⟩ := H
          replace H : (impl_howOften.l1 k1 l0 (l0.length : Int) x11_1 t1104 (t1104.length : Int) 0 x3_1) = some r := H
          have A6 := Aside0.mk A60
          clear A60
          have H' := Aside0.mk H
          clear H
          have p1103 : 0 ≤ (x11_1 : Int) := of_decide_eq_true (by first | (with_reducible assumption) | assumption)
          have q1103 : x11_1 < (l0.length : Int) := of_decide_eq_true (by first | (with_reducible assumption) | assumption)
          obtain ⟨ad1103, e1103, hx1103_0⟩ := Kd.at_int HR0.out x11_1 p1103 q1103
          cases e1103
          replace hx1103_0 := (HB.out.cell (World.block_lt_of_cell? w _ hx1103_0)).trans hx1103_0
          replace p1103 := eq_true p1103
          replace q1103 := eq_true q1103
          go_wp2_with (first | ((with_reducible refine gate_callee (f := 177) rfl ?_); refine goesL_ (some 16) rfl rfl Try.func177 (by kernel_rfl) rfl #[.int .i64 (rd l0 x11_1)] rfl (by (try simp only [List.map_toArray, List.map_cons, List.map_nil]); first | done | rfl | (simp only [List.length_drop, List.length_take]; rfl)) ?_; (with_reducible refine (impl_setOf.calls k1 (rd l0 x11_1) t1104 _ A6.out).mono ?_); rintro e w7 ⟨v1105, rfl, ho0, hb⟩; refine ⟨_, rfl, ?_⟩; have n0_ := Aside0.mk (Kd.R_lower (Kd.R_newB ho0 (g := gb) (o := .cells (how9 x3_1) 125 (0, 0)) BK.out) (below_size (by repeat (first | (with_reducible first | exact HB.out | apply below_alloc | apply pw_below_drewN | apply below_drew1) | exact HB.out)))); have n1_ := Aside0.mk (blk_below (g := gb) (o := .cells (how9 x3_1) 125 (0, 0)) BK.out hb); have n3_ := Aside0.mk (blk_below (g := gz) (o := .cells (how9 how0) 125 (0, 0)) BZ.out hb); have n2_ := Aside0.mk (below_step (by repeat (first | (with_reducible first | exact HB.out | apply below_alloc | apply pw_below_drewN | apply below_drew1) | exact HB.out)) hb); clear BK BZ HB; have HO := n0_; have BK := n1_; have BZ := n3_; have HB := n2_; clear n0_ n1_ n2_ n3_; (try clear hb); (try clear ho0); obtain ⟨Ao8, co8, eo8⟩ := Kd.R_slice HO.out; subst eo8))
          go_loopg [18] k1 (fun kq v18 w' => ∃ (x18_2 : Int) (x3_2 : List Int), v18 = .int .i64 x18_2 ∧ Aside0 (impl_howOften.l1 kq l0 (l0.length : Int) x11_1 t1104 (t1104.length : Int) x18_2 x3_2 = some r) ∧ Aside0 (kq ≤ k1) ∧ Aside0 (Kd.R (Kd.int .i64) 3 w' w.heap.size (fun k_ => k_ ≠ gb) (.slice Ao8 t1104.length co8) t1104) ∧ Aside0 (w'.heap[gb]? = some (.cells (how9 x3_2) 125 (0, 0))) ∧ Aside0 (x3_2.length = 9) ∧ Aside0 (w'.heap[gz]? = some (.cells (how9 how0) 125 (0, 0))) ∧ Aside0 (Below w.heap.size w w'))
          case atStart => exact ⟨(0), (x3_1), (by first | rfl | (simp; done) | (simp [*]; done)), H', ⟨Nat.le_refl _⟩, ⟨Kd.R_mono HO.out (fun _ hk => hk.2)⟩, ⟨BK.out⟩, HL, ⟨BZ.out⟩, ⟨HB.out⟩⟩
          case round =>
            clear H' BK BZ HB HO HL
            try clear c3b0
            try clear c4b0
            try clear hx1103_0
            try clear p1103
            try clear q1103
            obtain ⟨x18_2, x3_2, rfl, HA, HK2, HO, BK, HL, BZ, HB⟩ := hrel
            cases gk with
            | zero => exact absurd HA.out (by simp [impl_howOften.l1])
            | succ k2 =>
              have H := HA.out
              clear HA
              simp only [impl_howOften.l1] at H
              by_cases c9 : x18_2 < (t1104.length : Int)
              · rw [if_pos c9] at H
                have c9b0 : decide (x18_2 < (t1104.length : Int)) = true := decide_eq_true c9
                by_cases c10 : 0 ≤ x18_2
                · rw [if_pos c10, if_pos c9] at H
                  have c10b0 : decide (0 ≤ x18_2) = true := decide_eq_true c10
                  clear c9 c10
                  by_cases c12 : 0 ≤ rd t1104 x18_2 ∧ rd t1104 x18_2 < 9
                  · rw [if_pos c12] at H
                    have H' := Aside0.mk H
                    clear H
                    have p1107 : 0 ≤ (x18_2 : Int) := of_decide_eq_true (by first | (with_reducible assumption) | assumption)
                    have q1107 : x18_2 < (t1104.length : Int) := of_decide_eq_true (by first | (with_reducible assumption) | assumption)
                    obtain ⟨ad1107, e1107, hx1107_0⟩ := Kd.at_int (Kd.R_reads' HO.out).2.2 x18_2 p1107 q1107
                    cases e1107
                    replace p1107 := eq_true p1107
                    replace q1107 := eq_true q1107
                    have hl9 := HL.out
                    have hcz : wr.cell? ⟨gb, (rd t1104 x18_2).toNat, none⟩ = some (.int .i64 (rd x3_2 (rd t1104 x18_2))) := (blk_cell BK.out _).trans (how9_get x3_2 _ (by omega))
                    have hfz := blk_frozen BK.out (rd t1104 x18_2).toNat
                    have pj := eq_true c12.1
                    have qj := eq_true c12.2
                    clear hl9 c12
                    go_wp2
                    go_roundg k2
                    case measure => have := HK1.out; have := HK2.out; omega
                    case rel => exact ⟨(wrap64 (x18_2 + 1)), (x3_2.set (rd t1104 x18_2).toNat (wrap64 (rd x3_2 (rd t1104 x18_2) + 1))), (by first | rfl | (simp; done) | (simp [*]; done)), H', ⟨by have := HK1.out; have := HK2.out; omega⟩, ⟨Kd.R_mono (Kd.R_far (p := ⟨gb, (rd t1104 x18_2).toNat, none⟩) (Kd.R_mono HO.out (fun k_ hk => (⟨hk, hk⟩ : _ ∧ k_ ≠ gb))) (fun _ hk => hk.2) (.int .i64 (wrap64 (rd x3_2 (rd t1104 x18_2) + 1)))) (fun _ hk => hk.1)⟩, ⟨by rw [← how9_set]; exact blk_set BK.out _ _⟩, ⟨by rw [List.length_set]; exact HL.out⟩, ⟨(Below.heap_setCell _ _ _ gz NZ.out).trans BZ.out⟩, ⟨Below.setCell HB.out GB.out _⟩⟩
                  · rw [if_neg c12] at H
                    exact absurd H (by simp)
                · rw [if_neg c10] at H
                  exact absurd H (by simp)
              · rw [if_neg c9] at H
                have c9b0 : decide (x18_2 < (t1104.length : Int)) = false := decide_eq_false c9
                clear c9
                have H' := Aside0.mk H
                clear H
                go_wp2
                go_roundg k2
                case measure => have := HK1.out; have := HK2.out; omega
                case rel => exact ⟨(wrap64 (x11_1 + 1)), (x3_2), (by first | rfl | (simp; done) | (simp [*]; done)), H', ⟨by have := HK1.out; have := HK2.out; omega⟩, ⟨BK.out⟩, HL, ⟨BZ.out⟩, ⟨HB.out⟩⟩
        · rw [if_neg c4] at H
          exact absurd H (by simp)
      · rw [if_neg c3] at H
        have c3b0 : decide (x11_1 < (l0.length : Int)) = false := decide_eq_false c3
        clear c3
        obtain rfl := Option.some.inj H
        have hs9 : (Try.prog.info? 125).map (·.size) = some (how9 x3_1).size := by rw [how9_size, HL.out]; exact hi9
        go_wp2_with (first
          | (refine wpList_load_row rfl 125 (.tmp 3) rfl gb rfl 125 (how9 x3_1) (0, 0) _ BK.out hu9 rfl hs9 ?_)
          | (refine wpList_store_row rfl 125 (.tmp 2) (.tmp 29) rfl gz (how9 x3_1) rfl rfl 125 (how9 how0) BZ.out hs9 (by rw [how9_size, how9_size, HL.out]; rfl) (how9_one _) ?_; have n0_ := Aside0.mk (setRow_heap _ gz _ (how9 x3_1) _ _ BZ.out); have n2_ := Aside0.mk (below_setRow HB.out GZ.out (how9 x3_1)); clear BZ HB; have BZ := n0_; have HB := n2_; clear n0_ n2_))
        refine bodyPost_ret (results_cell_row rfl _ _ gz 125 (how9 x3_1) (0, 0) _ rfl BZ.out hu9 rfl hs9) rfl ?_
        exact ⟨rfl, HB.out⟩

end Go.Proofs.Ythkbaolpiigioaa.P
