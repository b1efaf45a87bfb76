/- Part 2 of the texts below the law FnChambersAgreeOfAll. Printed by this session's driver over the kit's printer, but for the hand contracts and the plain laws. -/
import Derived.Deep.RegionLaw
import Derived.Lib.SliceRun
import Derived.Shelf.RegionOpenPlain
import Derived.Test.YthipiojpoklpgaaGreatCFnChambersAgreeOfAll1
set_option linter.unusedVariables false
set_option linter.unusedSimpArgs false
set_option maxHeartbeats 8000000
set_option maxRecDepth 1000000
namespace Go.Proofs.YthipiojpoklpgaaGreat.P
open Go.RowKit Go.Proofs.YthipiojpoklpgaaGreatW.PrintWords Go.Proofs.YthipiojpoklpgaaGreatW.PrintLast Go.Proofs.YthipiojpoklpgaaGreatW.PrintMore
attribute [local go_sem] ja jg jS jQ iy iC jq ji   -- for this text's walks alone
set_option linter.unusedVariables false
set_option linter.unusedSimpArgs false

def aN.l0:Nat → List Int → List Int → List Int → Int → Int → Option (Int)
 | 0,_,_,_,_,_=>none
 | k + 1,x0,x1,x9,x10,x11=>if x11 < x10 then (if 0 ≤ x11 then (if x11 < (x9.length:Int) then (if x11 ≥ (x1.length:Int) then (some 1) else (if x11 < (x1.length:Int) then ((cmp_Compare_int.f (rd x9 x11) (rd x1 x11)).bind fun t2=>(if t2 = 0 then (aN.l0 k x0 x1 x9 x10 (wrap64 (x11 + 1))) else (some t2))) else (none))) else (none)) else (none)) else (if (x0.length:Int) < (x1.length:Int) then (some (-1)) else (some 0))
def aN.f (k:Nat) (l0:List Int) (l1:List Int):Option (Int):=aN.l0 k l0 l1 l0 (l0.length:Int) 0
theorem aN.calls (k:Nat) (A0:Option Addr) (c0:Nat) (l0:List Int) (A1:Option Addr) (c1:Nat) (l1:List Int) (r:Int) (w:World) (hr0:Kd.C (Kd.int .i64) w A0 l0.length l0) (hc0:l0.length ≤ c0) (hr1:Kd.C (Kd.int .i64) w A1 l1.length l1) (hc1:l1.length ≤ c1) (h:aN.f k l0 l1 = some r) :
  Calls Tryz.prog 57 #[.slice A0 l0.length c0,.slice A1 l1.length c1] w fun e w'=>e = .returned (.int .i64 r) ∧ bi w w':=by
 have HR0:=aM hr0;have HC0:=aM hc0;clear hr0 hc0;have HR1:=aM hr1;have HC1:=aM hc1;clear hr1 hc1;have H:(aN.l0 k l0 l1 l0 (l0.length:Int) 0) = some r:=h;clear h;have H':=aM H;clear H;go_enter Tryz.func57,Tryz.ntmps57;go_wp2
 go_loopg [11] k (fun kq v11 w'=>∃ (x11_1:Int),v11 = .int .i64 x11_1 ∧ aj (aN.l0 kq l0 l1 l0 (l0.length:Int) x11_1 = some r) ∧ aj (kq ≤ k) ∧ bi w w')
 case atStart=>exact ⟨(0),qrs,H',⟨Nat.le_refl _⟩,by repeat (first|exact bi.refl _|apply bi.step)⟩
 case round =>
  clear H';(try clear c1)
  obtain ⟨x11_1,rfl,HA,HK1,⟨m1,rfl⟩⟩:=hrel
  cases gk with
  | zero=>exact absurd HA.out (by simp [aN.l0])
  | succ k1 =>
   have H:=HA.out;clear HA;simp only [aN.l0] at H;by_cases c3:x11_1 < (l0.length:Int)
   ·rw [if_pos c3] at H;have c3b0:=decide_eq_true c3;clear c3;replace H:=iN H;obtain ⟨c4,H⟩:=H;have c4b0:decide (0 ≤ x11_1) = true:=decide_eq_true c4;clear c4;replace H:=iN H;obtain ⟨c5,H⟩:=H;have c5b0:decide (x11_1 < (l0.length:Int)) = true:=decide_eq_true c5;clear c5;by_cases c6:x11_1 ≥ (l1.length:Int)
    ·rw [if_pos c6] at H;have c6b0:decide ((l1.length:Int) ≤ x11_1) = true:=decide_eq_true c6;clear c6;obtain rfl:=Option.some.inj H;have p12:0 ≤ (x11_1:Int):=of_decide_eq_true ab;have q12:x11_1 < (l0.length:Int):=of_decide_eq_true ab;obtain ⟨ad12,e12,hx12_0⟩:=Kd.dI HR0.out x11_1 p12 q12;cases e12
     replace p12:=eq_true p12;replace q12:=eq_true q12;go_wp2
     go_ret
     exact ⟨qrs,dR⟩
    ·rw [if_neg c6] at H;have c6b0:decide ((l1.length:Int) ≤ x11_1) = false:=decide_eq_false c6;clear c6;replace H:=iN H;obtain ⟨c7,H⟩:=H;have c7b0:decide (x11_1 < (l1.length:Int)) = true:=decide_eq_true c7;clear c7;replace H:=oB H;obtain ⟨t14,A8,H⟩:=H;(try dsimp only at H)
     by_cases c9:t14 = 0
     ·rw [if_pos c9] at H;have c9b0:(t14 == 0) = true:=beq_iff_eq.mpr c9;have c9b1:(t14 != 0) = false:=bne_eq_false_iff_eq.mpr c9;clear c9;have H':=aM H;clear H;have p12:0 ≤ (x11_1:Int):=of_decide_eq_true ab;have q12:x11_1 < (l0.length:Int):=of_decide_eq_true ab;obtain ⟨ad12,e12,hx12_0⟩:=Kd.dI HR0.out x11_1 p12 q12;cases e12
      replace p12:=eq_true p12;replace q12:=eq_true q12;have p13:0 ≤ (x11_1:Int):=of_decide_eq_true ab;have q13:x11_1 < (l1.length:Int):=of_decide_eq_true ab;obtain ⟨ad13,e13,hx13_0⟩:=Kd.dI HR1.out x11_1 p13 q13;cases e13
      replace p13:=eq_true p13;replace q13:=eq_true q13;go_wp2_with (first|((with_reducible refine ai (f:=86) rfl ?_);refine gL 26 Tryz.func86 #[.int .i64 (rd l0 x11_1),.int .i64 (rd l1 x11_1)] ?_;(with_reducible refine (cmp_Compare_int.calls (rd l0 x11_1) (rd l1 x11_1) t14 _ A8.out).mono ?_);rintro e w' ⟨rfl,⟨nd,rfl⟩⟩;refine ⟨_,rfl,?_⟩))
      go_roundg k1
      case measure=>have:=HK1.out;omega
      case rel=>exact ⟨(wrap64 (x11_1 + 1)),qrs,H',⟨by have:=HK1.out;omega⟩,by repeat (first|exact bi.refl _|apply bi.step)⟩
     ·rw [if_neg c9] at H;have c9b0:(t14 == 0) = false:=beq_eq_false_iff_ne.mpr c9;have c9b1:(t14 != 0) = true:=bne_iff_ne.mpr c9;obtain rfl:=Option.some.inj H;have p12:0 ≤ (x11_1:Int):=of_decide_eq_true ab;have q12:x11_1 < (l0.length:Int):=of_decide_eq_true ab;obtain ⟨ad12,e12,hx12_0⟩:=Kd.dI HR0.out x11_1 p12 q12;cases e12
      replace p12:=eq_true p12;replace q12:=eq_true q12;have p13:0 ≤ (x11_1:Int):=of_decide_eq_true ab;have q13:x11_1 < (l1.length:Int):=of_decide_eq_true ab;obtain ⟨ad13,e13,hx13_0⟩:=Kd.dI HR1.out x11_1 p13 q13;cases e13
      replace p13:=eq_true p13;replace q13:=eq_true q13;go_wp2_with (first|((with_reducible refine ai (f:=86) rfl ?_);refine gL 26 Tryz.func86 #[.int .i64 (rd l0 x11_1),.int .i64 (rd l1 x11_1)] ?_;(with_reducible refine (cmp_Compare_int.calls (rd l0 x11_1) (rd l1 x11_1) t14 _ A8.out).mono ?_);rintro e w' ⟨rfl,⟨nd,rfl⟩⟩;refine ⟨_,rfl,?_⟩))
      go_ret
      exact ⟨qrs,dR⟩
   ·rw [if_neg c3] at H;have c3b0:=decide_eq_false c3;clear c3;by_cases c10:(l0.length:Int) < (l1.length:Int)
    ·rw [if_pos c10] at H;have c10b0:=decide_eq_true c10;have c10b1:decide (l0.length < l1.length) = true:=decide_eq_true (Int.ofNat_lt.mp c10);clear c10;obtain rfl:=Option.some.inj H;go_wp2
     go_ret
     exact ⟨qrs,dR⟩
    ·rw [if_neg c10] at H;have c10b0:=decide_eq_false c10;have c10b1:decide (l0.length < l1.length) = false:=decide_eq_false (fun h=>c10 (Int.ofNat_lt.mpr h));clear c10;obtain rfl:=Option.some.inj H;go_wp2
     go_ret
     exact ⟨qrs,dR⟩
theorem aN.enters:∀ (args:Array Value) (w:World),(callFunc 57 args).run Tryz.prog w = .ok (.enter 57 args) w:=enters_of Tryz.func57 kR rfl


def dj.l0:Nat → Int → List Int → Int → Option (List Int)
 | 0,_,_,_=>none
 | k + 1,x0,x3,x4=>if 0 ≤ x4 then (if (shr .i64 x0 x4) > 0 then (if (Go.bits .and .i64 (shr .i64 x0 x4) 1) = 1 then (if x3.length < 17592186044416 then (dj.l0 k x0 (x3 ++ [x4]) (wrap64 (x4 + 1))) else (none)) else (dj.l0 k x0 x3 (wrap64 (x4 + 1)))) else (some x3)) else (none)
def dj.f (k:Nat) (a0:Int):Option (List Int):=dj.l0 k a0 (([]:List Int)) 0
theorem dj.calls (k:Nat) (a0:Int) (r:List Int) (w:World) (h:dj.f k a0 = some r) :
  Calls Tryz.prog 108 #[.int .i64 a0] w fun e w'=>∃ v0_:Value,e = .returned (v0_) ∧ Kd.R (Kd.int .i64) 3 w' w.heap.size (fun _=>True) v0_ r ∧ Below w.heap.size w w':=by
 have HB:=aM (Below.refl w.heap.size w);have H:(dj.l0 k a0 (([]:List Int)) 0) = some r:=h;clear h;obtain ⟨y11,hy11⟩:∃ y_:List Int,y_ = (([]:List Int)):=⟨_,rfl⟩;replace H:(dj.l0 k a0 y11 0) = some r:=yR hy11 H;have Ny11:=aM hy11;clear hy11;have H':=aM H;clear H;go_enter Tryz.func108,Tryz.ntmps108;go_wp2_with (first|((with_reducible refine aC (N:=5) rfl ?_);refine Kd.lC (Kd.int .i64) _ 3 ?hg (N:=5) ?hd (xs:=([]:List Int)) (inner:=[]) (ok:=fun _=>True) (okp:=fun _=>True) ?hr ?hp (fun _ hk=>hk) trivial (Below.refl _ _) (Nat.le_refl _) (by simp) ?_;(case hd=>rfl);(case hg=>rfl);(case hr=>first|(go_simp;done)|(go_simp;rfl));(case hp=>exact (eH.none _ _));intro v12 w2 ho3 hb hg_ hnew_;clear hg_ hnew_;(first|rw [← Ny11.out] at ho3|(simp only [Int.reduceToNat] at ho3;rw [← Ny11.out] at ho3));have HO13:=aM (Kd.cr ho3 (av bw));replace HB:=aM (ag bw hb);clear hb ho3))
 go_loopg [3,4] k (fun kq v3 v4 w'=>∃ (x3_1:List Int) (x4_1:Int),v4 = .int .i64 x4_1 ∧ aj (dj.l0 kq a0 x3_1 x4_1 = some r) ∧ aj (kq ≤ k) ∧ aj (Kd.R (Kd.int .i64) 3 w' w.heap.size (fun _=>True) v3 x3_1) ∧ aj (Below w.heap.size w w'))
 case atStart=>exact ⟨(y11),(0),qrs,H',⟨Nat.le_refl _⟩,⟨qra HO13.out⟩,⟨by exact bw⟩⟩
 case round =>
  clear H';obtain ⟨x3_1,x4_1,rfl,HA,HK1,HO_3,HB⟩:=hrel
  cases gk with
  | zero=>exact absurd HA.out (by simp [dj.l0])
  | succ k1 =>
   have H:=HA.out;clear HA;simp only [dj.l0] at H;replace H:=iN H;obtain ⟨c4,H⟩:=H;have c4b0:=eq_true c4;have c4b1:decide (0 ≤ x4_1) = true:=decide_eq_true c4;clear c4;obtain ⟨ji5,hji5⟩:∃ j_:Int,(shr .i64 a0 x4_1) = j_:=⟨_,rfl⟩;(first|rw [hji5] at H|simp only [hji5] at H)
   have hji5_:(a0 / 2 ^ min x4_1.toNat 64) = ji5:=hji5;have hji5z:x4_1 ≤ 64 → (a0 / 2 ^ x4_1.toNat) = ji5:=ir hji5;by_cases c6:(ji5) > 0
   ·rw [if_pos c6] at H;have c6b0:decide (0 < (ji5)) = true:=decide_eq_true c6;clear c6;have c7b0:=eq_true (of_decide_eq_true ab:0 ≤ x4_1);by_cases c8:(Go.bits .and .i64 (ji5) 1) = 1
    ·rw [if_pos c8] at H;have c8b0:((Go.bits .and .i64 (ji5) 1) == 1) = true:=beq_iff_eq.mpr c8;have c8b1:((Go.bits .and .i64 (ji5) 1) != 1) = false:=bne_eq_false_iff_eq.mpr c8;clear c8;replace H:=iN H;obtain ⟨c9,H⟩:=H;have LMc9:=aM c9;clear c9;obtain ⟨y14,hy14⟩:∃ y_:List Int,y_ = (x3_1 ++ [x4_1]):=⟨_,rfl⟩;replace H:(dj.l0 k1 a0 y14 (wrap64 (x4_1 + 1))) = some r:=yR hy14 H;have Ny14:=aM hy14;clear hy14;have H':=aM H;clear H;go_wp2_with (first|((with_reducible refine dr (b:=.append) (xs:=#[.tmp 17,.tmp 19]) rfl ?_);at_builtin;refine Kd.gg (Kd.int .i64) (w0:=w) w.heap.size rfl (.tmp 17) (.tmp 19) 23 3 (.int .i64 0) 8 rfl Tryz.underlying23 kQ rfl (by decide) (by omega) u3 x3_1 x4_1 [.int .i64 x4_1] (fun _=>True) (fun _=>False) rfl rfl ?aP (fun _ hk=>hk.elim) ?aF ?aO ?aB ?aS ?aL ?_;(case aP=>exact rfl);(case aB=>exact bw);(case aF=>exact (fun _ _=>trivial));(case aO=>exact (qra HO_3.out));(case aS=>exact (av bw));(case aL=>have:=LMc9.out;omega);intro v15 w10 ho hb hg hat;rw [← Ny14.out] at ho;replace HB:=aM (hb);have HO16:=aM (ho);clear HO_3;clear ho hb hg hat))
     go_roundg k1
     case measure=>have:=HK1.out;omega
     case rel=>exact ⟨(y14),(wrap64 (x4_1 + 1)),qrs,H',⟨by have:=HK1.out;omega⟩,⟨qra HO16.out⟩,⟨by exact bw⟩⟩
    ·rw [if_neg c8] at H;have c8b0:((Go.bits .and .i64 (ji5) 1) == 1) = false:=beq_eq_false_iff_ne.mpr c8;have c8b1:((Go.bits .and .i64 (ji5) 1) != 1) = true:=bne_iff_ne.mpr c8;have H':=aM H;clear H;go_wp2
     go_roundg k1
     case measure=>have:=HK1.out;omega
     case rel=>exact ⟨(x3_1),(wrap64 (x4_1 + 1)),qrs,H',⟨by have:=HK1.out;omega⟩,⟨qra HO_3.out⟩,⟨by exact bw⟩⟩
   ·rw [if_neg c6] at H;have c6b0:decide (0 < (ji5)) = false:=decide_eq_false c6;clear c6;obtain rfl:=Option.some.inj H;go_wp2
    go_ret
    exact ⟨_,by first|rfl|(simp [cV,cX] <;> rfl)|(simp only [← hji5];first|rfl|(simp [cV,cX] <;> rfl))|(simp [*,cV,cX] <;> rfl),by (with_reducible repeat (first|apply Kd.ca|apply Kd.b7|apply Kd.cu));exact HO_3.out,by exact bw⟩


def bm.l0:Nat → Int → Int → Int → Int → List Bool → Option (Bool)
 | 0,_,_,_,_,_=>none
 | k + 1,x1,x13,x14,x3,x4=>if x14 < x13 then ((dh.f x1 x14).bind fun t2=>(if t2 = true then (if 0 ≤ x14 then (if 0 ≤ (Go.bits .andNot .i64 x1 (shl .i64 1 x14)) then (if (Go.bits .andNot .i64 x1 (shl .i64 1 x14)) < (x4.length:Int) then (if dE false x4 (Go.bits .andNot .i64 x1 (shl .i64 1 x14)) = true then (some false) else (bm.l0 k x1 x13 (wrap64 (x14 + 1)) x3 x4)) else (none)) else (none)) else (none)) else (bm.l0 k x1 x13 (wrap64 (x14 + 1)) x3 x4))) else (some true)
def bm.f (k:Nat) (a0_0:Int) (l0_1:List Bool) (a1:Int):Option (Bool):=if 0 ≤ a1 then (if a1 < (l0_1.length:Int) then (if dE false l0_1 a1 = true then (bm.l0 k a1 a0_0 0 a0_0 l0_1) else (some false)) else (none)) else (none)
theorem bm.calls (k:Nat) (a0_0:Int) (A0_1:Option Addr) (c0_1:Nat) (l0_1:List Bool) (a1:Int) (r:Bool) (w:World) (hr0_1:Kd.C Kd.bool w A0_1 l0_1.length l0_1) (hc0_1:l0_1.length ≤ c0_1) (h:bm.f k a0_0 l0_1 a1 = some r) :
  Calls Tryz.prog 98 #[.agg #[.int .i64 a0_0,.slice A0_1 l0_1.length c0_1],.int .i64 a1] w fun e w'=>e = .returned (.bool r) ∧ Below w.heap.size w w':=by
 have hu56:=Tryz.underlying56;have HR0_1:=aM hr0_1;have HC0_1:=aM hc0_1;clear hr0_1 hc0_1;have HB:=aM (Below.refl w.heap.size w);have H:(if 0 ≤ a1 then (if a1 < (l0_1.length:Int) then (if dE false l0_1 a1 = true then (bm.l0 k a1 a0_0 0 a0_0 l0_1) else (some false)) else (none)) else (none)) = some r:=h;clear h;replace H:=iN H;obtain ⟨c3,H⟩:=H;have c3b0:decide (0 ≤ a1) = true:=decide_eq_true c3;clear c3;replace H:=iN H;obtain ⟨c4,H⟩:=H;have c4b0:decide (a1 < (l0_1.length:Int)) = true:=decide_eq_true c4;clear c4;obtain ⟨bq5,hbq5⟩:∃ b_:Bool,b_ = (dE false l0_1 a1):=⟨_,rfl⟩;rw [← hbq5] at H;have Nbq5:=aM hbq5;clear hbq5;by_cases c6:bq5 = true
 ·subst c6;rw [if_pos rfl] at H;have H':=aM H;clear H;go_enter Tryz.func98,Tryz.ntmps98;go_wp2_with (first|((with_reducible refine aC (N:=2) rfl ?_);refine bE 2 #[.int .i64 a0_0,.slice A0_1 l0_1.length c0_1] 56 ?_;intro gb22 hg w7 hbox hb;have BK22:=aM (hbox);have GW22:=aM (gS hg);have GE22:=aM (gS hg);replace HB:=aM (ag bw hb);clear hb hbox hg;have hcz8_0:=cz BK22.out 0;have hcz8_1:=cz BK22.out 1;have hfz8_0:=af BK22.out 0;have hfz8_1:=af BK22.out 1;have p23:0 ≤ (a1:Int):=of_decide_eq_true ab;have q23:a1 < (l0_1.length:Int):=of_decide_eq_true ab;obtain ⟨ad23,e23,hx23_0⟩:=Kd.b8 HR0_1.out a1 p23 q23;(try rw [← Nbq5.out] at hx23_0);cases e23;replace hx23_0:=(HB.out.cell (World.block_lt_of_cell? w _ hx23_0)).trans hx23_0;replace p23:=eq_true p23;replace q23:=eq_true q23))
  repeat (go_quiet (first|((with_reducible refine aC (N:=2) rfl ?_);refine bE 2 #[.int .i64 a0_0,.slice A0_1 l0_1.length c0_1] 56 ?_;intro gb22 hg w7 hbox hb;have BK22:=aM (hbox);have GW22:=aM (gS hg);have GE22:=aM (gS hg);replace HB:=aM (ag bw hb);clear hb hbox hg;have hcz8_0:=cz BK22.out 0;have hcz8_1:=cz BK22.out 1;have hfz8_0:=af BK22.out 0;have hfz8_1:=af BK22.out 1;have p23:0 ≤ (a1:Int):=of_decide_eq_true ab;have q23:a1 < (l0_1.length:Int):=of_decide_eq_true ab;obtain ⟨ad23,e23,hx23_0⟩:=Kd.b8 HR0_1.out a1 p23 q23;(try rw [← Nbq5.out] at hx23_0);cases e23;replace hx23_0:=(HB.out.cell (World.block_lt_of_cell? w _ hx23_0)).trans hx23_0;replace p23:=eq_true p23;replace q23:=eq_true q23));try go_wp2_with (first|((with_reducible refine aC (N:=2) rfl ?_);refine bE 2 #[.int .i64 a0_0,.slice A0_1 l0_1.length c0_1] 56 ?_;intro gb22 hg w7 hbox hb;have BK22:=aM (hbox);have GW22:=aM (gS hg);have GE22:=aM (gS hg);replace HB:=aM (ag bw hb);clear hb hbox hg;have hcz8_0:=cz BK22.out 0;have hcz8_1:=cz BK22.out 1;have hfz8_0:=af BK22.out 0;have hfz8_1:=af BK22.out 1;have p23:0 ≤ (a1:Int):=of_decide_eq_true ab;have q23:a1 < (l0_1.length:Int):=of_decide_eq_true ab;obtain ⟨ad23,e23,hx23_0⟩:=Kd.b8 HR0_1.out a1 p23 q23;(try rw [← Nbq5.out] at hx23_0);cases e23;replace hx23_0:=(HB.out.cell (World.block_lt_of_cell? w _ hx23_0)).trans hx23_0;replace p23:=eq_true p23;replace q23:=eq_true q23)))
  go_loopg [14] k (fun kq v14 w'=>∃ (x14_1:Int),v14 = .int .i64 x14_1 ∧ aj (bm.l0 kq a1 a0_0 x14_1 a0_0 l0_1 = some r) ∧ aj (kq ≤ k) ∧ aj (w'.heap[gb22]? = some (.cells #[.int .i64 a0_0,(.slice (some ad23) l0_1.length c0_1)] 56 (0,0))) ∧ aj (Below w.heap.size w w'))
  case atStart=>exact ⟨(0),qrs,H',⟨Nat.le_refl _⟩,⟨bk1 BK22.out⟩,⟨by exact bw⟩⟩
  case round =>
   clear H';(try clear c3);(try clear c3b0);(try clear c4);(try clear c4b0);(try clear c6);(try clear hcz8_0);(try clear hcz8_1);(try clear hfz8_0);(try clear hfz8_1);(try clear hx23_0);(try clear p23);(try clear q23)
   obtain ⟨x14_1,rfl,HA,HK1,BK22,HB⟩:=hrel
   cases gk with
   | zero=>exact absurd HA.out (by simp [bm.l0])
   | succ k1 =>
    have H:=HA.out;clear HA;simp only [bm.l0] at H;by_cases c9:x14_1 < a0_0
    ·rw [if_pos c9] at H;have c9b0:=decide_eq_true c9;clear c9;replace H:=oB H;obtain ⟨t24,A10,H⟩:=H;(try dsimp only at H)
     by_cases c11:t24 = true
     ·subst c11;rw [if_pos rfl] at H;replace H:=iN H;obtain ⟨c12,H⟩:=H;have c12b0:=eq_true c12;have c12b1:decide (0 ≤ x14_1) = true:=decide_eq_true c12;clear c12;obtain ⟨ji13,hji13⟩:∃ j_:Int,(shl .i64 1 x14_1) = j_:=⟨_,rfl⟩;(first|rw [hji13] at H|simp only [hji13] at H)
      (try rw [hji13] at A10)
      have hji13_:(IntKind.i64.wrap (1 * 2 ^ min x14_1.toNat 64)) = ji13:=hji13;have hji13z:x14_1 ≤ 64 → (IntKind.i64.wrap (1 * 2 ^ x14_1.toNat)) = ji13:=fM hji13;have hji13u:(IntKind.i64.wrap (2 ^ min x14_1.toNat 64)) = ji13:=by have h_:=hji13_;rw [Int.one_mul] at h_;exact h_
      have hji13v:x14_1 ≤ 64 → (IntKind.i64.wrap (2 ^ x14_1.toNat)) = ji13:=fun hle_=>by have h_:=hji13z hle_;rw [Int.one_mul] at h_;exact h_
      have hji13y:(wrap64 (1 * 2 ^ min x14_1.toNat 64)) = ji13:=(cS _).symm.trans hji13_;have hji13x:x14_1 ≤ 64 → (wrap64 (1 * 2 ^ x14_1.toNat)) = ji13:=fun h_=>(cS _).symm.trans (hji13z h_)
      replace H:=iN H;obtain ⟨c14,H⟩:=H;have c14b0:decide (0 ≤ (Go.bits .andNot .i64 a1 (ji13))) = true:=decide_eq_true c14;clear c14;replace H:=iN H;obtain ⟨c15,H⟩:=H;have c15b0:decide ((Go.bits .andNot .i64 a1 (ji13)) < (l0_1.length:Int)) = true:=decide_eq_true c15;clear c15;obtain ⟨bq16,hbq16⟩:∃ b_:Bool,b_ = (dE false l0_1 (Go.bits .andNot .i64 a1 (ji13))):=⟨_,rfl⟩;rw [← hbq16] at H;have Nbq16:=aM hbq16;clear hbq16;by_cases c17:bq16 = true
      ·subst c17;rw [if_pos rfl] at H;obtain rfl:=Option.some.inj H;go_wp2_with (first|(go_at_call 81;(with_reducible refine (dh.calls a1 x14_1 true _ A10.out).mono ?_);rintro e w' ⟨rfl,⟨nd,rfl⟩⟩;(try exact dW);have hcz18_0:=cz BK22.out 0;have hcz18_1:=cz BK22.out 1;have hfz18_0:=af BK22.out 0;have hfz18_1:=af BK22.out 1;have p25:0 ≤ ((Go.bits .andNot .i64 a1 (ji13)):Int):=of_decide_eq_true ab;have q25:(Go.bits .andNot .i64 a1 (ji13)) < (l0_1.length:Int):=of_decide_eq_true ab;obtain ⟨ad25,e25,hx25_0⟩:=Kd.b8 HR0_1.out (Go.bits .andNot .i64 a1 (ji13)) p25 q25;(try rw [← Nbq5.out] at hx25_0);(try rw [← Nbq16.out] at hx25_0);obtain rfl:ad23 = ad25:=(by injection e25);replace hx25_0:=(HB.out.cell (World.block_lt_of_cell? w _ hx25_0)).trans hx25_0;replace p25:=eq_true p25;replace q25:=eq_true q25))
       repeat (go_quiet (first|(go_at_call 81;(with_reducible refine (dh.calls a1 x14_1 true _ A10.out).mono ?_);rintro e w' ⟨rfl,⟨nd,rfl⟩⟩;(try exact dW);have hcz18_0:=cz BK22.out 0;have hcz18_1:=cz BK22.out 1;have hfz18_0:=af BK22.out 0;have hfz18_1:=af BK22.out 1;have p25:0 ≤ ((Go.bits .andNot .i64 a1 (ji13)):Int):=of_decide_eq_true ab;have q25:(Go.bits .andNot .i64 a1 (ji13)) < (l0_1.length:Int):=of_decide_eq_true ab;obtain ⟨ad25,e25,hx25_0⟩:=Kd.b8 HR0_1.out (Go.bits .andNot .i64 a1 (ji13)) p25 q25;(try rw [← Nbq5.out] at hx25_0);(try rw [← Nbq16.out] at hx25_0);obtain rfl:ad23 = ad25:=(by injection e25);replace hx25_0:=(HB.out.cell (World.block_lt_of_cell? w _ hx25_0)).trans hx25_0;replace p25:=eq_true p25;replace q25:=eq_true q25));try go_wp2_with (first|(go_at_call 81;(with_reducible refine (dh.calls a1 x14_1 true _ A10.out).mono ?_);rintro e w' ⟨rfl,⟨nd,rfl⟩⟩;(try exact dW);have hcz18_0:=cz BK22.out 0;have hcz18_1:=cz BK22.out 1;have hfz18_0:=af BK22.out 0;have hfz18_1:=af BK22.out 1;have p25:0 ≤ ((Go.bits .andNot .i64 a1 (ji13)):Int):=of_decide_eq_true ab;have q25:(Go.bits .andNot .i64 a1 (ji13)) < (l0_1.length:Int):=of_decide_eq_true ab;obtain ⟨ad25,e25,hx25_0⟩:=Kd.b8 HR0_1.out (Go.bits .andNot .i64 a1 (ji13)) p25 q25;(try rw [← Nbq5.out] at hx25_0);(try rw [← Nbq16.out] at hx25_0);obtain rfl:ad23 = ad25:=(by injection e25);replace hx25_0:=(HB.out.cell (World.block_lt_of_cell? w _ hx25_0)).trans hx25_0;replace p25:=eq_true p25;replace q25:=eq_true q25)))
       go_ret
       exact ⟨by first|rfl|(simp [cV,cX] <;> rfl)|(simp only [← hji13];first|rfl|(simp [cV,cX] <;> rfl))|(simp [*,cV,cX] <;> rfl),by exact bw⟩
      ·replace c17:=Bool.eq_false_iff.mpr c17;subst c17;rw [if_neg (show ¬ (false = true) by decide)] at H;have H':=aM H;clear H;go_wp2_with (first|(go_at_call 81;(with_reducible refine (dh.calls a1 x14_1 true _ A10.out).mono ?_);rintro e w' ⟨rfl,⟨nd,rfl⟩⟩;(try exact dW);have hcz19_0:=cz BK22.out 0;have hcz19_1:=cz BK22.out 1;have hfz19_0:=af BK22.out 0;have hfz19_1:=af BK22.out 1;have p25:0 ≤ ((Go.bits .andNot .i64 a1 (ji13)):Int):=of_decide_eq_true ab;have q25:(Go.bits .andNot .i64 a1 (ji13)) < (l0_1.length:Int):=of_decide_eq_true ab;obtain ⟨ad25,e25,hx25_0⟩:=Kd.b8 HR0_1.out (Go.bits .andNot .i64 a1 (ji13)) p25 q25;(try rw [← Nbq5.out] at hx25_0);(try rw [← Nbq16.out] at hx25_0);obtain rfl:ad23 = ad25:=(by injection e25);replace hx25_0:=(HB.out.cell (World.block_lt_of_cell? w _ hx25_0)).trans hx25_0;replace p25:=eq_true p25;replace q25:=eq_true q25))
       repeat (go_quiet (first|(go_at_call 81;(with_reducible refine (dh.calls a1 x14_1 true _ A10.out).mono ?_);rintro e w' ⟨rfl,⟨nd,rfl⟩⟩;(try exact dW);have hcz19_0:=cz BK22.out 0;have hcz19_1:=cz BK22.out 1;have hfz19_0:=af BK22.out 0;have hfz19_1:=af BK22.out 1;have p25:0 ≤ ((Go.bits .andNot .i64 a1 (ji13)):Int):=of_decide_eq_true ab;have q25:(Go.bits .andNot .i64 a1 (ji13)) < (l0_1.length:Int):=of_decide_eq_true ab;obtain ⟨ad25,e25,hx25_0⟩:=Kd.b8 HR0_1.out (Go.bits .andNot .i64 a1 (ji13)) p25 q25;(try rw [← Nbq5.out] at hx25_0);(try rw [← Nbq16.out] at hx25_0);obtain rfl:ad23 = ad25:=(by injection e25);replace hx25_0:=(HB.out.cell (World.block_lt_of_cell? w _ hx25_0)).trans hx25_0;replace p25:=eq_true p25;replace q25:=eq_true q25));try go_wp2_with (first|(go_at_call 81;(with_reducible refine (dh.calls a1 x14_1 true _ A10.out).mono ?_);rintro e w' ⟨rfl,⟨nd,rfl⟩⟩;(try exact dW);have hcz19_0:=cz BK22.out 0;have hcz19_1:=cz BK22.out 1;have hfz19_0:=af BK22.out 0;have hfz19_1:=af BK22.out 1;have p25:0 ≤ ((Go.bits .andNot .i64 a1 (ji13)):Int):=of_decide_eq_true ab;have q25:(Go.bits .andNot .i64 a1 (ji13)) < (l0_1.length:Int):=of_decide_eq_true ab;obtain ⟨ad25,e25,hx25_0⟩:=Kd.b8 HR0_1.out (Go.bits .andNot .i64 a1 (ji13)) p25 q25;(try rw [← Nbq5.out] at hx25_0);(try rw [← Nbq16.out] at hx25_0);obtain rfl:ad23 = ad25:=(by injection e25);replace hx25_0:=(HB.out.cell (World.block_lt_of_cell? w _ hx25_0)).trans hx25_0;replace p25:=eq_true p25;replace q25:=eq_true q25)))
       go_roundg k1
       case measure=>have:=HK1.out;omega
       case rel=>exact ⟨(wrap64 (x14_1 + 1)),qrs,H',⟨by have:=HK1.out;omega⟩,⟨bk1 BK22.out⟩,⟨by exact bw⟩⟩
     ·replace c11:=Bool.eq_false_iff.mpr c11;subst c11;rw [if_neg (show ¬ (false = true) by decide)] at H;have H':=aM H;clear H;go_wp2_with (first|(go_at_call 81;(with_reducible refine (dh.calls a1 x14_1 false _ A10.out).mono ?_);rintro e w' ⟨rfl,⟨nd,rfl⟩⟩;(try exact dW)))
      repeat (go_quiet (first|(go_at_call 81;(with_reducible refine (dh.calls a1 x14_1 false _ A10.out).mono ?_);rintro e w' ⟨rfl,⟨nd,rfl⟩⟩;(try exact dW)));try go_wp2_with (first|(go_at_call 81;(with_reducible refine (dh.calls a1 x14_1 false _ A10.out).mono ?_);rintro e w' ⟨rfl,⟨nd,rfl⟩⟩;(try exact dW))))
      go_roundg k1
      case measure=>have:=HK1.out;omega
      case rel=>exact ⟨(wrap64 (x14_1 + 1)),qrs,H',⟨by have:=HK1.out;omega⟩,⟨bk1 BK22.out⟩,⟨by exact bw⟩⟩
    ·rw [if_neg c9] at H;have c9b0:=decide_eq_false c9;clear c9;obtain rfl:=Option.some.inj H;go_wp2
     repeat (go_quiet (fail);try go_wp2)
     go_ret
     exact ⟨eE,by exact bw⟩
 ·replace c6:=Bool.eq_false_iff.mpr c6;subst c6;rw [if_neg (show ¬ (false = true) by decide)] at H;obtain rfl:=Option.some.inj H;go_enter Tryz.func98,Tryz.ntmps98;go_wp2_with (first|((with_reducible refine aC (N:=2) rfl ?_);refine bE 2 #[.int .i64 a0_0,.slice A0_1 l0_1.length c0_1] 56 ?_;intro gb22 hg w20 hbox hb;have BK22:=aM (hbox);have GW22:=aM (gS hg);have GE22:=aM (gS hg);replace HB:=aM (ag bw hb);clear hb hbox hg;have hcz21_0:=cz BK22.out 0;have hcz21_1:=cz BK22.out 1;have hfz21_0:=af BK22.out 0;have hfz21_1:=af BK22.out 1;have p23:0 ≤ (a1:Int):=of_decide_eq_true ab;have q23:a1 < (l0_1.length:Int):=of_decide_eq_true ab;obtain ⟨ad23,e23,hx23_0⟩:=Kd.b8 HR0_1.out a1 p23 q23;(try rw [← Nbq5.out] at hx23_0);cases e23;replace hx23_0:=(HB.out.cell (World.block_lt_of_cell? w _ hx23_0)).trans hx23_0;replace p23:=eq_true p23;replace q23:=eq_true q23))
  repeat (go_quiet (first|((with_reducible refine aC (N:=2) rfl ?_);refine bE 2 #[.int .i64 a0_0,.slice A0_1 l0_1.length c0_1] 56 ?_;intro gb22 hg w20 hbox hb;have BK22:=aM (hbox);have GW22:=aM (gS hg);have GE22:=aM (gS hg);replace HB:=aM (ag bw hb);clear hb hbox hg;have hcz21_0:=cz BK22.out 0;have hcz21_1:=cz BK22.out 1;have hfz21_0:=af BK22.out 0;have hfz21_1:=af BK22.out 1;have p23:0 ≤ (a1:Int):=of_decide_eq_true ab;have q23:a1 < (l0_1.length:Int):=of_decide_eq_true ab;obtain ⟨ad23,e23,hx23_0⟩:=Kd.b8 HR0_1.out a1 p23 q23;(try rw [← Nbq5.out] at hx23_0);cases e23;replace hx23_0:=(HB.out.cell (World.block_lt_of_cell? w _ hx23_0)).trans hx23_0;replace p23:=eq_true p23;replace q23:=eq_true q23));try go_wp2_with (first|((with_reducible refine aC (N:=2) rfl ?_);refine bE 2 #[.int .i64 a0_0,.slice A0_1 l0_1.length c0_1] 56 ?_;intro gb22 hg w20 hbox hb;have BK22:=aM (hbox);have GW22:=aM (gS hg);have GE22:=aM (gS hg);replace HB:=aM (ag bw hb);clear hb hbox hg;have hcz21_0:=cz BK22.out 0;have hcz21_1:=cz BK22.out 1;have hfz21_0:=af BK22.out 0;have hfz21_1:=af BK22.out 1;have p23:0 ≤ (a1:Int):=of_decide_eq_true ab;have q23:a1 < (l0_1.length:Int):=of_decide_eq_true ab;obtain ⟨ad23,e23,hx23_0⟩:=Kd.b8 HR0_1.out a1 p23 q23;(try rw [← Nbq5.out] at hx23_0);cases e23;replace hx23_0:=(HB.out.cell (World.block_lt_of_cell? w _ hx23_0)).trans hx23_0;replace p23:=eq_true p23;replace q23:=eq_true q23)))
  go_ret
  exact ⟨eE,by exact bw⟩


def cx.l0:Nat → Int → List Int → Int → Option (List Int)
 | 0,_,_,_=>none
 | k + 1,x0,x3,x4=>if 0 ≤ x4 then (if (shr .i64 x0 x4) > 0 then (if (Int.tmod (shr .i64 x0 x4) 2) = 1 then (if x3.length < 17592186044416 then (cx.l0 k x0 (x3 ++ [x4]) (wrap64 (x4 + 1))) else (none)) else (cx.l0 k x0 x3 (wrap64 (x4 + 1)))) else (some x3)) else (none)
def cx.f (k:Nat) (a0:Int):Option (List Int):=cx.l0 k a0 ([]:List Int) 0
theorem cx.calls (k:Nat) (a0:Int) (r:List Int) (w:World) (h:cx.f k a0 = some r) :
  Calls Tryz.prog 68 #[.int .i64 a0] w fun e w'=>∃ v0_:Value,e = .returned (v0_) ∧ Kd.R (Kd.int .i64) 3 w' w.heap.size (fun _=>True) v0_ r ∧ Below w.heap.size w w':=by
 have HB:=aM (Below.refl w.heap.size w);have H:(cx.l0 k a0 ([]:List Int) 0) = some r:=h;clear h;have H':=aM H;clear H;go_enter Tryz.func68,Tryz.ntmps68;go_wp2
 go_loopg [3,4] k (fun kq v3 v4 w'=>∃ (x3_1:List Int) (x4_1:Int),v4 = .int .i64 x4_1 ∧ aj (cx.l0 kq a0 x3_1 x4_1 = some r) ∧ aj (kq ≤ k) ∧ aj (Kd.R (Kd.int .i64) 3 w' w.heap.size (fun _=>True) v3 x3_1) ∧ aj (Below w.heap.size w w'))
 case atStart=>exact ⟨(([]:List Int)),(0),qrs,H',⟨Nat.le_refl _⟩,⟨by first|exact Kd.gx _ _ _ _ _|exact Kd.gQ _ _ _ _ _|exact Kd.gP _ _ _ _ _|exact Kd.gU _ _ _ _ _|exact Kd.gW _ _ _ _ _⟩,⟨by exact bw⟩⟩
 case round =>
  clear H';obtain ⟨x3_1,x4_1,rfl,HA,HK1,HO_3,HB⟩:=hrel
  cases gk with
  | zero=>exact absurd HA.out (by simp [cx.l0])
  | succ k1 =>
   have H:=HA.out;clear HA;simp only [cx.l0] at H;replace H:=iN H;obtain ⟨c2,H⟩:=H;have c2b0:=eq_true c2;have c2b1:decide (0 ≤ x4_1) = true:=decide_eq_true c2;clear c2;obtain ⟨ji3,hji3⟩:∃ j_:Int,(shr .i64 a0 x4_1) = j_:=⟨_,rfl⟩;(first|rw [hji3] at H|simp only [hji3] at H)
   have hji3_:(a0 / 2 ^ min x4_1.toNat 64) = ji3:=hji3;have hji3z:x4_1 ≤ 64 → (a0 / 2 ^ x4_1.toNat) = ji3:=ir hji3;by_cases c4:(ji3) > 0
   ·rw [if_pos c4] at H;have c4b0:decide (0 < (ji3)) = true:=decide_eq_true c4;clear c4;have c5b0:=eq_true (of_decide_eq_true ab:0 ≤ x4_1);by_cases c6:(Int.tmod (ji3) 2) = 1
    ·rw [if_pos c6] at H;have c6b0:((Int.tmod (ji3) 2) == 1) = true:=beq_iff_eq.mpr c6;have c6b1:((Int.tmod (ji3) 2) != 1) = false:=bne_eq_false_iff_eq.mpr c6;clear c6;replace H:=iN H;obtain ⟨c7,H⟩:=H;have LMc7:=aM c7;clear c7;obtain ⟨y9,hy9⟩:∃ y_:List Int,y_ = (x3_1 ++ [x4_1]):=⟨_,rfl⟩;replace H:(cx.l0 k1 a0 y9 (wrap64 (x4_1 + 1))) = some r:=yR hy9 H;have Ny9:=aM hy9;clear hy9;have H':=aM H;clear H;go_wp2_with (first|((with_reducible refine dr (b:=.append) (xs:=#[.tmp 16,.tmp 18]) rfl ?_);at_builtin;refine Kd.gg (Kd.int .i64) (w0:=w) w.heap.size rfl (.tmp 16) (.tmp 18) 23 3 (.int .i64 0) 8 rfl Tryz.underlying23 kQ rfl (by decide) (by omega) u3 x3_1 x4_1 [.int .i64 x4_1] (fun _=>True) (fun _=>False) rfl rfl ?aP (fun _ hk=>hk.elim) ?aF ?aO ?aB ?aS ?aL ?_;(case aP=>exact rfl);(case aB=>exact bw);(case aF=>exact (fun _ _=>trivial));(case aO=>exact (qra HO_3.out));(case aS=>exact (av bw));(case aL=>have:=LMc7.out;omega);intro v10 w8 ho hb hg hat;rw [← Ny9.out] at ho;replace HB:=aM (hb);have HO11:=aM (ho);clear HO_3;clear ho hb hg hat))
     go_roundg k1
     case measure=>have:=HK1.out;omega
     case rel=>exact ⟨(y9),(wrap64 (x4_1 + 1)),qrs,H',⟨by have:=HK1.out;omega⟩,⟨qra HO11.out⟩,⟨by exact bw⟩⟩
    ·rw [if_neg c6] at H;have c6b0:((Int.tmod (ji3) 2) == 1) = false:=beq_eq_false_iff_ne.mpr c6;have c6b1:((Int.tmod (ji3) 2) != 1) = true:=bne_iff_ne.mpr c6;have H':=aM H;clear H;go_wp2
     go_roundg k1
     case measure=>have:=HK1.out;omega
     case rel=>exact ⟨(x3_1),(wrap64 (x4_1 + 1)),qrs,H',⟨by have:=HK1.out;omega⟩,⟨qra HO_3.out⟩,⟨by exact bw⟩⟩
   ·rw [if_neg c4] at H;have c4b0:decide (0 < (ji3)) = false:=decide_eq_false c4;clear c4;obtain rfl:=Option.some.inj H;go_wp2
    go_ret
    exact ⟨_,by first|rfl|(simp [cV,cX] <;> rfl)|(simp only [← hji3];first|rfl|(simp [cV,cX] <;> rfl))|(simp [*,cV,cX] <;> rfl),by (with_reducible repeat (first|apply Kd.ca|apply Kd.b7|apply Kd.cu));exact HO_3.out,by exact bw⟩


mutual
def bL.l0:Nat → List Int → List Int → Int → Option (Bool)
 | 0,_,_,_=>none
 | k + 1,x0,x1,x5=>if x5 < (x0.length:Int) then (bL.j1 k x0 x1 x5 (decide (x5 < (x1.length:Int)))) else (bL.j1 k x0 x1 x5 false)
def bL.j1:Nat → List Int → List Int → Int → Bool → Option (Bool)
 | 0,_,_,_,_=>none
 | k + 1,x0,x1,x5,x15=>if x15 = true then (if 0 ≤ x5 then (if x5 < (x0.length:Int) then (if x5 < (x1.length:Int) then (if (rd x0 x5) = (rd x1 x5) then (bL.l0 k x0 x1 (wrap64 (x5 + 1))) else (some (decide ((rd x0 x5) < (rd x1 x5))))) else (none)) else (none)) else (none)) else (some (decide ((x0.length:Int) < (x1.length:Int))))
end
def bL.f (k:Nat) (l0:List Int) (l1:List Int):Option (Bool):=bL.l0 k l0 l1 0
theorem bL.calls (k:Nat) (A0:Option Addr) (c0:Nat) (l0:List Int) (A1:Option Addr) (c1:Nat) (l1:List Int) (r:Bool) (w:World) (hr0:Kd.C (Kd.int .i64) w A0 l0.length l0) (hc0:l0.length ≤ c0) (hr1:Kd.C (Kd.int .i64) w A1 l1.length l1) (hc1:l1.length ≤ c1) (h:bL.f k l0 l1 = some r) :
  Calls Tryz.prog 110 #[.slice A0 l0.length c0,.slice A1 l1.length c1] w fun e w'=>e = .returned (.bool r) ∧ bi w w':=by
 have HR0:=aM hr0;have HC0:=aM hc0;clear hr0 hc0;have HR1:=aM hr1;have HC1:=aM hc1;clear hr1 hc1;have H:(bL.l0 k l0 l1 0) = some r:=h;clear h;have H':=aM H;clear H;go_enter Tryz.func110,Tryz.ntmps110;go_wp2
 repeat (go_quiet (fail);try go_wp2)
 go_loopg [5] k (fun kq v5 w'=>∃ (x5_1:Int),v5 = .int .i64 x5_1 ∧ aj (bL.l0 kq l0 l1 x5_1 = some r) ∧ aj (kq ≤ k) ∧ bi w w')
 case atStart=>exact ⟨(0),qrs,H',⟨Nat.le_refl _⟩,by repeat (first|exact bi.refl _|apply bi.step)⟩
 case round =>
  clear H';(try clear c1)
  obtain ⟨x5_1,rfl,HA,HK1,⟨m1,rfl⟩⟩:=hrel
  cases gk with
  | zero=>exact absurd HA.out (by simp [bL.l0])
  | succ k1 =>
   have H:=HA.out;clear HA;simp only [bL.l0] at H;have HC3:=aM H;clear H;go_upto_region 2 with (fail)
   repeat (go_quiet (fail);go_upto_region 2 with (fail))
   go_cut [15] (fun v15 wc=>∃ (kq:Nat) (x15_2:Bool),v15 = .bool x15_2 ∧ aj (bL.j1 kq l0 l1 x5_1 x15_2 = some r) ∧ aj (kq ≤ k1) ∧ bi w wc)
   case first =>
    have H:=HC3.out;clear HC3;by_cases c4:x5_1 < (l0.length:Int)
    ·rw [if_pos c4] at H;have c4b0:=decide_eq_true c4;clear c4;(first|rw [c4b0]|(simp only [cS,dH];rw [c4b0])|skip)
     have H':=aM H;clear H;go_wp2
     repeat (go_quiet (fail);try go_wp2)
     go_meet
     case rel=>exact ⟨_,(decide (x5_1 < (l1.length:Int))),qrs,H',⟨by have:=HK1.out;first|omega|exact Nat.le_refl _⟩,by repeat (first|exact bi.refl _|apply bi.step)⟩
    ·rw [if_neg c4] at H;have c4b0:=decide_eq_false c4;clear c4;(first|rw [c4b0]|(simp only [cS,dH];rw [c4b0])|skip)
     have H':=aM H;clear H;go_wp2
     repeat (go_quiet (fail);try go_wp2)
     go_meet
     case rel=>exact ⟨_,(false),qrs,H',⟨by have:=HK1.out;first|omega|exact Nat.le_refl _⟩,by repeat (first|exact bi.refl _|apply bi.step)⟩
   case rest =>
    clear HC3;(try clear c4);(try clear c4b0)
    obtain ⟨kq,x15_2,rfl,HA,HJ2,⟨mc2,rfl⟩⟩:=hcut
    cases kq with
    | zero=>exact absurd HA.out (by simp [bL.j1])
    | succ kj2 =>
     have H:=HA.out;clear HA;simp only [bL.j1] at H;by_cases c5:x15_2 = true
     ·subst c5;rw [if_pos rfl] at H;replace H:=iN H;obtain ⟨c6,H⟩:=H;have c6b0:decide (0 ≤ x5_1) = true:=decide_eq_true c6;clear c6;replace H:=iN H;obtain ⟨c7,H⟩:=H;have c7b0:decide (x5_1 < (l0.length:Int)) = true:=decide_eq_true c7;clear c7;replace H:=iN H;obtain ⟨c8,H⟩:=H;have c8b0:decide (x5_1 < (l1.length:Int)) = true:=decide_eq_true c8;clear c8;by_cases c9:(rd l0 x5_1) = (rd l1 x5_1)
      ·rw [if_pos c9] at H;have c9b0:((rd l0 x5_1) == (rd l1 x5_1)) = true:=beq_iff_eq.mpr c9;have c9b1:((rd l0 x5_1) != (rd l1 x5_1)) = false:=bne_eq_false_iff_eq.mpr c9;clear c9;have H':=aM H;clear H;have p10:0 ≤ (x5_1:Int):=of_decide_eq_true ab;have q10:x5_1 < (l0.length:Int):=of_decide_eq_true ab;obtain ⟨ad10,e10,hx10_0⟩:=Kd.dI HR0.out x5_1 p10 q10;cases e10
       replace p10:=eq_true p10;replace q10:=eq_true q10;have p11:0 ≤ (x5_1:Int):=of_decide_eq_true ab;have q11:x5_1 < (l1.length:Int):=of_decide_eq_true ab;obtain ⟨ad11,e11,hx11_0⟩:=Kd.dI HR1.out x5_1 p11 q11;cases e11
       replace p11:=eq_true p11;replace q11:=eq_true q11;go_wp2
       repeat (go_quiet (fail);try go_wp2)
       go_roundg kj2
       case measure=>have:=HK1.out;have:=HJ2.out;omega
       case rel=>exact ⟨(wrap64 (x5_1 + 1)),qrs,H',⟨by have:=HK1.out;have:=HJ2.out;omega⟩,by repeat (first|exact bi.refl _|apply bi.step)⟩
      ·rw [if_neg c9] at H;have c9b0:((rd l0 x5_1) == (rd l1 x5_1)) = false:=beq_eq_false_iff_ne.mpr c9;have c9b1:((rd l0 x5_1) != (rd l1 x5_1)) = true:=bne_iff_ne.mpr c9;obtain rfl:=Option.some.inj H;have p10:0 ≤ (x5_1:Int):=of_decide_eq_true ab;have q10:x5_1 < (l0.length:Int):=of_decide_eq_true ab;obtain ⟨ad10,e10,hx10_0⟩:=Kd.dI HR0.out x5_1 p10 q10;cases e10
       replace p10:=eq_true p10;replace q10:=eq_true q10;have p11:0 ≤ (x5_1:Int):=of_decide_eq_true ab;have q11:x5_1 < (l1.length:Int):=of_decide_eq_true ab;obtain ⟨ad11,e11,hx11_0⟩:=Kd.dI HR1.out x5_1 p11 q11;cases e11
       replace p11:=eq_true p11;replace q11:=eq_true q11;have p12:0 ≤ (x5_1:Int):=of_decide_eq_true ab;have q12:x5_1 < (l0.length:Int):=of_decide_eq_true ab;obtain ⟨ad12,e12,hx12_0⟩:=Kd.dI HR0.out x5_1 p12 q12;obtain rfl:ad10 = ad12:=(by injection e12);replace p12:=eq_true p12;replace q12:=eq_true q12;have p13:0 ≤ (x5_1:Int):=of_decide_eq_true ab;have q13:x5_1 < (l1.length:Int):=of_decide_eq_true ab;obtain ⟨ad13,e13,hx13_0⟩:=Kd.dI HR1.out x5_1 p13 q13;obtain rfl:ad11 = ad13:=(by injection e13);replace p13:=eq_true p13;replace q13:=eq_true q13;go_wp2
       repeat (go_quiet (fail);try go_wp2)
       go_ret
       exact ⟨qrs,dR⟩
     ·replace c5:=Bool.eq_false_iff.mpr c5;subst c5;rw [if_neg (show ¬ (false = true) by decide)] at H;obtain rfl:=Option.some.inj H;go_wp2
      repeat (go_quiet (fail);try go_wp2)
      go_ret
      exact ⟨qrs,dR⟩


def cE.l0:Nat → (Int → Option (Bool)) → List Int → Int → Int → Option (List Int)
 | 0,_,_,_,_=>none
 | k + 1,x1,x5,x8,x9=>if x9 < x8 then ((x1 x9).bind fun t2=>(if t2 = true then (if x5.length < 17592186044416 then (cE.l0 k x1 (x5 ++ [x9]) x8 (wrap64 (x9 + 1))) else (none)) else (cE.l0 k x1 x5 x8 (wrap64 (x9 + 1))))) else (some x5)
def cE.f (k:Nat) (a0:Int) (a1:(Int → Option (Bool))):Option (List Int):=cE.l0 k a1 (([]:List Int)) a0 0
theorem cE.calls (k:Nat) (a0:Int) (a1:(Int → Option (Bool))) (g1_:Nat) (lb1_:Array Value) (eg1_:∀ (args:Array Value) (w:World),(callFunc g1_ args).run Tryz.prog w = .ok (.enter g1_ args) w) (r:List Int) (w:World) (hp1:∀ (W:World) (b0_:Int) (r0_:Bool),a1 b0_ = some r0_ → Below w.heap.size w W → Calls Tryz.prog g1_ (#[.int .i64 b0_] ++ lb1_) W fun e w'=>e = .returned (.bool r0_) ∧ Below W.heap.size W w') (h:cE.f k a0 a1 = some r) :
  Calls Tryz.prog 38 #[.int .i64 a0,.func (.func g1_) #[] lb1_] w fun e w'=>∃ v0_:Value,e = .returned (v0_) ∧ Kd.R (Kd.int .i64) 3 w' w.heap.size (fun _=>True) v0_ r ∧ Below w.heap.size w w':=by
 have HP1:=aM hp1;clear hp1;have HB:=aM (Below.refl w.heap.size w);have H:(cE.l0 k a1 (([]:List Int)) a0 0) = some r:=h;clear h;obtain ⟨y12,hy12⟩:∃ y_:List Int,y_ = (([]:List Int)):=⟨_,rfl⟩;replace H:(cE.l0 k a1 y12 a0 0) = some r:=yR hy12 H;have Ny12:=aM hy12;clear hy12;have H':=aM H;clear H;go_enter Tryz.func38,Tryz.ntmps38;go_wp2_with (first|((with_reducible refine aC (N:=7) rfl ?_);refine Kd.lC (Kd.int .i64) _ 3 ?hg (N:=7) ?hd (xs:=([]:List Int)) (inner:=[]) (ok:=fun _=>True) (okp:=fun _=>True) ?hr ?hp (fun _ hk=>hk) trivial (Below.refl _ _) (Nat.le_refl _) (by simp) ?_;(case hd=>rfl);(case hg=>rfl);(case hr=>first|(go_simp;done)|(go_simp;rfl));(case hp=>exact (eH.none _ _));intro v13 w3 ho4 hb hg_ hnew_;clear hg_ hnew_;(first|rw [← Ny12.out] at ho4|(simp only [Int.reduceToNat] at ho4;rw [← Ny12.out] at ho4));have HO14:=aM (Kd.cr ho4 (av bw));replace HB:=aM (ag bw hb);clear hb ho4))
 go_loopg [5,9] k (fun kq v5 v9 w'=>∃ (x5_1:List Int) (x9_1:Int),v9 = .int .i64 x9_1 ∧ aj (cE.l0 kq a1 x5_1 a0 x9_1 = some r) ∧ aj (kq ≤ k) ∧ aj (Kd.R (Kd.int .i64) 3 w' w.heap.size (fun _=>True) v5 x5_1) ∧ aj (Below w.heap.size w w'))
 case atStart=>exact ⟨(y12),(0),qrs,H',⟨Nat.le_refl _⟩,⟨qra HO14.out⟩,⟨by exact bw⟩⟩
 case round =>
  clear H';obtain ⟨x5_1,x9_1,rfl,HA,HK1,HO_5,HB⟩:=hrel
  cases gk with
  | zero=>exact absurd HA.out (by simp [cE.l0])
  | succ k1 =>
   have H:=HA.out;clear HA;simp only [cE.l0] at H;by_cases c5:x9_1 < a0
   ·rw [if_pos c5] at H;have c5b0:=decide_eq_true c5;clear c5;replace H:=oB H;obtain ⟨t15,A6,H⟩:=H;(try dsimp only at H)
    by_cases c7:t15 = true
    ·subst c7;rw [if_pos rfl] at H;replace H:=iN H;obtain ⟨c8,H⟩:=H;have LMc8:=aM c8;clear c8;obtain ⟨y16,hy16⟩:∃ y_:List Int,y_ = (x5_1 ++ [x9_1]):=⟨_,rfl⟩;replace H:(cE.l0 k1 a1 y16 a0 (wrap64 (x9_1 + 1))) = some r:=yR hy16 H;have Ny16:=aM hy16;clear hy16;have H':=aM H;clear H;go_wp2_with (first|((with_reducible refine gu (t:=12) rfl ?_);refine gJ (some 14) rfl rfl eg1_ #[.int .i64 x9_1] rfl rfl mq ?_;(with_reducible refine (HP1.out _ x9_1 true A6.out ?side1).mono ?_);(case side1=>exact bw);rintro e w9 ⟨rfl,hb⟩;refine ⟨_,rfl,?_⟩;replace HO_5:=aM (Kd.ba (qra HO_5.out) hb);replace HB:=aM (ag bw hb);(try clear hb);(try clear hk))|((with_reducible refine dr (b:=.append) (xs:=#[.tmp 15,.tmp 17]) rfl ?_);at_builtin;refine Kd.gg (Kd.int .i64) (w0:=w) w.heap.size rfl (.tmp 15) (.tmp 17) 23 3 (.int .i64 0) 8 rfl Tryz.underlying23 kQ rfl (by decide) (by omega) u5 x5_1 x9_1 [.int .i64 x9_1] (fun _=>True) (fun _=>False) rfl rfl ?aP (fun _ hk=>hk.elim) ?aF ?aO ?aB ?aS ?aL ?_;(case aP=>exact rfl);(case aB=>exact bw);(case aF=>exact (fun _ _=>trivial));(case aO=>exact (qra HO_5.out));(case aS=>exact (av bw));(case aL=>have:=LMc8.out;omega);intro v17 w10 ho hb hg hat;rw [← Ny16.out] at ho;replace HB:=aM (hb);have HO18:=aM (ho);clear HO_5;clear ho hb hg hat))
     go_roundg k1
     case measure=>have:=HK1.out;omega
     case rel=>exact ⟨(y16),(wrap64 (x9_1 + 1)),qrs,H',⟨by have:=HK1.out;omega⟩,⟨qra HO18.out⟩,⟨by exact bw⟩⟩
    ·replace c7:=Bool.eq_false_iff.mpr c7;subst c7;rw [if_neg (show ¬ (false = true) by decide)] at H;have H':=aM H;clear H;go_wp2_with (first|((with_reducible refine gu (t:=12) rfl ?_);refine gJ (some 14) rfl rfl eg1_ #[.int .i64 x9_1] rfl rfl mq ?_;(with_reducible refine (HP1.out _ x9_1 false A6.out ?side1).mono ?_);(case side1=>exact bw);rintro e w11 ⟨rfl,hb⟩;refine ⟨_,rfl,?_⟩;replace HO_5:=aM (Kd.ba (qra HO_5.out) hb);replace HB:=aM (ag bw hb);(try clear hb);(try clear hk)))
     go_roundg k1
     case measure=>have:=HK1.out;omega
     case rel=>exact ⟨(x5_1),(wrap64 (x9_1 + 1)),qrs,H',⟨by have:=HK1.out;omega⟩,⟨qra HO_5.out⟩,⟨by exact bw⟩⟩
   ·rw [if_neg c5] at H;have c5b0:=decide_eq_false c5;clear c5;obtain rfl:=Option.some.inj H;go_wp2
    go_ret
    exact ⟨_,eE,by (with_reducible repeat (first|apply Kd.ca|apply Kd.b7|apply Kd.cu));exact HO_5.out,by exact bw⟩


def bl.l0:Nat → List Bool → List Bool → Int → Int → Option (Bool)
 | 0,_,_,_,_=>none
 | k + 1,x0,x1,x12,x13=>if x13 < x12 then (if 0 ≤ x13 then (if x13 < (x0.length:Int) then (if x13 < (x1.length:Int) then (if ((dE false x0 x13) != (dE false x1 x13)) = true then (some false) else (bl.l0 k x0 x1 x12 (wrap64 (x13 + 1)))) else (none)) else (none)) else (none)) else (some true)
def bl.f (k:Nat) (l0:List Bool) (l1:List Bool):Option (Bool):=if (l0.length:Int) = (l1.length:Int) then (bl.l0 k l0 l1 (l0.length:Int) 0) else (some false)
theorem bl.calls (k:Nat) (A0:Option Addr) (c0:Nat) (l0:List Bool) (A1:Option Addr) (c1:Nat) (l1:List Bool) (r:Bool) (w:World) (hr0:Kd.C Kd.bool w A0 l0.length l0) (hc0:l0.length ≤ c0) (hr1:Kd.C Kd.bool w A1 l1.length l1) (hc1:l1.length ≤ c1) (h:bl.f k l0 l1 = some r) :
  Calls Tryz.prog 76 #[.slice A0 l0.length c0,.slice A1 l1.length c1] w fun e w'=>e = .returned (.bool r) ∧ bi w w':=by
 have HR0:=aM hr0;have HC0:=aM hc0;clear hr0 hc0;have HR1:=aM hr1;have HC1:=aM hc1;clear hr1 hc1;have H:(if (l0.length:Int) = (l1.length:Int) then (bl.l0 k l0 l1 (l0.length:Int) 0) else (some false)) = some r:=h;clear h;by_cases c3:(l0.length:Int) = (l1.length:Int)
 ·rw [if_pos c3] at H;have c3b0:((l0.length:Int) == (l1.length:Int)) = true:=beq_iff_eq.mpr c3;have c3b1:((l0.length:Int) != (l1.length:Int)) = false:=bne_eq_false_iff_eq.mpr c3;have c3b2:(l0.length == l1.length) = true:=by first|simpa using c3|(simp at c3 ⊢;omega)
  clear c3;have H':=aM H;clear H;go_enter Tryz.func76,Tryz.ntmps76;go_wp2
  repeat (go_quiet (fail);try go_wp2)
  go_loopg [13] k (fun kq v13 w'=>∃ (x13_1:Int),v13 = .int .i64 x13_1 ∧ aj (bl.l0 kq l0 l1 (l0.length:Int) x13_1 = some r) ∧ aj (kq ≤ k) ∧ bi w w')
  case atStart=>exact ⟨(0),qrs,H',⟨Nat.le_refl _⟩,by repeat (first|exact bi.refl _|apply bi.step)⟩
  case round =>
   clear H';(try clear c1);(try clear c3);(try clear c3b0);(try clear c3b1);(try clear c3b2)
   obtain ⟨x13_1,rfl,HA,HK1,⟨m1,rfl⟩⟩:=hrel
   cases gk with
   | zero=>exact absurd HA.out (by simp [bl.l0])
   | succ k1 =>
    have H:=HA.out;clear HA;simp only [bl.l0] at H;by_cases c4:x13_1 < (l0.length:Int)
    ·rw [if_pos c4] at H;have c4b0:=decide_eq_true c4;clear c4;replace H:=iN H;obtain ⟨c5,H⟩:=H;have c5b0:decide (0 ≤ x13_1) = true:=decide_eq_true c5;clear c5;replace H:=iN H;obtain ⟨c6,H⟩:=H;have c6b0:decide (x13_1 < (l0.length:Int)) = true:=decide_eq_true c6;clear c6;replace H:=iN H;obtain ⟨c7,H⟩:=H;have c7b0:decide (x13_1 < (l1.length:Int)) = true:=decide_eq_true c7;clear c7;by_cases c8:((dE false l0 x13_1) != (dE false l1 x13_1)) = true
     ·rw [if_pos c8] at H;have c8b0:((dE false l0 x13_1) != (dE false l1 x13_1)) = true:=c8;(try (have c8b1:decide ((dE false l0 x13_1) = (dE false l1 x13_1)) = false:=by simpa using c8))
      (try (have c8b2:((dE false l0 x13_1) == (dE false l1 x13_1)) = false:=by simpa using c8))
      (try (have c8b3:¬ ((dE false l0 x13_1) = (dE false l1 x13_1)):=by simpa using c8))
      clear c8;obtain rfl:=Option.some.inj H;have p9:0 ≤ (x13_1:Int):=of_decide_eq_true ab;have q9:x13_1 < (l0.length:Int):=of_decide_eq_true ab;obtain ⟨ad9,e9,hx9_0⟩:=Kd.b8 HR0.out x13_1 p9 q9;cases e9
      replace p9:=eq_true p9;replace q9:=eq_true q9;have p10:0 ≤ (x13_1:Int):=of_decide_eq_true ab;have q10:x13_1 < (l1.length:Int):=of_decide_eq_true ab;obtain ⟨ad10,e10,hx10_0⟩:=Kd.b8 HR1.out x13_1 p10 q10;cases e10
      replace p10:=eq_true p10;replace q10:=eq_true q10;go_wp2
      repeat (go_quiet (fail);try go_wp2)
      go_ret
      exact ⟨qrs,dR⟩
     ·rw [if_neg c8] at H;have c8b0:((dE false l0 x13_1) != (dE false l1 x13_1)) = false:=by simpa using c8
      (try (have c8b1:decide ((dE false l0 x13_1) = (dE false l1 x13_1)) = true:=by simpa using c8))
      (try (have c8b2:((dE false l0 x13_1) == (dE false l1 x13_1)) = true:=by simpa using c8))
      clear c8;have H':=aM H;clear H;have p9:0 ≤ (x13_1:Int):=of_decide_eq_true ab;have q9:x13_1 < (l0.length:Int):=of_decide_eq_true ab;obtain ⟨ad9,e9,hx9_0⟩:=Kd.b8 HR0.out x13_1 p9 q9;cases e9
      replace p9:=eq_true p9;replace q9:=eq_true q9;have p10:0 ≤ (x13_1:Int):=of_decide_eq_true ab;have q10:x13_1 < (l1.length:Int):=of_decide_eq_true ab;obtain ⟨ad10,e10,hx10_0⟩:=Kd.b8 HR1.out x13_1 p10 q10;cases e10
      replace p10:=eq_true p10;replace q10:=eq_true q10;go_wp2
      repeat (go_quiet (fail);try go_wp2)
      go_roundg k1
      case measure=>have:=HK1.out;omega
      case rel=>exact ⟨(wrap64 (x13_1 + 1)),qrs,H',⟨by have:=HK1.out;omega⟩,by repeat (first|exact bi.refl _|apply bi.step)⟩
    ·rw [if_neg c4] at H;have c4b0:=decide_eq_false c4;clear c4;obtain rfl:=Option.some.inj H;go_wp2
     repeat (go_quiet (fail);try go_wp2)
     go_ret
     exact ⟨qrs,dR⟩
 ·rw [if_neg c3] at H;have c3b0:((l0.length:Int) == (l1.length:Int)) = false:=beq_eq_false_iff_ne.mpr c3;have c3b1:((l0.length:Int) != (l1.length:Int)) = true:=bne_iff_ne.mpr c3;have c3b2:(l0.length == l1.length) = false:=by first|simpa using c3|(simp at c3 ⊢;omega)
  obtain rfl:=Option.some.inj H;go_enter Tryz.func76,Tryz.ntmps76;go_wp2
  repeat (go_quiet (fail);try go_wp2)
  go_ret
  exact ⟨qrs,dR⟩


def dD.f (k:Nat) (a0_0:Int) (l0_1:List Bool) (a1_0:Int) (l1_1:List Bool):Option (Bool):=(bl.f k l0_1 l1_1).bind fun t2=>(some t2)
theorem dD.calls (k:Nat) (a0_0:Int) (A0_1:Option Addr) (c0_1:Nat) (l0_1:List Bool) (a1_0:Int) (A1_1:Option Addr) (c1_1:Nat) (l1_1:List Bool) (r:Bool) (w:World) (hr0_1:Kd.C Kd.bool w A0_1 l0_1.length l0_1) (hc0_1:l0_1.length ≤ c0_1) (hr1_1:Kd.C Kd.bool w A1_1 l1_1.length l1_1) (hc1_1:l1_1.length ≤ c1_1) (h:dD.f k a0_0 l0_1 a1_0 l1_1 = some r) :
  Calls Tryz.prog 42 #[.agg #[.int .i64 a0_0,.slice A0_1 l0_1.length c0_1],.agg #[.int .i64 a1_0,.slice A1_1 l1_1.length c1_1]] w fun e w'=>e = .returned (.bool r) ∧ Below w.heap.size w w':=by
 have hu56:=Tryz.underlying56;have HR0_1:=aM hr0_1;have HC0_1:=aM hc0_1;clear hr0_1 hc0_1;have HR1_1:=aM hr1_1;have HC1_1:=aM hc1_1;clear hr1_1 hc1_1;have HB:=aM (Below.refl w.heap.size w);have H:((bl.f k l0_1 l1_1).bind fun t11=>(some t11)) = some r:=h;clear h;replace H:=oB H;obtain ⟨t11,A3,H⟩:=H;(try dsimp only at H)
 obtain rfl:=Option.some.inj H;go_enter Tryz.func42,Tryz.ntmps42;go_wp2_with (first|((with_reducible refine aC (N:=2) rfl ?_);refine bE 2 #[.int .i64 a0_0,.slice A0_1 l0_1.length c0_1] 56 ?_;intro gb9 hg w4 hbox hb;have BK9:=aM (hbox);have GW9:=aM (gS hg);have GE9:=aM (gS hg);replace HB:=aM (ag bw hb);clear hb hbox hg)|((with_reducible refine aC (N:=3) rfl ?_);refine bE 3 #[.int .i64 a1_0,.slice A1_1 l1_1.length c1_1] 56 ?_;intro gb10 hg w5 hbox hb;have BK10:=aM (hbox);have GW10:=aM (gS hg);have GE10:=aM (gS hg);replace HB:=aM (ag bw hb);have NB9_10:=aM (nL BK9.out hg);have NB10_9:=aM (nR BK9.out hg);replace BK9:=aM (bB BK9.out hb);clear hb hbox hg;have hnb6:=NB9_10.out;have hnc6:=NB10_9.out;have hcz7_0:=cz BK9.out 0;have hcz7_1:=cz BK9.out 1;have hfz7_0:=af BK9.out 0;have hfz7_1:=af BK9.out 1;have hcz8_0:=cz BK10.out 0;have hcz8_1:=cz BK10.out 1;have hfz8_0:=af BK10.out 0;have hfz8_1:=af BK10.out 1)|((with_reducible refine ai (f:=76) rfl ?_);refine gL 9 Tryz.func76 #[.slice A0_1 l0_1.length c0_1,.slice A1_1 l1_1.length c1_1] ?_;(with_reducible refine (bl.calls k _ _ l0_1 _ _ l1_1 t11 _ ?side1 ?side2 ?side3 ?side4 A3.out).mono ?_);(case side1=>exact qcs HR0_1.out HB.out);(case side2=>exact HC0_1.out);(case side3=>exact qcs HR1_1.out HB.out);(case side4=>exact HC1_1.out);rintro e w' ⟨rfl,⟨nd,rfl⟩⟩;refine ⟨_,rfl,?_⟩))
 go_ret
 exact ⟨eE,by exact bw⟩


theorem ay.ones {w : World} {l : List aa} {news : List Value} (h : eH (ak.K w) 2 l news) : ∀ u ∈ news, u.oneCell' = true := by
  intro u hu
  obtain ⟨q, hq, rfl⟩ := List.mem_iff_getElem.1 hu
  have hql : q / 2 < l.length := by
    rw [Nat.div_lt_iff_lt_mul (by decide)]
    rw [← h.1]
    exact hq
  have hc := h.2 (q / 2) _ (List.getElem?_eq_getElem hql)
  refine ak.K_one hc _ ?_
  rw [List.mem_iff_getElem?]
  refine ⟨q % 2, ?_⟩
  rw [List.getElem?_take, if_pos (Nat.mod_lt _ (by decide)), List.getElem?_drop, Nat.mul_comm, Nat.div_add_mod, List.getElem?_eq_getElem hq]
theorem ay.clone (A : Option Addr) (c : Nat) (l : List aa) (w : World) (h : Kd.C ak w A l.length l) (hl : 0 < l.length) (hm : l.length < 1000000) :
    Calls Tryz.prog 41 #[.slice A l.length c] w fun e w' => ∃ g cap cs, e = .returned (.slice (some ⟨g, 0, none⟩) l.length cap) ∧ w.heap.size ≤ g ∧ w'.heap[g]? = some (.cells cs 25 (0, 0)) ∧ l.length ≤ cap ∧ cap ≤ maxLen ∧ cs.size = cap * 2 ∧ eH (ak.K w) 2 l (cs.toList.take (l.length * 2)) ∧ Below w.heap.size w w' := by
  have hq_ : ∀ (w : World) (a : Option Addr) (n c n' c' : Nat), (binOp .eql 22 (.slice a n c) (.slice none n' c')).run Tryz.prog w = .ok (.bool a.isNone) w := fun w a n c n' c' => Lib.run_eql_slice_nil w _ _ a n c n' c' Tryz.underlying22
  obtain ⟨ad, rfl, _⟩ := h.2.2 hl
  obtain ⟨news, hnr, hnc⟩ := ed.mj h
  have hnr : eH (ak.K w) 2 l news := hnr
  have hone := ay.ones hnr
  obtain ⟨i0, hi, hzz⟩ := Option.map_eq_some_iff.1 fh
  simp only [Prod.mk.injEq] at hzz
  obtain ⟨hz0, hz1, hz2⟩ := hzz
  have X : aj (∀ j u, news[j]? = some u → w.cell? (ad.add j) = some u) := ⟨hnc⟩
  clear hnc h
  go_enter Tryz.func41, Tryz.ntmps41
  go_wp2_with (at_builtin; refine wpList_append_own _ rfl _ _ 22 rfl w.heap.size 25 i0 _ 2 32 Tryz.underlying22 hi hz0 hz1 hz2 rfl (by decide) _ _ _ rfl (World.ownsRow_made w #[] 0 (Nat.le_refl _) (Nat.zero_le _) (by simp)) ad l.length c news rfl ?qc1 ?qc2 ?qc3 ?qc4 ?qc5 ?qc6 ?_)
  case qc1 => exact hnr.1
  case qc2 =>
    intro j u hj
    exact Lib.cell?_alloc_some _ (X.out j u hj)
  case qc3 => exact hone
  case qc4 => rw [Nat.zero_add]; simp only [maxLen]; omega
  case qc5 => rw [Nat.zero_add]; omega
  case qc6 => simp
  intro v' w1 hown hgrow hnil
  go_wp2
  go_ret
  have hb : Below w.heap.size w w1 := ((Below.refl _ w).alloc (Nat.le_refl _) _).grown hgrow (by simp) (by intro k hk; simp [Value.ownBlock] at hk; omega)

  obtain ⟨hl2, ⟨_, hz⟩ | ⟨g, cap, cur, rfl, hbg, hgg, hnc, hcm, hcs, hct⟩⟩ := hown
  · omega
  · exact ⟨g, cap, cur, rfl, hbg, hgg, hnc, hcm, hcs, hct ▸ hnr, hb⟩
theorem ay.iq {g : Nat} {t : TypeId} : ∀ (vs : List Value) (o : Nat) (w : World) (cs : Array Value), w.heap[g]? = some (.cells cs t (0, 0)) → o + vs.length ≤ cs.size → ∃ cs', (w.setCells g o vs).heap[g]? = some (.cells cs' t (0, 0)) ∧ cs'.toList = cs.toList.take o ++ vs ++ cs.toList.drop (o + vs.length)
  | [], o, w, cs, h, ho => ⟨cs, h, by simp⟩
  | v :: vs, o, w, cs, h, ho => by
    rw [List.length_cons] at ho
    obtain ⟨cs', h1, h2⟩ := ay.iq vs (o + 1) (w.setCell ⟨g, o, none⟩ v) (cs.setIfInBounds o v) (lZ h o v) (by rw [Array.size_setIfInBounds]; omega)
    refine ⟨cs', h1, h2.trans ?_⟩
    have hl : o < cs.toList.length := by rw [Array.length_toList]; omega
    rw [Array.toList_setIfInBounds, List.length_cons]
    have e1 : (cs.toList.set o v).take (o + 1) = cs.toList.take o ++ [v] := by
      rw [List.take_set, List.set_eq_take_append_cons_drop]
      have : (cs.toList.take (o + 1)).length = o + 1 := by rw [List.length_take]; omega
      rw [if_pos (by omega), List.take_take, Nat.min_eq_left (by omega), List.drop_eq_nil_of_le (by omega)]
    have e2 : (cs.toList.set o v).drop (o + 1 + vs.length) = cs.toList.drop (o + (vs.length + 1)) := by
      rw [List.drop_set_of_lt (by omega)]
      congr 1
      omega
    rw [e1, e2]
    simp
theorem ay.iA {B g : Nat} {a : World} (hg : B ≤ g) : ∀ (vs : List Value) (o : Nat) (w : World), Below B a w → Below B a (w.setCells g o vs)
  | [], _, _, h => h
  | v :: vs, o, w, h => ay.iA hg vs (o + 1) _ (h.setCell hg v)
theorem ay.clears (w : World) (ty : TypeId) (b o c : Nat) (cs : Array Value) (t : TypeId) (hb : w.heap[b]? = some (.cells cs t (0, 0))) (ho : o + 2 ≤ cs.size) :
    (Builtin.clear_ #[22] ty #[.slice (some ⟨b, o, none⟩) 1 c]).run Tryz.prog w = .ok (.tuple #[]) (w.setCells b o [.int .i64 0, .slice none 0 0]) := by
  have hst := run_storeCells_cells (P := Tryz.prog) b o [.int .i64 0, .slice none 0 0] 0 w (fun j hj => by rw [Nat.add_zero, aE hb, Array.getElem?_eq_getElem (by simp at hj; omega)]; rfl) (fun j hj => af hb _) (fun v hv => by rcases List.mem_cons.1 hv with rfl | hv; rfl; rcases List.mem_cons.1 hv with rfl | hv; rfl; cases hv)
  simp only [Nat.add_zero] at hst
  have hv : (zeroValue 25).run Tryz.prog w = .ok (.agg #[.int .i64 0, .slice none 0 0]) w := by kernel_rfl
  have hzc : (Builtin.zeroCells (Value.agg #[.int .i64 0, .slice none 0 0]).cells 1).toList = [.int .i64 0, .slice none 0 0] := by kernel_rfl
  simp [Builtin.clear_, run_underlying Tryz.underlying22, hv, hzc, hst]
theorem ay.delete (g cap n i j : Nat) (hij : j = i + 1) (cs : Array Value) (w : World) (hg : w.heap[g]? = some (.cells cs 25 (0, 0))) (hnc : n ≤ cap) (hcm : cap ≤ 9223372036854775807) (hcs : cs.size = cap * 2) (hin : i < n) (h1 : ∀ u ∈ cs.toList.take (n * 2), u.oneCell' = true) :
    Calls Tryz.prog 40 #[.slice (some ⟨g, 0, none⟩) n cap, .int .i64 (i : Int), .int .i64 (j : Int)] w fun e w' => e = .returned (.slice (some ⟨g, 0, none⟩) (n - 1) cap) ∧ ∃ cs', w'.heap[g]? = some (.cells cs' 25 (0, 0)) ∧ cs'.size = cap * 2 ∧ cs'.toList.take ((n - 1) * 2) = cs.toList.take (i * 2) ++ (cs.toList.take (n * 2)).drop (j * 2) ∧ ∀ B a, B ≤ g → Below B a w → Below B a w' := by
  obtain ⟨news, hnews⟩ : ∃ news, news = (cs.toList.take (n * 2)).drop (j * 2) := ⟨_, rfl⟩
  have hlen : news.length = (n - j) * 2 := by rw [hnews, List.length_drop, List.length_take, Array.length_toList]; omega
  obtain ⟨i0, hi, hzz⟩ := Option.map_eq_some_iff.1 fh
  simp only [Prod.mk.injEq] at hzz
  obtain ⟨hz0, hz1, hz2⟩ := hzz
  obtain ⟨A, hA, hsrc⟩ : ∃ A : Addr, (if cap = j then some (⟨g, 0, none⟩ : Addr) else some ⟨g, j * 2, none⟩) = some A ∧ aj (∀ t u, news[t]? = some u → w.drew.cell? (A.add t) = some u) := by
    by_cases h : cap = j
    · refine ⟨⟨g, 0, none⟩, by simp [h], ⟨fun t u hu => ?_⟩⟩
      have h0 : news.length = 0 := by rw [hlen]; omega
      rw [List.length_eq_zero_iff.1 h0] at hu
      simp at hu
    · refine ⟨⟨g, j * 2, none⟩, by simp [h], ⟨fun t u hu => ?_⟩⟩
      rw [hnews, List.getElem?_drop, List.getElem?_take] at hu
      rw [Addr.add_lit]
      show w.cell? ⟨g, j * 2 + t, none⟩ = some u
      rw [aE hg, ← Array.getElem?_toList]
      split at hu
      · exact hu
      · cases hu
  have s1 : aj (news.length = (n - j) * 2) := ⟨hlen⟩
  have s2 : aj (∀ u ∈ news, u.oneCell' = true) := ⟨fun u hu => h1 u (by rw [hnews] at hu; exact List.mem_of_mem_drop hu)⟩
  have s3 : aj (∀ t, t < news.length → (w.drew.cell? ⟨g, 0 + i * 2 + t, none⟩).isSome = true ∧ w.drew.frozen? ⟨g, 0 + i * 2 + t, none⟩ = false) := ⟨by
    intro t ht
    rw [hlen] at ht
    refine ⟨?_, ?_⟩
    · show (w.cell? ⟨g, 0 + i * 2 + t, none⟩).isSome = true
      rw [aE hg, Array.getElem?_eq_getElem (by omega)]; rfl
    · show w.frozen? ⟨g, 0 + i * 2 + t, none⟩ = false
      exact af hg _⟩
  obtain ⟨W1, hW1⟩ : ∃ W1, W1 = w.drew.setCells g (0 + i * 2) news := ⟨_, rfl⟩
  obtain ⟨cs1, hb1, ht1⟩ := ay.iq news (0 + i * 2) w.drew cs (show w.drew.heap[g]? = _ from hg) (by rw [hlen]; omega)
  rw [← hW1] at hb1
  have hsz1 : cs1.size = cap * 2 := by
    have hx := congrArg List.length ht1
    simp only [List.length_append, List.length_take, List.length_drop, Array.length_toList, hlen] at hx
    omega
  have hcl : ∀ ty, (Builtin.clear_ #[22] ty #[.slice (some ⟨g, (i + (n - j)) * 2, none⟩) (n - (i + (n - j))) (cap - (i + (n - j)))]).run Tryz.prog W1 = .ok (.tuple #[]) (W1.setCells g ((i + (n - j)) * 2) [.int .i64 0, .slice none 0 0]) := fun ty => by
    rw [show n - (i + (n - j)) = 1 by omega]
    exact ay.clears W1 ty g _ _ cs1 _ hb1 (by omega)
  have hW : aj (W1 = w.drew.setCells g (0 + i * 2) news) := ⟨hW1⟩
  have X : aj (W1.heap[g]? = some (.cells cs1 25 (0, 0))) := ⟨hb1⟩
  have mixed : Tryz.prog.follows .mixedOrders = true := rfl
  have hne : i ≠ j := by omega
  have hile : i ≤ j := by omega
  have hjn : j ≤ n := by omega
  have hic : i ≤ cap := by omega
  have hjc : j ≤ cap := by omega
  have HIJ : aj (j = i + 1) := ⟨hij⟩
  have HT : aj (cs1.toList = cs.toList.take (0 + i * 2) ++ news ++ cs.toList.drop (0 + i * 2 + news.length)) := ⟨ht1⟩
  have HN : aj (news = (cs.toList.take (n * 2)).drop (j * 2)) := ⟨hnews⟩
  clear hb1 hij ht1 hlen hnews hW1
  have HG : aj (w.heap[g]? = some (.cells cs 25 (0, 0))) := ⟨hg⟩
  clear hg
  go_enter Tryz.func40, Tryz.ntmps40
  go_wp2_with fail
  go_region_law_o (refine step_append_room rfl (.tmp 22) (.tmp 25) 22 rfl 25 i0 2 Tryz.underlying22 hi hz1 g 0 i cap (by simp [Act.eval, Act.put]) A (n - j) (cap - j) news (by simp [Act.eval, Act.put]) s1.out hsrc.out s2.out (by omega) s3.out ?_; rw [← hW.out])
  go_wp2
  go_ret
  have hij := HIJ.out
  have hlen := s1.out
  obtain ⟨cs2, hb2, ht2⟩ := ay.iq [.int .i64 0, .slice none 0 0] ((i + (n - j)) * 2) W1 cs1 X.out (by simp only [List.length_cons, List.length_nil]; omega)
  refine ⟨by rw [show n - 1 = i + (n - j) by omega]; rfl, cs2, hb2, ?_, ?_, ?_⟩
  · have hx := congrArg List.length ht2
    simp only [List.length_append, List.length_take, List.length_drop, Array.length_toList, List.length_cons, List.length_nil] at hx
    omega
  · have hl1 : (cs1.toList.take ((i + (n - j)) * 2)).length = (i + (n - j)) * 2 := by rw [List.length_take, Array.length_toList]; omega
    have hl0 : (cs.toList.take (i * 2)).length = i * 2 := by rw [List.length_take, Array.length_toList]; omega
    rw [ht2, show (n - 1) * 2 = (i + (n - j)) * 2 by omega, List.append_assoc, List.take_append_of_le_length (by omega), List.take_take, Nat.min_self, HT.out, ← HN.out, Nat.zero_add, List.take_append_of_le_length (by rw [List.length_append, hl0, hlen]; omega), List.take_of_length_le (by rw [List.length_append, hl0, hlen]; omega)]
  · intro B a hB hb
    refine ay.iA hB _ _ _ ?_
    rw [hW.out]
    exact ay.iA hB _ _ _ (gz hb)
theorem ay.reps {R : aa → List Value → Prop} {l : List aa} {cs : List Value} (h : eH R 2 l cs) (i : Nat) (hi : i < l.length) : eH R 2 (l.eraseIdx i) (cs.take (i * 2) ++ cs.drop ((i + 1) * 2)) := by
  rw [List.eraseIdx_eq_take_drop_succ]
  refine Kd.iV ⟨?_, fun j p hj => ?_⟩ ⟨?_, fun j p hj => ?_⟩
  · rw [List.length_take, List.length_take, h.1]; omega
  · rw [List.getElem?_take] at hj
    split at hj
    · have := h.2 j p hj
      rw [List.drop_take, List.take_take, Nat.min_eq_left (by omega)]
      exact this
    · cases hj
  · rw [List.length_drop, List.length_drop, h.1]; omega
  · rw [List.getElem?_drop] at hj
    have := h.2 _ p hj
    rw [List.drop_drop, show (i + 1) * 2 + j * 2 = (i + 1 + j) * 2 by omega]
    exact this
theorem ay.cut (l : List aa) (g cap : Nat) (a0 : Int) (cs : Array Value) (w7 w : World) (hg7 : w7.heap.size ≤ g) (hg : w.heap[g]? = some (.cells cs 25 (0, 0))) (hnc : l.length ≤ cap) (hcm : cap ≤ maxLen) (hcs : cs.size = cap * 2) (hr : eH (ak.K w7) 2 l (cs.toList.take (l.length * 2))) (hb : Below w7.heap.size w7 w) (h0 : 0 ≤ a0) (hin : a0 < (l.length : Int)) (hl : l.length < 1000000) :
    Calls Tryz.prog 40 #[.slice (some ⟨g, 0, none⟩) l.length cap, .int .i64 a0, .int .i64 (wrap64 (a0 + 1))] w fun e w' => e = .returned (.slice (some ⟨g, 0, none⟩) (l.eraseIdx a0.toNat).length cap) ∧ Kd.C ak w' (some ⟨g, 0, none⟩) (l.eraseIdx a0.toNat).length (l.eraseIdx a0.toNat) ∧ (l.eraseIdx a0.toNat).length ≤ cap ∧ Below w7.heap.size w7 w' := by
  obtain ⟨i, rfl⟩ : ∃ i : Nat, a0 = (i : Int) := ⟨a0.toNat, by omega⟩
  rw [Int.toNat_natCast]
  have hi : i < l.length := by omega
  have hw : wrap64 ((i : Int) + 1) = ((i + 1 : Nat) : Int) := by unfold wrap64; omega
  have hle : (l.eraseIdx i).length = l.length - 1 := List.length_eraseIdx_of_lt hi
  have hm63 : maxLen = 9223372036854775807 := by decide
  rw [hw]
  refine (ay.delete g cap l.length i (i + 1) rfl cs w hg hnc (by omega) hcs hi (ay.ones hr)).mono ?_
  rintro e w' ⟨rfl, cs', hb', hsz', ht', hlow⟩
  have hB := hlow w7.heap.size w7 hg7 hb
  refine ⟨by rw [hle], ⟨rfl, by omega, fun _ => ⟨_, rfl, fun j p hj => ?_⟩⟩, by omega, hB⟩
  have hq := ay.reps hr i hi
  have hti : (cs.toList.take (l.length * 2)).take (i * 2) = cs.toList.take (i * 2) := by rw [List.take_take, Nat.min_eq_left (by omega)]
  rw [hti, ← ht', ← hle] at hq
  have hjl : j < (l.eraseIdx i).length := (List.getElem?_eq_some_iff.1 hj).1
  have h2 := hq.2 j p hj
  refine ⟨_, ak.K_len h2, ak.K_below hB h2, fun t u hu => ?_⟩
  rw [List.getElem?_take] at hu
  split at hu
  · rw [List.getElem?_drop, List.getElem?_take] at hu
    split at hu
    · rw [Addr.add_lit, aE hb', ← Array.getElem?_toList, Nat.zero_add]
      exact hu
    · cases hu
  · cases hu
def ay.f (k : Nat) (a0 : Int) (l1 : List (aa)) (a2_0 : Int) (l2_1 : List Bool) : Option (Bool) := if (l1.length : Int) > 1 then (if 0 ≤ a0 ∧ a0 < (l1.length : Int) ∧ l1.length < 1000000 then ((aJ.f k (l1.eraseIdx a0.toNat) false).bind fun bt499 => ((dD.f k bt499.1 bt499.2 a2_0 l2_1).bind fun t503 => (some t503))) else none) else (some false)
def ay.T1 : Bool × List (List Nat × List Nat) := (true, [([], []), ([0], [0]), ([1], [1]), ([2], [2]), ([3], [3]), ([4, 3, 3], [3, 4]), ([3], [3]), ([3], [3]), ([7, 3], [3, 7]), ([5, 6, 8, 5, 3], [3, 5, 6, 8]), ([9, 9, 3], [3, 9]), ([3], [3]), ([10, 11, 10, 3], [3, 10, 11]), ([3, 12], [3, 12]), ([13, 12, 0, 1, 2, 3, 4, 5, 6, 7, 8, 9, 10, 11, 12, 13], [13])])
def ay.B1 : List Nat := [0, 1, 3, 7, 15, 31, 15, 15, 143, 511, 1023, 15, 4095, 8191, 16383]
theorem ay.mV : il .any (opsOf Tryz.f39 1) = ay.T1 := by kernel_rfl
theorem ay.jJ : eZ ay.T1.2 ay.B1 = true := by kernel_rfl
theorem ay.calls (k : Nat) (a0 : Int) (gc1 : Nat) (A1 : Option Addr) (c1 : Nat) (l1 : List (aa)) (gc2 : Nat) (a2_0 : Int) (A2_1 : Option Addr) (c2_1 : Nat) (l2_1 : List Bool) (r : Bool) (w : World) (hr1 : Kd.C ak w A1 l1.length l1) (hc1 : l1.length ≤ c1) (hr2_1 : Kd.C Kd.bool w A2_1 l2_1.length l2_1) (hc2_1 : l2_1.length ≤ c2_1) (hb1 : w.heap[gc1]? = some (.cells #[.slice A1 l1.length c1] 22 (0, 0))) (hb2 : w.heap[gc2]? = some (.cells #[.int .i64 a2_0, .slice A2_1 l2_1.length c2_1] 56 (0, 0))) (hn1_2 : gc1 ≠ gc2) (h : ay.f k a0 l1 a2_0 l2_1 = some r) :
    Calls Tryz.prog 39 #[.int .i64 a0, .pointer (some ⟨gc1, 0, none⟩), .pointer (some ⟨gc2, 0, none⟩)] w fun e w' => e = .returned (.bool r) ∧ Below w.heap.size w w' := by
  have hu94 := Tryz.underlying56
  have HR1 := aj.mk hr1
  have HC1 := aj.mk hc1
  clear hr1 hc1
  have HR2_1 := aj.mk hr2_1
  have HC2_1 := aj.mk hc2_1
  clear hr2_1 hc2_1
  have BK1 := aj.mk hb1
  clear hb1
  have BK2 := aj.mk hb2
  clear hb2
  have NB1_2 := aj.mk hn1_2
  have NB2_1 := aj.mk (Ne.symm hn1_2)
  clear hn1_2
  have HB := aj.mk (Below.refl w.heap.size w)
  have H : (if (l1.length : Int) > 1 then (if 0 ≤ a0 ∧ a0 < (l1.length : Int) ∧ l1.length < 1000000 then ((aJ.f k (l1.eraseIdx a0.toNat) false).bind fun bt499 => ((dD.f k bt499.1 bt499.2 a2_0 l2_1).bind fun t503 => (some t503))) else none) else (some false)) = some r := h
  clear h
  by_cases c4 : (l1.length : Int) > 1
  · rw [if_pos c4] at H
    have c4b0 : decide (1 < (l1.length : Int)) = true := decide_eq_true c4
    have c4b1 : decide (1 < l1.length) = true := decide_eq_true (by omega)
    by_cases cI : 0 ≤ a0 ∧ a0 < (l1.length : Int) ∧ l1.length < 1000000
    case neg => rw [if_neg cI] at H; cases H
    rw [if_pos cI] at H
    have LI := aj.mk cI
    have LC := aj.mk c4
    clear c4 cI
    replace H := Option.bind_eq_some_iff.mp H
    obtain ⟨⟨t499, t500⟩, A50, H⟩ := H
    replace H : ((dD.f k t499 t500 a2_0 l2_1).bind fun t503 => (some t503)) = some r := H
    have A5 := aj.mk A50
    clear A50
    replace H := Option.bind_eq_some_iff.mp H
    obtain ⟨t503, A60, H⟩ := H
    replace H : (some t503) = some r := H
    have A6 := aj.mk A60
    clear A60
    obtain rfl := Option.some.inj H
    go_enter Tryz.func39, Tryz.ntmps39
    try go_wp2
    have n0_ := aj.mk (an BK1.out)
    have n1_ := aj.mk (an BK2.out)
    have n2_ := aj.mk (bg HB.out)
    clear BK1
    clear BK2
    clear HB
    have BK1 := n0_
    have BK2 := n1_
    have HB := n2_
    clear n0_ n1_ n2_
    refine eQ (n := 15) (S := fun w' => w'.cell? ⟨gc1, 0, none⟩ = some (.slice A1 l1.length c1) ∧ w'.cell? ⟨gc2, 0, none⟩ = some (.int .i64 a2_0) ∧ w'.cell? ⟨gc2, 1, none⟩ = some (.slice A2_1 l2_1.length c2_1)) (ds := []) #[false, false, false, false, false, false, false, false, false, false, false, false, false, false, false] (by kernel_rfl) rfl rfl ⟨(aE BK1.out 0).trans rfl, (aE BK2.out 0).trans rfl, (aE BK2.out 1).trans rfl⟩ (fun hHeld => ?_); refine dx ay.mV ay.jJ (fun HT_ HW_ => ?_)
    generalize w.drew = w7 at BK1 BK2 HB hHeld ⊢
    refine iO (i := 0) (N := some 5) (v := ?_) (a' := ?_) #[true, false, false, false, false, false, false, false, false, false, false, false, false, false, false] rfl rfl (iZ HT_.out HW_.out (by kernel_rfl)) (fun _ _ _ h => h) (Or.inl ⟨by rfl, ?_⟩) hHeld ?_ ?_
    rotate_left
    · rintro w' ⟨s0, s1, s2⟩
      go_simp
      with_reducible rfl
    rotate_left
    · simp only [Act.put, List.setIfInBounds_toArray, List.set_cons_zero, List.set_cons_succ, cS, dH]
      rfl
    refine fy (i := 1) (N := some 6) (v := ?_) (a' := ?_) #[true, true, false, false, false, false, false, false, false, false, false, false, false, false, false] rfl rfl (eY HT_.out (by kernel_rfl)) (fun _ _ _ h => h) (Or.inl ⟨by rfl, ?_⟩) ?_ ?_
    rotate_left
    · intro w'
      go_simp
      with_reducible rfl
    rotate_left
    · simp only [Act.put, List.setIfInBounds_toArray, List.set_cons_zero, List.set_cons_succ, cS, dH]
      rfl
    refine fy (i := 2) (N := some 7) (v := ?_) (a' := ?_) #[true, true, true, false, false, false, false, false, false, false, false, false, false, false, false] rfl rfl (eY HT_.out (by kernel_rfl)) (fun _ _ _ h => h) (Or.inl ⟨by rfl, ?_⟩) ?_ ?_
    rotate_left
    · intro w'
      go_simp
      with_reducible rfl
    rotate_left
    · simp only [Act.put, List.setIfInBounds_toArray, List.set_cons_zero, List.set_cons_succ, cS, dH]
      rfl
    refine fy (i := 3) (N := some 8) (v := ?_) (a' := ?_) #[true, true, true, true, false, false, false, false, false, false, false, false, false, false, false] rfl rfl (eY HT_.out (by kernel_rfl)) (fun _ _ _ h => h) (Or.inl ⟨by rfl, ?_⟩) ?_ ?_
    rotate_left
    · intro w'
      go_simp
      with_reducible rfl
    rotate_left
    · simp only [Act.put, List.setIfInBounds_toArray, List.set_cons_zero, List.set_cons_succ, cS, dH]
      rfl
    refine fy (i := 6) (N := some 11) (v := ?_) (a' := ?_) #[true, true, true, true, false, false, true, false, false, false, false, false, false, false, false] rfl rfl (eY HT_.out (by kernel_rfl)) (fun _ _ _ h => h) (Or.inl ⟨by rfl, ?_⟩) ?_ ?_
    rotate_left
    · intro w'
      go_simp
      with_reducible rfl
    rotate_left
    · simp only [Act.put, List.setIfInBounds_toArray, List.set_cons_zero, List.set_cons_succ, cS, dH]
      rfl
    refine fy (i := 7) (N := some 12) (v := ?_) (a' := ?_) #[true, true, true, true, false, false, true, true, false, false, false, false, false, false, false] rfl rfl (eY HT_.out (by kernel_rfl)) (fun _ _ _ h => h) (Or.inl ⟨by rfl, ?_⟩) ?_ ?_
    rotate_left
    · intro w'
      go_simp
      with_reducible rfl
    rotate_left
    · simp only [Act.put, List.setIfInBounds_toArray, List.set_cons_zero, List.set_cons_succ, cS, dH]
      rfl
    refine fy (i := 8) (N := some 13) (v := ?_) (a' := ?_) #[true, true, true, true, false, false, true, true, true, false, false, false, false, false, false] rfl rfl (eY HT_.out (by kernel_rfl)) (fun _ _ _ h => h) (Or.inl ⟨by rfl, ?_⟩) ?_ ?_
    rotate_left
    · intro w'
      go_simp
      with_reducible rfl
    rotate_left
    · simp only [Act.put, List.setIfInBounds_toArray, List.set_cons_zero, List.set_cons_succ, cS, dH]
      rfl
    refine iO (i := 4) (N := some 9) (v := ?_) (a' := ?_) #[true, true, true, true, true, false, true, true, true, false, false, false, false, false, false] rfl rfl (iZ HT_.out HW_.out (by kernel_rfl)) (fun _ _ _ h => h) (Or.inl ⟨by rfl, ?_⟩) hHeld ?_ ?_
    rotate_left
    · rintro w' ⟨s0, s1, s2⟩
      go_simp
      with_reducible rfl
    rotate_left
    · simp only [Act.put, List.setIfInBounds_toArray, List.set_cons_zero, List.set_cons_succ, cS, dH]
      rfl
    refine iO (i := 11) (N := some 16) (v := ?_) (a' := ?_) #[true, true, true, true, true, false, true, true, true, false, false, true, false, false, false] rfl rfl (iZ HT_.out HW_.out (by kernel_rfl)) (fun _ _ _ h => h) (Or.inl ⟨by rfl, ?_⟩) hHeld ?_ ?_
    rotate_left
    · rintro w' ⟨s0, s1, s2⟩
      go_simp
      with_reducible rfl
    rotate_left
    · simp only [Act.put, List.setIfInBounds_toArray, List.set_cons_zero, List.set_cons_succ, cS, dH]
      rfl
    refine mf (i := 5) (N := some 10) #[true, true, true, true, true, true, true, true, true, false, false, true, false, false, false] rfl rfl (kM HT_.out (by kernel_rfl)) (by decide) (fun K hK => ?_)
    refine nG Tryz.func41 (by kernel_rfl) rfl #[.slice A1 l1.length c1] (by rfl) rfl rfl (by (try simp only [List.map_toArray, List.map_cons, List.map_nil]); first | done | rfl | (simp only [List.length_drop, List.length_take]; rfl)) ?_
    with_reducible refine (ay.clone A1 c1 l1 _ ?side1 ?side2 ?side3).mono ?_
    (case side1 => repeat (first | exact (Kd.cA HR1.out HB.out) | (with_reducible refine Kd.eI ?_ _) | (with_reducible refine Kd.eJ ?_ _) | (with_reducible refine Kd.fB ?_)))
    (case side2 => have := LC.out; omega)
    (case side3 => exact LI.out.2.2)
    rintro e w12 ⟨gq, capq, csq, rfl, hgq, hbq, hncq, hcmq, hcsq, hrq, hb⟩
    refine ⟨_, rfl, ?_⟩
    have OB1 := BK1
    have OB2 := BK2
    have OHB := HB
    have n1_ := aj.mk (fv (g := gc1) (o := .cells #[.slice A1 l1.length c1] 22 (0, 0)) (by (with_reducible repeat (first | refine ax ?_ _ | refine an ?_ | refine au ?_ _)); exact BK1.out) hb)
    have n2_ := aj.mk (fv (g := gc2) (o := .cells #[.int .i64 a2_0, .slice A2_1 l2_1.length c2_1] 56 (0, 0)) (by (with_reducible repeat (first | refine ax ?_ _ | refine an ?_ | refine au ?_ _)); exact BK2.out) hb)
    have n3_ := aj.mk (ag (by repeat (first | (with_reducible first | exact HB.out | apply cg | apply bN | apply bg | refine cY ?_ GE1.out | refine cY ?_ GE2.out) | exact HB.out)) hb)
    clear BK1
    clear BK2
    clear HB
    have BK1 := n1_
    have BK2 := n2_
    have HB := n3_
    clear n1_ n2_ n3_
    have QG := aj.mk hgq
    have QB := aj.mk hbq
    have QN := aj.mk hncq
    have QM := aj.mk hcmq
    have QS := aj.mk hcsq
    have QR := aj.mk hrq
    have QW := aj.mk hb
    clear hgq hbq hncq hcmq hcsq hrq hb
    refine hK.out _ _ ⟨(aE BK1.out 0).trans rfl, (aE BK2.out 0).trans rfl, (aE BK2.out 1).trans rfl⟩ (fun hHeld => ?_)
    clear hK K
    refine nY (a' := ?_) ?_ ?_
    rotate_left
    · show Act.put _ (some 10) _ = _
      simp only [Act.put, List.setIfInBounds_toArray, List.set_cons_zero, List.set_cons_succ, cS, dH]
      rfl
    refine mf (i := 9) (N := some 14) #[true, true, true, true, true, true, true, true, true, true, false, true, false, false, false] rfl rfl (kM HT_.out (by kernel_rfl)) (by decide) (fun K hK => ?_)
    refine nG Tryz.func40 (by kernel_rfl) rfl #[.slice (some ⟨gq, 0, none⟩) l1.length capq, .int .i64 a0, .int .i64 (wrap64 (a0 + 1))] (by rfl) rfl rfl (by (try simp only [List.map_toArray, List.map_cons, List.map_nil]); first | done | rfl | (simp only [List.length_drop, List.length_take]; rfl)) ?_
    with_reducible refine (ay.cut l1 gq capq a0 csq _ _ QG.out QB.out QN.out QM.out QS.out QR.out QW.out LI.out.1 LI.out.2.1 LI.out.2.2).mono ?_
    rintro e w13 ⟨rfl, hrr, hcr, hb⟩
    refine ⟨_, rfl, ?_⟩
    have n0_ := aj.mk hrr
    have n4_ := aj.mk hcr
    have n1_ := aj.mk (fv (g := gc1) (o := .cells #[.slice A1 l1.length c1] 22 (0, 0)) (by (with_reducible repeat (first | refine ax ?_ _ | refine an ?_ | refine au ?_ _)); exact OB1.out) hb)
    have n2_ := aj.mk (fv (g := gc2) (o := .cells #[.int .i64 a2_0, .slice A2_1 l2_1.length c2_1] 56 (0, 0)) (by (with_reducible repeat (first | refine ax ?_ _ | refine an ?_ | refine au ?_ _)); exact OB2.out) hb)
    have n3_ := aj.mk (ag (by repeat (first | (with_reducible first | exact OHB.out | apply cg | apply bN | apply bg | refine cY ?_ GE1.out | refine cY ?_ GE2.out) | exact OHB.out)) hb)
    clear BK1
    clear BK2
    clear HB
    clear QG QB QN QM QS QR QW OB1 OB2 OHB
    have HRq := n0_
    have HCq := n4_
    have BK1 := n1_
    have BK2 := n2_
    have HB := n3_
    clear n0_ n1_ n2_ n3_ n4_ hrr hcr hb
    refine hK.out _ _ ⟨(aE BK1.out 0).trans rfl, (aE BK2.out 0).trans rfl, (aE BK2.out 1).trans rfl⟩ (fun hHeld => ?_)
    clear hK K
    refine nY (a' := ?_) ?_ ?_
    rotate_left
    · show Act.put _ (some 14) _ = _
      simp only [Act.put, List.setIfInBounds_toArray, List.set_cons_zero, List.set_cons_succ, cS, dH]
      rfl
    refine mf (i := 10) (N := some 15) #[true, true, true, true, true, true, true, true, true, true, true, true, false, false, false] rfl rfl (kM HT_.out (by kernel_rfl)) (by decide) (fun K hK => ?_)
    refine nG Tryz.func34 (by kernel_rfl) rfl #[.slice (some ⟨gq, 0, none⟩) (l1.eraseIdx a0.toNat).length capq, .bool false] (by rfl) rfl rfl (by (try simp only [List.map_toArray, List.map_cons, List.map_nil]); first | done | rfl | (simp only [List.length_drop, List.length_take]; rfl)) ?_
    with_reducible refine (aJ.calls k _ _ (l1.eraseIdx a0.toNat) false t499 t500 _ ?side1 ?side2 A5.out).mono ?_
    (case side1 => repeat (first | exact HRq.out | (with_reducible refine Kd.eI ?_ _) | (with_reducible refine Kd.eJ ?_ _) | (with_reducible refine Kd.fB ?_)))
    (case side2 => exact HCq.out)
    rintro e w8 ⟨v501, rfl, ho0, hb⟩
    refine ⟨_, rfl, ?_⟩
    have n0_ := aj.mk (Kd.cr ho0 (av (by repeat (first | (with_reducible first | exact HB.out | apply cg | apply bN | apply bg | refine cY ?_ GE1.out | refine cY ?_ GE2.out) | exact HB.out))))
    have n1_ := aj.mk (fv (g := gc1) (o := .cells #[.slice A1 l1.length c1] 22 (0, 0)) (by (with_reducible repeat (first | refine ax ?_ _ | refine an ?_ | refine au ?_ _)); exact BK1.out) hb)
    have n2_ := aj.mk (fv (g := gc2) (o := .cells #[.int .i64 a2_0, .slice A2_1 l2_1.length c2_1] 56 (0, 0)) (by (with_reducible repeat (first | refine ax ?_ _ | refine an ?_ | refine au ?_ _)); exact BK2.out) hb)
    have n3_ := aj.mk (ag (by repeat (first | (with_reducible first | exact HB.out | apply cg | apply bN | apply bg | refine cY ?_ GE1.out | refine cY ?_ GE2.out) | exact HB.out)) hb)
    clear BK1
    clear BK2
    clear HB
    have HO502 := n0_
    have BK1 := n1_
    have BK2 := n2_
    have HB := n3_
    clear n0_ n1_ n2_ n3_
    (try clear hb)
    (try clear hb2)
    (try clear hk)
    (try clear hi)
    (try clear ho0)
    obtain ⟨Ao9, co9, eo9⟩ := Kd.b5 HO502.out
    (first | subst eo9 | (injection eo9 with f1_ f2_ f3_; have f4_ := f1_.symm; have f5_ := f3_.symm; clear f1_ f2_ f3_; subst f4_; subst f5_))
    refine hK.out _ _ ⟨(aE BK1.out 0).trans rfl, (aE BK2.out 0).trans rfl, (aE BK2.out 1).trans rfl⟩ (fun hHeld => ?_)
    clear hK K
    refine nY (a' := ?_) ?_ ?_
    rotate_left
    · show Act.put _ (some 15) _ = _
      simp only [Act.put, List.setIfInBounds_toArray, List.set_cons_zero, List.set_cons_succ, cS, dH]
      rfl
    refine mf (i := 12) (N := some 17) #[true, true, true, true, true, true, true, true, true, true, true, true, true, false, false] rfl rfl (kM HT_.out (by kernel_rfl)) (by decide) (fun K hK => ?_)
    refine nG Tryz.func42 (by kernel_rfl) rfl #[.agg #[.int .i64 t499, .slice Ao9 t500.length co9], .agg #[.int .i64 a2_0, .slice A2_1 l2_1.length c2_1]] (by rfl) rfl rfl (by (try simp only [List.map_toArray, List.map_cons, List.map_nil]); first | done | rfl | (simp only [List.length_drop, List.length_take]; rfl)) ?_
    with_reducible refine (dD.calls k t499 _ _ t500 a2_0 _ _ l2_1 t503 _ ?side1 ?side2 ?side3 ?side4 A6.out).mono ?_
    (case side1 => repeat (first | exact (Kd.aI HO502.out).2.2 | (with_reducible refine Kd.eI ?_ _) | (with_reducible refine Kd.eJ ?_ _) | (with_reducible refine Kd.fB ?_)))
    (case side2 => exact (Kd.aI HO502.out).2.1)
    (case side3 => repeat (first | exact (Kd.cA HR2_1.out HB.out) | (with_reducible refine Kd.eI ?_ _) | (with_reducible refine Kd.eJ ?_ _) | (with_reducible refine Kd.fB ?_)))
    (case side4 => exact HC2_1.out)
    rintro e w10 ⟨rfl, hb⟩
    refine ⟨_, rfl, ?_⟩
    have n0_ := aj.mk (Kd.ba (by (with_reducible repeat (first | apply Kd.ca | apply Kd.b7 | apply Kd.cu)); exact HO502.out) hb)
    have n1_ := aj.mk (fv (g := gc1) (o := .cells #[.slice A1 l1.length c1] 22 (0, 0)) (by (with_reducible repeat (first | refine ax ?_ _ | refine an ?_ | refine au ?_ _)); exact BK1.out) hb)
    have n2_ := aj.mk (fv (g := gc2) (o := .cells #[.int .i64 a2_0, .slice A2_1 l2_1.length c2_1] 56 (0, 0)) (by (with_reducible repeat (first | refine ax ?_ _ | refine an ?_ | refine au ?_ _)); exact BK2.out) hb)
    have n3_ := aj.mk (ag (by repeat (first | (with_reducible first | exact HB.out | apply cg | apply bN | apply bg | refine cY ?_ GE1.out | refine cY ?_ GE2.out) | exact HB.out)) hb)
    clear HO502
    clear BK1
    clear BK2
    clear HB
    have HO502 := n0_
    have BK1 := n1_
    have BK2 := n2_
    have HB := n3_
    clear n0_ n1_ n2_ n3_
    (try clear hb)
    (try clear hb2)
    (try clear hk)
    (try clear hi)
    refine hK.out _ _ ⟨(aE BK1.out 0).trans rfl, (aE BK2.out 0).trans rfl, (aE BK2.out 1).trans rfl⟩ (fun hHeld => ?_)
    clear hK K
    refine nY (a' := ?_) ?_ ?_
    rotate_left
    · show Act.put _ (some 17) _ = _
      simp only [Act.put, List.setIfInBounds_toArray, List.set_cons_zero, List.set_cons_succ, cS, dH]
      rfl
    refine fy (i := 13) (N := some 18) (v := ?_) (a' := ?_) #[true, true, true, true, true, true, true, true, true, true, true, true, true, true, false] rfl rfl (eY HT_.out (by kernel_rfl)) (fun _ _ _ h => h) (Or.inl ⟨by rfl, ?_⟩) ?_ ?_
    rotate_left
    · intro w'
      go_simp
      with_reducible rfl
    rotate_left
    · simp only [Act.put, List.setIfInBounds_toArray, List.set_cons_zero, List.set_cons_succ, cS, dH]
      rfl
    refine fy (i := 14) (N := some 4) (v := ?_) (a' := ?_) #[true, true, true, true, true, true, true, true, true, true, true, true, true, true, true] rfl rfl (eY HT_.out (by kernel_rfl)) (fun _ _ _ h => h) (Or.inl ⟨by rfl, ?_⟩) ?_ ?_
    rotate_left
    · intro w'
      go_simp
      with_reducible rfl
    rotate_left
    · simp only [Act.put, List.setIfInBounds_toArray, List.set_cons_zero, List.set_cons_succ, cS, dH]
      rfl
    refine fK (eA HT_.out (by kernel_rfl)) ?_
    try go_wp2
    go_ret
    exact ⟨by first | rfl | (simp [cV, cX] <;> rfl) | (simp [*, cV, cX] <;> rfl), by repeat (first | (with_reducible first | exact HB.out | apply cg | apply bN | apply bg | refine cY ?_ GE1.out | refine cY ?_ GE2.out) | exact HB.out)⟩
  · rw [if_neg c4] at H
    have c4b0 : decide (1 < (l1.length : Int)) = false := decide_eq_false c4
    have c4b1 : decide (1 < l1.length) = false := decide_eq_false (by omega)
    clear c4
    obtain rfl := Option.some.inj H
    go_enter Tryz.func39, Tryz.ntmps39
    try go_wp2
    have n0_ := aj.mk (an BK1.out)
    have n1_ := aj.mk (an BK2.out)
    have n2_ := aj.mk (bg HB.out)
    clear BK1
    clear BK2
    clear HB
    have BK1 := n0_
    have BK2 := n1_
    have HB := n2_
    clear n0_ n1_ n2_
    refine eQ (n := 15) (S := fun w' => w'.cell? ⟨gc1, 0, none⟩ = some (.slice A1 l1.length c1)) (ds := []) #[false, false, false, false, false, false, false, false, false, false, false, false, false, false, false] (by kernel_rfl) rfl rfl ((aE BK1.out 0).trans rfl) (fun hHeld => ?_); refine dx ay.mV ay.jJ (fun HT_ HW_ => ?_)
    generalize w.drew = w11 at BK1 BK2 HB hHeld ⊢
    refine iO (i := 0) (N := some 5) (v := ?_) (a' := ?_) #[true, false, false, false, false, false, false, false, false, false, false, false, false, false, false] rfl rfl (iZ HT_.out HW_.out (by kernel_rfl)) (fun _ _ _ h => h) (Or.inl ⟨by rfl, ?_⟩) hHeld ?_ ?_
    rotate_left
    · intro w' s0
      go_simp
      with_reducible rfl
    rotate_left
    · simp only [Act.put, List.setIfInBounds_toArray, List.set_cons_zero, List.set_cons_succ, cS, dH]
      rfl
    refine fy (i := 1) (N := some 6) (v := ?_) (a' := ?_) #[true, true, false, false, false, false, false, false, false, false, false, false, false, false, false] rfl rfl (eY HT_.out (by kernel_rfl)) (fun _ _ _ h => h) (Or.inl ⟨by rfl, ?_⟩) ?_ ?_
    rotate_left
    · intro w'
      go_simp
      with_reducible rfl
    rotate_left
    · simp only [Act.put, List.setIfInBounds_toArray, List.set_cons_zero, List.set_cons_succ, cS, dH]
      rfl
    refine fy (i := 2) (N := some 7) (v := ?_) (a' := ?_) #[true, true, true, false, false, false, false, false, false, false, false, false, false, false, false] rfl rfl (eY HT_.out (by kernel_rfl)) (fun _ _ _ h => h) (Or.inl ⟨by rfl, ?_⟩) ?_ ?_
    rotate_left
    · intro w'
      go_simp
      with_reducible rfl
    rotate_left
    · simp only [Act.put, List.setIfInBounds_toArray, List.set_cons_zero, List.set_cons_succ, cS, dH]
      rfl
    refine fy (i := 3) (N := some 8) (v := ?_) (a' := ?_) #[true, true, true, true, false, false, false, false, false, false, false, false, false, false, false] rfl rfl (eY HT_.out (by kernel_rfl)) (fun _ _ _ h => h) (Or.inl ⟨by rfl, ?_⟩) ?_ ?_
    rotate_left
    · intro w'
      go_simp
      with_reducible rfl
    rotate_left
    · simp only [Act.put, List.setIfInBounds_toArray, List.set_cons_zero, List.set_cons_succ, cS, dH]
      rfl
    refine fy (i := 4) (N := some 9) (v := undef) (a' := ?_) #[true, true, true, true, true, false, false, false, false, false, false, false, false, false, false] rfl rfl (eY HT_.out (by kernel_rfl)) (fun _ _ _ h => h) (Or.inr ⟨by rfl, rfl⟩) ?_ ?_
    rotate_left
    · simp only [Act.put, List.setIfInBounds_toArray, List.set_cons_zero, List.set_cons_succ, cS, dH]
      rfl
    refine fy (i := 5) (N := some 10) (v := undef) (a' := ?_) #[true, true, true, true, true, true, false, false, false, false, false, false, false, false, false] rfl rfl (eY HT_.out (by kernel_rfl)) (fun _ _ _ h => h) (Or.inr ⟨by rfl, rfl⟩) ?_ ?_
    rotate_left
    · simp only [Act.put, List.setIfInBounds_toArray, List.set_cons_zero, List.set_cons_succ, cS, dH]
      rfl
    refine fy (i := 6) (N := some 11) (v := undef) (a' := ?_) #[true, true, true, true, true, true, true, false, false, false, false, false, false, false, false] rfl rfl (eY HT_.out (by kernel_rfl)) (fun _ _ _ h => h) (Or.inr ⟨by rfl, rfl⟩) ?_ ?_
    rotate_left
    · simp only [Act.put, List.setIfInBounds_toArray, List.set_cons_zero, List.set_cons_succ, cS, dH]
      rfl
    refine fy (i := 7) (N := some 12) (v := undef) (a' := ?_) #[true, true, true, true, true, true, true, true, false, false, false, false, false, false, false] rfl rfl (eY HT_.out (by kernel_rfl)) (fun _ _ _ h => h) (Or.inr ⟨by rfl, rfl⟩) ?_ ?_
    rotate_left
    · simp only [Act.put, List.setIfInBounds_toArray, List.set_cons_zero, List.set_cons_succ, cS, dH]
      rfl
    refine fy (i := 8) (N := some 13) (v := undef) (a' := ?_) #[true, true, true, true, true, true, true, true, true, false, false, false, false, false, false] rfl rfl (eY HT_.out (by kernel_rfl)) (fun _ _ _ h => h) (Or.inr ⟨by rfl, rfl⟩) ?_ ?_
    rotate_left
    · simp only [Act.put, List.setIfInBounds_toArray, List.set_cons_zero, List.set_cons_succ, cS, dH]
      rfl
    refine fy (i := 9) (N := some 14) (v := undef) (a' := ?_) #[true, true, true, true, true, true, true, true, true, true, false, false, false, false, false] rfl rfl (eY HT_.out (by kernel_rfl)) (fun _ _ _ h => h) (Or.inr ⟨by rfl, rfl⟩) ?_ ?_
    rotate_left
    · simp only [Act.put, List.setIfInBounds_toArray, List.set_cons_zero, List.set_cons_succ, cS, dH]
      rfl
    refine fy (i := 10) (N := some 15) (v := undef) (a' := ?_) #[true, true, true, true, true, true, true, true, true, true, true, false, false, false, false] rfl rfl (eY HT_.out (by kernel_rfl)) (fun _ _ _ h => h) (Or.inr ⟨by rfl, rfl⟩) ?_ ?_
    rotate_left
    · simp only [Act.put, List.setIfInBounds_toArray, List.set_cons_zero, List.set_cons_succ, cS, dH]
      rfl
    refine fy (i := 11) (N := some 16) (v := undef) (a' := ?_) #[true, true, true, true, true, true, true, true, true, true, true, true, false, false, false] rfl rfl (eY HT_.out (by kernel_rfl)) (fun _ _ _ h => h) (Or.inr ⟨by rfl, rfl⟩) ?_ ?_
    rotate_left
    · simp only [Act.put, List.setIfInBounds_toArray, List.set_cons_zero, List.set_cons_succ, cS, dH]
      rfl
    refine fy (i := 12) (N := some 17) (v := undef) (a' := ?_) #[true, true, true, true, true, true, true, true, true, true, true, true, true, false, false] rfl rfl (eY HT_.out (by kernel_rfl)) (fun _ _ _ h => h) (Or.inr ⟨by rfl, rfl⟩) ?_ ?_
    rotate_left
    · simp only [Act.put, List.setIfInBounds_toArray, List.set_cons_zero, List.set_cons_succ, cS, dH]
      rfl
    refine fy (i := 13) (N := some 18) (v := ?_) (a' := ?_) #[true, true, true, true, true, true, true, true, true, true, true, true, true, true, false] rfl rfl (eY HT_.out (by kernel_rfl)) (fun _ _ _ h => h) (Or.inl ⟨by rfl, ?_⟩) ?_ ?_
    rotate_left
    · intro w'
      go_simp
      with_reducible rfl
    rotate_left
    · simp only [Act.put, List.setIfInBounds_toArray, List.set_cons_zero, List.set_cons_succ, cS, dH]
      rfl
    refine fy (i := 14) (N := some 4) (v := ?_) (a' := ?_) #[true, true, true, true, true, true, true, true, true, true, true, true, true, true, true] rfl rfl (eY HT_.out (by kernel_rfl)) (fun _ _ _ h => h) (Or.inl ⟨by rfl, ?_⟩) ?_ ?_
    rotate_left
    · intro w'
      go_simp
      with_reducible rfl
    rotate_left
    · simp only [Act.put, List.setIfInBounds_toArray, List.set_cons_zero, List.set_cons_succ, cS, dH]
      rfl
    refine fK (eA HT_.out (by kernel_rfl)) ?_
    try go_wp2
    go_ret
    exact ⟨by first | rfl | (simp [cV, cX] <;> rfl) | (simp [*, cV, cX] <;> rfl), by repeat (first | (with_reducible first | exact HB.out | apply cg | apply bN | apply bg | refine cY ?_ GE1.out | refine cY ?_ GE2.out) | exact HB.out)⟩
theorem ay.enters : ∀ (args : Array Value) (w : World), (callFunc 39 args).run Tryz.prog w = .ok (.enter 39 args) w := enters_of Tryz.func39 (by kernel_rfl) rfl


def cT.f (k:Nat) (l0:List (aa)):Option (List Int × Bool):=(aQ.f k l0).bind fun t2=>(if t2 = true then ((aJ.f k l0 false).bind fun bt3=>((cE.f k (l0.length:Int) (fun y0_=>ay.f k y0_ l0 bt3.1 bt3.2)).bind fun t4=>(some (t4,true)))) else (some (([]:List Int),false)))
theorem cT.calls (k:Nat) (A0:Option Addr) (c0:Nat) (l0:List (aa)) (r1:List Int) (r2:Bool) (w:World) (hr0:Kd.C ak w A0 l0.length l0) (hc0:l0.length ≤ c0) (h:cT.f k l0 = some (r1,r2)) :
  Calls Tryz.prog 12 #[.slice A0 l0.length c0] w fun e w'=>∃ v0_:Value,e = .returned (.tuple #[v0_,.bool r2]) ∧ Kd.R (Kd.int .i64) 3 w' w.heap.size (fun _=>True) v0_ r1 ∧ Below w.heap.size w w':=by
 have hmf:∀ (fn:Fn) (first cap:Array Value) (w:World),(Instr.makeFunc fn first cap).run Tryz.prog w = .ok (.func fn first cap) w:=fun _ _ _ _=>rfl
 have hu56:=Tryz.underlying56;have HR0:=aM hr0;have HC0:=aM hc0;clear hr0 hc0;have HB:=aM (Below.refl w.heap.size w);have H:((aQ.f k l0).bind fun t21=>(if t21 = true then ((aJ.f k l0 false).bind fun bt22=>((cE.f k (l0.length:Int) (fun y0_=>ay.f k y0_ l0 bt22.1 bt22.2)).bind fun t27=>(some (t27,true)))) else (some (([]:List Int),false)))) = some (r1,r2):=h;clear h;replace H:=oB H;obtain ⟨t21,A2,H⟩:=H;(try dsimp only at H)
 by_cases c3:t21 = true
 ·subst c3;rw [if_pos rfl] at H;replace H:=oB H;obtain ⟨⟨t22,t23⟩,A4,H⟩:=H;(try dsimp only at H)
  replace H:=oB H;obtain ⟨t27,A5,H⟩:=H;(try dsimp only at H)
  simp only [Option.some.injEq,Prod.mk.injEq] at H;obtain ⟨rfl,rfl⟩:=H;go_enter Tryz.func12,Tryz.ntmps12;go_wp2_with (first|((with_reducible refine aC (N:=1) rfl ?_);refine bE 1 #[.slice A0 l0.length c0] 22 ?_;intro gb20 hg w6 hbox hb;have BK20:=aM (hbox);have GW20:=aM (gS hg);have GE20:=aM (gS hg);replace HB:=aM (ag bw hb);clear hb hbox hg;have hcz7_0:=cz BK20.out 0;have hfz7_0:=af BK20.out 0)|((with_reducible refine ai (f:=18) rfl ?_);refine gL 6 Tryz.func18 #[.slice A0 l0.length c0] ?_;(with_reducible refine (aQ.calls k _ _ l0 true _ ?side1 ?side2 A2.out).mono ?_);(case side1=>exact qcs HR0.out HB.out);(case side2=>exact HC0.out);rintro e w8 ⟨rfl,hb⟩;refine ⟨_,rfl,?_⟩;replace BK20:=aM (bB BK20.out hb);replace HB:=aM (ag bw hb);(try clear hb);have hcz9_0:=cz BK20.out 0;have hfz9_0:=af BK20.out 0)|((with_reducible refine ai (f:=34) rfl ?_);refine gL 9 Tryz.func34 #[.slice A0 l0.length c0,.bool false] ?_;(with_reducible refine (aJ.calls k _ _ l0 false t22 t23 _ ?side1 ?side2 A4.out).mono ?_);(case side1=>exact qcs HR0.out HB.out);(case side2=>exact HC0.out);rintro e w10 ⟨v24,rfl,ho0,hb⟩;refine ⟨_,rfl,?_⟩;have HO25:=aM (Kd.cr ho0 (av bw));replace BK20:=aM (bB BK20.out hb);replace HB:=aM (ag bw hb);(try clear hb);(try clear ho0))|((with_reducible refine aC (N:=4) rfl ?_);refine bE 4 #[.int .i64 0,.slice none 0 0] 56 ?_;intro gb26 hg w11 hbox hb;replace HO25:=aM (Kd.ba (qra HO25.out) hb);have BK26:=aM (hbox);have GW26:=aM (gS hg);have GE26:=aM (gS hg);replace HB:=aM (ag bw hb);have NB20_26:=aM (nL BK20.out hg);have NB26_20:=aM (nR BK20.out hg);replace BK20:=aM (bB BK20.out hb);clear hb hbox hg;have hnb12:=NB26_20.out;have hnc12:=NB20_26.out;have hcz13_0:=cz BK26.out 0;have hcz13_1:=cz BK26.out 1;have hfz13_0:=af BK26.out 0;have hfz13_1:=af BK26.out 1;obtain ⟨Ao14,co14,eo14⟩:=Kd.b5 HO25.out;subst eo14;have hcz15_0:=cz BK20.out 0;have hfz15_0:=af BK20.out 0)|((with_reducible refine ai (f:=38) rfl ?_);refine gL 13 Tryz.func38 #[.int .i64 (l0.length:Int),.func (.func 39) #[] #[.pointer (some ⟨gb20,0,none⟩),.pointer (some ⟨gb26,0,none⟩)]] ?_;(with_reducible refine (cE.calls k (l0.length:Int) (fun y0_=>ay.f k y0_ l0 t22 t23) 39 #[.pointer (some ⟨gb20,0,none⟩),.pointer (some ⟨gb26,0,none⟩)] ay.enters t27 _ ?side1 A5.out).mono ?_);(case side1=>exact (fun W_ a0_ r0_ hx_ hb_ =>(ay.calls k a0_ gb20 _ _ l0 gb26 t22 _ _ t23 r0_ W_  (Kd.cA (by exact Kd.cA HR0.out bw) hb_) (by exact HC0.out) (Kd.cA (by refine (Kd.aI (e:=4) (base:=w.heap.size) (ok:=fun k_=>True) (n:=t23.length) (c:=co14) ?_).2.2;exact (tR HO25.out BK26.out)) hb_) (by exact (Kd.aI HO25.out).2.1) (ej (bF BK20.out NB20_26.out) hb_) (ej (by (with_reducible repeat (first|refine ax ?_ _|refine an ?_|refine au ?_ _));refine bI (cs:=#[.int .i64 t22,.slice none 0 0]) ?_ 1 _ rfl;(with_reducible repeat (first|refine ax ?_ _|refine an ?_|refine au ?_ _));refine bI (cs:=#[.int .i64 0,.slice none 0 0]) ?_ 0 _ rfl;(with_reducible repeat (first|refine ax ?_ _|refine an ?_|refine au ?_ _));exact BK26.out) hb_) NB20_26.out hx_).mono (fun _ _ h_=>h_)));rintro e w16 ⟨v28,rfl,ho0,hb⟩;refine ⟨_,rfl,?_⟩;replace HO25:=aM (Kd.ba (tR HO25.out BK26.out) hb);have HO29:=aM (Kd.cr ho0 (av bw));replace BK20:=aM (bG BK20.out NB20_26.out hb);replace BK26:=aM (bP BK26.out hb);replace HB:=aM (ag bw hb);(try clear hb);(try clear hk);(try clear ho0)))
  go_ret2
  exact ⟨_,eE,by (with_reducible repeat (first|apply Kd.ca|apply Kd.b7|apply Kd.cu));exact HO29.out,by exact bw⟩
 ·replace c3:=Bool.eq_false_iff.mpr c3;subst c3;rw [if_neg (show ¬ (false = true) by decide)] at H;simp only [Option.some.injEq,Prod.mk.injEq] at H;obtain ⟨rfl,rfl⟩:=H;go_enter Tryz.func12,Tryz.ntmps12;go_wp2_with (first|((with_reducible refine aC (N:=1) rfl ?_);refine bE 1 #[.slice A0 l0.length c0] 22 ?_;intro gb20 hg w17 hbox hb;have BK20:=aM (hbox);have GW20:=aM (gS hg);have GE20:=aM (gS hg);replace HB:=aM (ag bw hb);clear hb hbox hg;have hcz18_0:=cz BK20.out 0;have hfz18_0:=af BK20.out 0)|((with_reducible refine ai (f:=18) rfl ?_);refine gL 6 Tryz.func18 #[.slice A0 l0.length c0] ?_;(with_reducible refine (aQ.calls k _ _ l0 false _ ?side1 ?side2 A2.out).mono ?_);(case side1=>exact qcs HR0.out HB.out);(case side2=>exact HC0.out);rintro e w19 ⟨rfl,hb⟩;refine ⟨_,rfl,?_⟩;replace BK20:=aM (bB BK20.out hb);replace HB:=aM (ag bw hb);(try clear hb)))
  go_ret2
  exact ⟨_,eE,by first|exact Kd.gx _ _ _ _ _|exact Kd.gQ _ _ _ _ _|exact Kd.gP _ _ _ _ _|exact Kd.gU _ _ _ _ _|exact Kd.gW _ _ _ _ _,by exact bw⟩


def cK.l0:Nat → List Bool → List Bool → Int → Int → Option (Bool)
 | 0,_,_,_,_=>none
 | k + 1,x0,x1,x12,x13=>if x13 < x12 then (if 0 ≤ x13 then (if x13 < (x0.length:Int) then (if x13 < (x1.length:Int) then (if ((dE false x0 x13) != (dE false x1 x13)) = true then (some false) else (cK.l0 k x0 x1 x12 (wrap64 (x13 + 1)))) else (none)) else (none)) else (none)) else (some true)
def cK.f (k:Nat) (l0:List Bool) (l1:List Bool):Option (Bool):=if (l0.length:Int) = (l1.length:Int) then (cK.l0 k l0 l1 (l0.length:Int) 0) else (some false)
theorem cK.calls (k:Nat) (A0:Option Addr) (c0:Nat) (l0:List Bool) (A1:Option Addr) (c1:Nat) (l1:List Bool) (r:Bool) (w:World) (hr0:Kd.C Kd.bool w A0 l0.length l0) (hc0:l0.length ≤ c0) (hr1:Kd.C Kd.bool w A1 l1.length l1) (hc1:l1.length ≤ c1) (h:cK.f k l0 l1 = some r) :
  Calls Tryz.prog 43 #[.slice A0 l0.length c0,.slice A1 l1.length c1] w fun e w'=>e = .returned (.bool r) ∧ bi w w':=by
 have HR0:=aM hr0;have HC0:=aM hc0;clear hr0 hc0;have HR1:=aM hr1;have HC1:=aM hc1;clear hr1 hc1;have H:(if (l0.length:Int) = (l1.length:Int) then (cK.l0 k l0 l1 (l0.length:Int) 0) else (some false)) = some r:=h;clear h;by_cases c3:(l0.length:Int) = (l1.length:Int)
 ·rw [if_pos c3] at H;have c3b0:((l0.length:Int) == (l1.length:Int)) = true:=beq_iff_eq.mpr c3;have c3b1:((l0.length:Int) != (l1.length:Int)) = false:=bne_eq_false_iff_eq.mpr c3;have c3b2:(l0.length == l1.length) = true:=by first|simpa using c3|(simp at c3 ⊢;omega)
  clear c3;have H':=aM H;clear H;go_enter Tryz.func43,Tryz.ntmps43;go_wp2
  repeat (go_quiet (fail);try go_wp2)
  go_loopg [13] k (fun kq v13 w'=>∃ (x13_1:Int),v13 = .int .i64 x13_1 ∧ aj (cK.l0 kq l0 l1 (l0.length:Int) x13_1 = some r) ∧ aj (kq ≤ k) ∧ bi w w')
  case atStart=>exact ⟨(0),qrs,H',⟨Nat.le_refl _⟩,by repeat (first|exact bi.refl _|apply bi.step)⟩
  case round =>
   clear H';(try clear c1);(try clear c3);(try clear c3b0);(try clear c3b1);(try clear c3b2)
   obtain ⟨x13_1,rfl,HA,HK1,⟨m1,rfl⟩⟩:=hrel
   cases gk with
   | zero=>exact absurd HA.out (by simp [cK.l0])
   | succ k1 =>
    have H:=HA.out;clear HA;simp only [cK.l0] at H;by_cases c4:x13_1 < (l0.length:Int)
    ·rw [if_pos c4] at H;have c4b0:=decide_eq_true c4;clear c4;replace H:=iN H;obtain ⟨c5,H⟩:=H;have c5b0:decide (0 ≤ x13_1) = true:=decide_eq_true c5;clear c5;replace H:=iN H;obtain ⟨c6,H⟩:=H;have c6b0:decide (x13_1 < (l0.length:Int)) = true:=decide_eq_true c6;clear c6;replace H:=iN H;obtain ⟨c7,H⟩:=H;have c7b0:decide (x13_1 < (l1.length:Int)) = true:=decide_eq_true c7;clear c7;by_cases c8:((dE false l0 x13_1) != (dE false l1 x13_1)) = true
     ·rw [if_pos c8] at H;have c8b0:((dE false l0 x13_1) != (dE false l1 x13_1)) = true:=c8;(try (have c8b1:decide ((dE false l0 x13_1) = (dE false l1 x13_1)) = false:=by simpa using c8))
      (try (have c8b2:((dE false l0 x13_1) == (dE false l1 x13_1)) = false:=by simpa using c8))
      (try (have c8b3:¬ ((dE false l0 x13_1) = (dE false l1 x13_1)):=by simpa using c8))
      clear c8;obtain rfl:=Option.some.inj H;have p9:0 ≤ (x13_1:Int):=of_decide_eq_true ab;have q9:x13_1 < (l0.length:Int):=of_decide_eq_true ab;obtain ⟨ad9,e9,hx9_0⟩:=Kd.b8 HR0.out x13_1 p9 q9;cases e9
      replace p9:=eq_true p9;replace q9:=eq_true q9;have p10:0 ≤ (x13_1:Int):=of_decide_eq_true ab;have q10:x13_1 < (l1.length:Int):=of_decide_eq_true ab;obtain ⟨ad10,e10,hx10_0⟩:=Kd.b8 HR1.out x13_1 p10 q10;cases e10
      replace p10:=eq_true p10;replace q10:=eq_true q10;go_wp2
      repeat (go_quiet (fail);try go_wp2)
      go_ret
      exact ⟨qrs,dR⟩
     ·rw [if_neg c8] at H;have c8b0:((dE false l0 x13_1) != (dE false l1 x13_1)) = false:=by simpa using c8
      (try (have c8b1:decide ((dE false l0 x13_1) = (dE false l1 x13_1)) = true:=by simpa using c8))
      (try (have c8b2:((dE false l0 x13_1) == (dE false l1 x13_1)) = true:=by simpa using c8))
      clear c8;have H':=aM H;clear H;have p9:0 ≤ (x13_1:Int):=of_decide_eq_true ab;have q9:x13_1 < (l0.length:Int):=of_decide_eq_true ab;obtain ⟨ad9,e9,hx9_0⟩:=Kd.b8 HR0.out x13_1 p9 q9;cases e9
      replace p9:=eq_true p9;replace q9:=eq_true q9;have p10:0 ≤ (x13_1:Int):=of_decide_eq_true ab;have q10:x13_1 < (l1.length:Int):=of_decide_eq_true ab;obtain ⟨ad10,e10,hx10_0⟩:=Kd.b8 HR1.out x13_1 p10 q10;cases e10
      replace p10:=eq_true p10;replace q10:=eq_true q10;go_wp2
      repeat (go_quiet (fail);try go_wp2)
      go_roundg k1
      case measure=>have:=HK1.out;omega
      case rel=>exact ⟨(wrap64 (x13_1 + 1)),qrs,H',⟨by have:=HK1.out;omega⟩,by repeat (first|exact bi.refl _|apply bi.step)⟩
    ·rw [if_neg c4] at H;have c4b0:=decide_eq_false c4;clear c4;obtain rfl:=Option.some.inj H;go_wp2
     repeat (go_quiet (fail);try go_wp2)
     go_ret
     exact ⟨qrs,dR⟩
 ·rw [if_neg c3] at H;have c3b0:((l0.length:Int) == (l1.length:Int)) = false:=beq_eq_false_iff_ne.mpr c3;have c3b1:((l0.length:Int) != (l1.length:Int)) = true:=bne_iff_ne.mpr c3;have c3b2:(l0.length == l1.length) = false:=by first|simpa using c3|(simp at c3 ⊢;omega)
  obtain rfl:=Option.some.inj H;go_enter Tryz.func43,Tryz.ntmps43;go_wp2
  repeat (go_quiet (fail);try go_wp2)
  go_ret
  exact ⟨qrs,dR⟩


def ap.l0:Nat → List (aa) → List Bool → List Int → Int → Int → Option (List Int × Bool)
 | 0,_,_,_,_,_=>none
 | k + 1,x0,x4,x5,x14,x15=>if x15 < x14 then ((some (([]:List (aa)):List (aa))).bind fun y1=>(if 0 ≤ x15 then (if x15 ≤ (x0.length:Int) then ((some (x0.take (x15:Int).toNat:List (aa))).bind fun y2=>(if y1.length + y2.length < 4398046511104 then ((some (y1 ++ y2:List (aa))).bind fun y3=>(if 0 ≤ (wrap64 (x15 + 1)) then (if (wrap64 (x15 + 1)) ≤ (x0.length:Int) then ((some (x0.drop ((wrap64 (x15 + 1)):Int).toNat:List (aa))).bind fun y6=>(if y3.length + y6.length < 4398046511104 then ((some (y3 ++ y6:List (aa))).bind fun y7=>(if (y7.length:Int) > 0 then ((aT.f k y7 true).bind fun t8=>((cK.f k t8 x4).bind fun t9=>(if t9 = true then (if x5.length < 17592186044416 then (ap.l0 k x0 x4 (x5 ++ [x15]) x14 (wrap64 (x15 + 1))) else (none)) else (ap.l0 k x0 x4 x5 x14 (wrap64 (x15 + 1)))))) else (ap.l0 k x0 x4 x5 x14 (wrap64 (x15 + 1))))) else (none))) else (none)) else (none))) else (none))) else (none)) else (none))) else (some (x5,true))
def ap.f (k:Nat) (l0:List (aa)):Option (List Int × Bool):=(aW.f k l0).bind fun t1=>(if t1 = true then ((aT.f k l0 true).bind fun t2=>(ap.l0 k l0 t2 ([]:List Int) (l0.length:Int) 0)) else (some (([]:List Int),false)))
def ap.T8:Bool × List (List Nat × List Nat):=(true,[([],[]),([],[]),([],[]),([1,2],[1,2]),([0,3],[0,3]),([],[]),([],[]),([6],[6]),([5,7],[5,7]),([4,8,4],[4,8]),([9,9,0,1,2,3,4,5,6,7,8,9],[9])])
def ap.B8:List Nat:=[0,0,0,6,15,0,0,64,224,511,1023]
theorem ap.tab8:il .any (opsOf Tryz.f13 8) = ap.T8:=by kernel_rfl
theorem ap.bits8:eZ ap.T8.2 ap.B8 = true:=by kernel_rfl
theorem ap.calls (k:Nat) (P0_:Nat → Prop) (A0:Option Addr) (c0:Nat) (l0:List (aa)) (r1:List Int) (r2:Bool) (w:World) (hs0:Kd.V ak 25 w w.heap.size (fun k_=>P0_ k_) (.slice A0 l0.length c0) l0) (h:ap.f k l0 = some (r1,r2)) :
  Calls Tryz.prog 13 #[.slice A0 l0.length c0] w fun e w'=>∃ v0_:Value,e = .returned (.tuple #[v0_,.bool r2]) ∧ Kd.R (Kd.int .i64) 3 w' w.heap.size (fun k_=>(w.heap.size ≤ k_)) v0_ r1 ∧ Below w.heap.size w w':=by
 have HO0:=aM (show Kd.V ak 25 w w.heap.size (fun k_=>(P0_ k_ ∨ w.heap.size ≤ k_)) (.slice A0 l0.length c0) l0 from Kd.gI hs0 (fun k_ hk=>.inl hk));have HB:=aM (Below.refl w.heap.size w);have H:((aW.f k l0).bind fun t58=>(if t58 = true then ((aT.f k l0 true).bind fun t59=>(ap.l0 k l0 t59 ([]:List Int) (l0.length:Int) 0)) else (some (([]:List Int),false)))) = some (r1,r2):=h;clear h;replace H:=oB H;obtain ⟨t58,A2,H⟩:=H;(try dsimp only at H)
 by_cases c3:t58 = true
 ·subst c3;rw [if_pos rfl] at H;replace H:=oB H;obtain ⟨t59,A4,H⟩:=H;(try dsimp only at H)
  have H':=aM H;clear H;go_enter Tryz.func13,Tryz.ntmps13;go_wp2_with (first|((with_reducible refine ai (f:=36) rfl ?_);refine gL 9 Tryz.func36 #[.slice A0 l0.length c0] ?_;(with_reducible refine (aW.calls k _ _ l0 true _ ?side1 ?side2 A2.out).mono ?_);(case side1=>exact qc (Kd.fE HO0.out).2.2);(case side2=>exact (Kd.fE HO0.out).2.1);rintro e w5 ⟨rfl,hb⟩;refine ⟨_,rfl,?_⟩;replace HO0:=aM (Kd.oD (qva HO0.out) hb);replace HB:=aM (ag bw hb);(try clear hb);(try clear hk))|((with_reducible refine ai (f:=32) rfl ?_);refine gL 12 Tryz.func32 #[.slice A0 l0.length c0,.bool true] ?_;(with_reducible refine (aT.calls k _ _ l0 true t59 _ ?side1 ?side2 A4.out).mono ?_);(case side1=>exact qc (Kd.fE HO0.out).2.2);(case side2=>exact (Kd.fE HO0.out).2.1);rintro e w6 ⟨v60,rfl,ho0,hb⟩;refine ⟨_,rfl,?_⟩;replace HO0:=aM (Kd.eV (qva HO0.out) (Kd.da ho0) hb);have HO61:=aM (Kd.cr (Kd.nh (M:=fun k_=>(w.heap.size ≤ k_)) ho0 (av bw) (fun k_ h_=>h_)) (av bw));replace HB:=aM (ag bw hb);(try clear hb);(try clear ho0)))
  go_loopg [5,15] k (fun kq v5 v15 w'=>∃ (x5_1:List Int) (x15_1:Int),v15 = .int .i64 x15_1 ∧ aj (ap.l0 kq l0 t59 x5_1 (l0.length:Int) x15_1 = some (r1,r2)) ∧ aj (kq ≤ k) ∧ aj (Kd.V ak 25 w' w.heap.size (fun k_=>(P0_ k_ ∨ w.heap.size ≤ k_) ∧ some k_ ≠ (v60:Value).ownBlock ∧ some k_ ≠ (v5:Value).ownBlock) (.slice A0 l0.length c0) l0) ∧ aj (Kd.R Kd.bool 4 w' w.heap.size (fun k_=>(w.heap.size ≤ k_)) v60 t59) ∧ aj (Kd.R (Kd.int .i64) 3 w' w.heap.size (fun k_=>(w.heap.size ≤ k_)) v5 x5_1) ∧ aj (Below w.heap.size w w'))
  case atStart=>exact ⟨(([]:List Int)),(0),qrs,H',⟨Nat.le_refl _⟩,⟨by (with_reducible repeat (first|apply Kd.iB|apply Kd.iv|apply Kd.iu));exact Kd.gI HO0.out (fun _ hk=>⟨hk.1,⟨hk.2,(by simp [Value.ownBlock])⟩⟩)⟩,⟨by (with_reducible repeat (first|apply Kd.ca|apply Kd.b7|apply Kd.cu));exact Kd.cG HO61.out (fun _ hk=>hk.1)⟩,⟨by first|exact Kd.gx _ _ _ _ _|exact Kd.gQ _ _ _ _ _|exact Kd.gP _ _ _ _ _|exact Kd.gU _ _ _ _ _|exact Kd.gW _ _ _ _ _⟩,⟨by exact bw⟩⟩
  case round =>
   clear H';(try clear c3)
   obtain ⟨x5_1,x15_1,rfl,HA,HK1,HO_0,HO_4,HO_5,HB⟩:=hrel
   cases gk with
   | zero=>exact absurd HA.out (by simp [ap.l0])
   | succ k1 =>
    have H:=HA.out;clear HA;simp only [ap.l0] at H;by_cases c7:x15_1 < (l0.length:Int)
    ·rw [if_pos c7] at H;have c7b0:=decide_eq_true c7;clear c7;obtain ⟨y62,hy62⟩:∃ y_:List (aa),y_ = (([]:List (aa))):=⟨_,rfl⟩;replace H:(if 0 ≤ x15_1 then (if x15_1 ≤ (l0.length:Int) then ((some (l0.take (x15_1:Int).toNat:List (aa))).bind fun y66=>(if y62.length + y66.length < 4398046511104 then ((some (y62 ++ y66:List (aa))).bind fun y68=>(if 0 ≤ (wrap64 (x15_1 + 1)) then (if (wrap64 (x15_1 + 1)) ≤ (l0.length:Int) then ((some (l0.drop ((wrap64 (x15_1 + 1)):Int).toNat:List (aa))).bind fun y71=>(if y68.length + y71.length < 4398046511104 then ((some (y68 ++ y71:List (aa))).bind fun y73=>(if (y73.length:Int) > 0 then ((aT.f k1 y73 true).bind fun t76=>((cK.f k1 t76 t59).bind fun t79=>(if t79 = true then (if x5_1.length < 17592186044416 then (ap.l0 k1 l0 t59 (x5_1 ++ [x15_1]) (l0.length:Int) (wrap64 (x15_1 + 1))) else (none)) else (ap.l0 k1 l0 t59 x5_1 (l0.length:Int) (wrap64 (x15_1 + 1)))))) else (ap.l0 k1 l0 t59 x5_1 (l0.length:Int) (wrap64 (x15_1 + 1))))) else (none))) else (none)) else (none))) else (none))) else (none)) else (none)) = some (r1,r2):=yR hy62 H;have Ny62:=aM hy62;clear hy62;replace H:=iN H;obtain ⟨c8,H⟩:=H;have c8b0:=eq_true c8;have c8b1:decide (0 ≤ x15_1) = true:=decide_eq_true c8;clear c8;replace H:=iN H;obtain ⟨c9,H⟩:=H;have c9b0:=eq_true c9;have c9b1:decide (x15_1 ≤ (l0.length:Int)) = true:=decide_eq_true c9;clear c9;obtain ⟨y66,hy66⟩:∃ y_:List (aa),y_ = (l0.take (x15_1:Int).toNat):=⟨_,rfl⟩;replace H:(if y62.length + y66.length < 4398046511104 then ((some (y62 ++ y66:List (aa))).bind fun y68=>(if 0 ≤ (wrap64 (x15_1 + 1)) then (if (wrap64 (x15_1 + 1)) ≤ (l0.length:Int) then ((some (l0.drop ((wrap64 (x15_1 + 1)):Int).toNat:List (aa))).bind fun y71=>(if y68.length + y71.length < 4398046511104 then ((some (y68 ++ y71:List (aa))).bind fun y73=>(if (y73.length:Int) > 0 then ((aT.f k1 y73 true).bind fun t76=>((cK.f k1 t76 t59).bind fun t79=>(if t79 = true then (if x5_1.length < 17592186044416 then (ap.l0 k1 l0 t59 (x5_1 ++ [x15_1]) (l0.length:Int) (wrap64 (x15_1 + 1))) else (none)) else (ap.l0 k1 l0 t59 x5_1 (l0.length:Int) (wrap64 (x15_1 + 1)))))) else (ap.l0 k1 l0 t59 x5_1 (l0.length:Int) (wrap64 (x15_1 + 1))))) else (none))) else (none)) else (none))) else (none)) = some (r1,r2):=yR hy66 H;have Ny66:=aM hy66;clear hy66;replace H:=iN H;obtain ⟨c10,H⟩:=H;have LMc10:=aM c10;clear c10;obtain ⟨y68,hy68⟩:∃ y_:List (aa),y_ = (y62 ++ y66):=⟨_,rfl⟩;replace H:(if 0 ≤ (wrap64 (x15_1 + 1)) then (if (wrap64 (x15_1 + 1)) ≤ (l0.length:Int) then ((some (l0.drop ((wrap64 (x15_1 + 1)):Int).toNat:List (aa))).bind fun y71=>(if y68.length + y71.length < 4398046511104 then ((some (y68 ++ y71:List (aa))).bind fun y73=>(if (y73.length:Int) > 0 then ((aT.f k1 y73 true).bind fun t76=>((cK.f k1 t76 t59).bind fun t79=>(if t79 = true then (if x5_1.length < 17592186044416 then (ap.l0 k1 l0 t59 (x5_1 ++ [x15_1]) (l0.length:Int) (wrap64 (x15_1 + 1))) else (none)) else (ap.l0 k1 l0 t59 x5_1 (l0.length:Int) (wrap64 (x15_1 + 1)))))) else (ap.l0 k1 l0 t59 x5_1 (l0.length:Int) (wrap64 (x15_1 + 1))))) else (none))) else (none)) else (none)) = some (r1,r2):=yR hy68 H
     have Ny68:=aM hy68;clear hy68;obtain ⟨ji11,hji11⟩:∃ j_:Int,(wrap64 (x15_1 + 1)) = j_:=⟨_,rfl⟩;(first|rw [hji11] at H|simp only [hji11] at H)
     have hji11w:(IntKind.i64.wrap (x15_1 + 1)) = ji11:=(cS _).trans hji11;replace H:=iN H;obtain ⟨c12,H⟩:=H;have c12b0:=eq_true c12;have c12b1:decide (0 ≤ (ji11)) = true:=decide_eq_true c12;clear c12;replace H:=iN H;obtain ⟨c13,H⟩:=H;have c13b0:=eq_true c13;have c13b1:decide ((ji11) ≤ (l0.length:Int)) = true:=decide_eq_true c13;clear c13;obtain ⟨y71,hy71⟩:∃ y_:List (aa),y_ = (l0.drop ((ji11):Int).toNat):=⟨_,rfl⟩;replace H:(if y68.length + y71.length < 4398046511104 then ((some (y68 ++ y71:List (aa))).bind fun y73=>(if (y73.length:Int) > 0 then ((aT.f k1 y73 true).bind fun t76=>((cK.f k1 t76 t59).bind fun t79=>(if t79 = true then (if x5_1.length < 17592186044416 then (ap.l0 k1 l0 t59 (x5_1 ++ [x15_1]) (l0.length:Int) ji11) else (none)) else (ap.l0 k1 l0 t59 x5_1 (l0.length:Int) ji11)))) else (ap.l0 k1 l0 t59 x5_1 (l0.length:Int) ji11))) else (none)) = some (r1,r2):=yR hy71 H;have Ny71:=aM hy71;clear hy71;replace H:=iN H;obtain ⟨c14,H⟩:=H;have LMc14:=aM c14;clear c14;obtain ⟨y73,hy73⟩:∃ y_:List (aa),y_ = (y68 ++ y71):=⟨_,rfl⟩;replace H:(if (y73.length:Int) > 0 then ((aT.f k1 y73 true).bind fun t76=>((cK.f k1 t76 t59).bind fun t79=>(if t79 = true then (if x5_1.length < 17592186044416 then (ap.l0 k1 l0 t59 (x5_1 ++ [x15_1]) (l0.length:Int) ji11) else (none)) else (ap.l0 k1 l0 t59 x5_1 (l0.length:Int) ji11)))) else (ap.l0 k1 l0 t59 x5_1 (l0.length:Int) ji11)) = some (r1,r2):=yR hy73 H;have Ny73:=aM hy73;clear hy73;by_cases c15:(y73.length:Int) > 0
     ·rw [if_pos c15] at H;have c15b0:decide (0 < (y73.length:Int)) = true:=decide_eq_true c15;have c15b1:decide (0 < y73.length) = true:=decide_eq_true (by omega);clear c15;replace H:=oB H;obtain ⟨t76,A16,H⟩:=H;(try dsimp only at H)
      replace H:=oB H;obtain ⟨t79,A17,H⟩:=H;(try dsimp only at H)
      by_cases c18:t79 = true
      ·subst c18;rw [if_pos rfl] at H;replace H:=iN H;obtain ⟨c19,H⟩:=H;have LMc19:=aM c19;clear c19;obtain ⟨y80,hy80⟩:∃ y_:List Int,y_ = (x5_1 ++ [x15_1]):=⟨_,rfl⟩;replace H:(ap.l0 k1 l0 t59 y80 (l0.length:Int) ji11) = some (r1,r2):=yR hy80 H;have Ny80:=aM hy80;clear hy80;have H':=aM H;clear H
       try go_wp2
       replace HO_0:=aM (Kd.iu HO_0.out);replace HO_4:=aM (Kd.cu HO_4.out);replace HO_5:=aM (Kd.cu HO_5.out);replace HB:=aM (bg HB.out);have q21:(x15_1:Int) ≤ ((l0.length:Int):Int):=of_decide_eq_true ab;obtain ⟨i021,hi52,_,hsz21,_⟩:=info_parts fh;have hroom21:l0.length ≤ c0:=(Kd.fE HO_0.out).2.1;have hC21:Kd.F ak _ _ A0 l0.length l0:=(Kd.V_at (base:=w.heap.size) HO_0.out).2.2;have hcut21:=j6 (P:=Tryz.prog) 22 25 .i64 Tryz.underlying22 hi52 A0 l0.length c0 x15_1 (of_decide_eq_true ab) q21 hroom21;have hr21:=Kd.oE (m:=(x15_1:Int).toNat) hC21 (by omega);have hy21:y66.length = (x15_1:Int).toNat:=(by rw [Ny66.out,List.length_take];omega);rw [← Ny66.out] at hr21;rw [← hy21] at hcut21;have HO67:=aM (show Kd.V ak 25 _ w.heap.size _ (.slice A0 y66.length c0) y66 from Kd.V_mk (by omega) hr21);have HC67:=aM (show y66.length ≤ c0 from by omega);clear hr21 hC21 hroom21 hi52 hsz21;have KY21:=aM hy21;clear hy21;replace q21:=eq_true q21;have q22:((ji11):Int) ≤ ((l0.length:Int):Int):=of_decide_eq_true ab;obtain ⟨i022,hi53,_,hsz22,_⟩:=info_parts fh;have hroom22:l0.length ≤ c0:=(Kd.fE HO_0.out).2.1;have hC22:Kd.F ak _ _ A0 l0.length l0:=(Kd.V_at (base:=w.heap.size) HO_0.out).2.2;have q53:(0:Int) ≤ ((ji11):Int):=of_decide_eq_true ab;have hcut22:=gG (P:=Tryz.prog) 22 25 .i64 Tryz.underlying22 hi53 2 hsz22 A0 l0.length c0 (ji11) q53 q22;have hr22:=Kd.F_cut (m:=((ji11):Int).toNat) (c:=c0) hC22 (by omega) hroom22;obtain ⟨A22,hA22⟩:∃ A1,A1 = (if c0 = ((ji11):Int).toNat then A0 else (A0:Option Addr).map (·.add (((ji11):Int).toNat * 2))):=⟨_,rfl⟩;obtain ⟨c22,hc22⟩:∃ c1,c1 = c0 - ((ji11):Int).toNat:=⟨_,rfl⟩;have hy22:y71.length = l0.length - ((ji11):Int).toNat:=(by rw [Ny71.out,List.length_drop] <;> omega);rw [show (l0).drop ((ji11):Int).toNat = y71 from Ny71.out.symm] at hr22;replace hr22:Kd.F ak _ _ A22 y71.length y71:=(by rw [hA22];exact hr22);rw [← hy22,← hA22,← hc22] at hcut22;have HO72:=aM (show Kd.V ak 25 _ w.heap.size _ (.slice A22 y71.length c22) y71 from Kd.V_mk (by rw [hy22,hc22];exact Nat.sub_le_sub_right hroom22 _) hr22);have HC72:=aM (show y71.length ≤ c22 from by rw [hy22,hc22];exact Nat.sub_le_sub_right hroom22 _);clear hr22 hC22 hroom22 hi53 hsz22 hc22;have KY22:=aM hy22;have KA22:=aM hA22;clear hy22 hA22;replace q22:=eq_true q22;refine eQ (n:=11) (S:=fun w'=>True) (ds:=[]) (mA 11 0) kR rfl rfl trivial (fun hHeld=>?_);refine dx ap.tab8 ap.bits8 (fun HT_ HW_=>?_)
       generalize wr.drew = w20 at HO_0 HO_4 HO_5 HB HO67 HO72 hHeld ⊢
       refine pT 1 19 HT_.out ?_;refine pT 2 20 HT_.out ?_;refine pT 3 21 HT_.out ?_;refine pT 5 23 HT_.out ?_;refine pT 6 24 HT_.out ?_;refine pT 7 25 HT_.out ?_;refine pT 8 26 HT_.out ?_;refine oN 0 (some 18) HT_.out fun K hK=>?_
       refine Kd.gO ak _ 25 ?hg (N':=18) ?hd (xs:=([]:List (aa))) (inner:=[]) (ok:=(fun k_=>(P0_ k_ ∨ w.heap.size ≤ k_) ∧ some k_ ≠ (v60:Value).ownBlock ∧ some k_ ≠ (u5:Value).ownBlock)) (okp:=(fun k_=>(P0_ k_ ∨ w.heap.size ≤ k_) ∧ some k_ ≠ (v60:Value).ownBlock ∧ some k_ ≠ (u5:Value).ownBlock)) ?hr ?hp (fun _ hk=>hk) ((show ∀ k_,w20.heap.size ≤ k_ → (fun k_=>(P0_ k_ ∨ w.heap.size ≤ k_) ∧ some k_ ≠ (v60:Value).ownBlock ∧ some k_ ≠ (u5:Value).ownBlock) k_ from fun k_ hk=>⟨(.inr (Nat.le_trans (av bw) hk)),Kd.bA (Kd.gp (qra HO_4.out)) k_ hk,Kd.bA (Kd.gp (qra HO_5.out)) k_ hk⟩) _ (Nat.le_refl _)) (Below.refl _ _) (Nat.le_refl _) (by simp) ?_;(case hd=>rfl);(case hg=>rfl);(case hr=>first|(go_simp;done)|(go_simp;rfl));(case hp=>exact (eH.none _ _))
       intro v63 w23 ho24 hb hg_ hnew_;clear hg_ hnew_;(first|rw [← Ny62.out] at ho24|(simp only [Int.reduceToNat] at ho24;rw [← Ny62.out] at ho24))
       replace HO_0:=aM (Kd.eV (qva HO_0.out) (Kd.dY ho24) hb);replace HO_4:=aM (Kd.ba (qra HO_4.out) hb);replace HO_5:=aM (Kd.ba (qra HO_5.out) hb);replace HO67:=aM (Kd.eV (qva HO67.out) (Kd.dY ho24) hb);replace HO72:=aM (Kd.eV (qva HO72.out) (Kd.dY ho24) hb);have HO65:=aM (Kd.fp ho24 (av bw));replace HB:=aM (ag bw hb);clear hb ho24;refine hK.out _ _ trivial (fun hHeld=>?_);clear hK K;refine nM 18 ?_;refine oN 4 (some 22) HT_.out fun K hK=>?_
       refine Kd.di ak (w0:=w) w.heap.size (by rfl) (.tmp 18) (.tmp 21) 22 25 (.agg #[(.int .i64 0),(.slice none 0 0)]) 32 rfl Tryz.underlying22 fh rfl (by decide) (by omega) v63 y62 y66 _ _ _ (fun k_=>(P0_ k_ ∨ w.heap.size ≤ k_) ∧ some k_ ≠ (v60:Value).ownBlock ∧ some k_ ≠ (u5:Value).ownBlock) (fun k_=>((fun k_=>(P0_ k_ ∨ w.heap.size ≤ k_) ∧ some k_ ≠ (v60:Value).ownBlock ∧ some k_ ≠ (u5:Value).ownBlock)) k_ ∧ some k_ ≠ (v63:Value).ownBlock) rfl rfl ?aO ?aR (fun _ hk=>hk) ?aF ?aB ?aS ?aL ?_;(case aR=>exact (by skip;exact Kd.V_F (Kd.gI (ok':=(fun k_=>((fun k_=>(P0_ k_ ∨ w.heap.size ≤ k_) ∧ some k_ ≠ (v60:Value).ownBlock ∧ some k_ ≠ (u5:Value).ownBlock)) k_ ∧ some k_ ≠ (v63:Value).ownBlock)) (HO67.out) (fun k_ hk=>⟨⟨hk.1.1,⟨hk.1.2.1,hk.1.2.2⟩⟩,hk.2⟩))))
       (case aB=>exact bw)
       (case aF=>exact (fun k_ hk=>⟨(.inr (Nat.le_trans (av bw) hk)),Kd.bA (Kd.gp (qra HO_4.out)) k_ hk,Kd.bA (Kd.gp (qra HO_5.out)) k_ hk⟩))
       (case aO=>exact (qna HO65.out))
       (case aS=>exact (av bw))
       (case aL=>have:=LMc10.out;omega)
       intro v69 w25 ho hb hg hat;rw [← Ny68.out] at ho;replace HO_0:=aM (Kd.ec (ok:=(fun k_=>(P0_ k_ ∨ w.heap.size ≤ k_) ∧ some k_ ≠ (v60:Value).ownBlock ∧ some k_ ≠ (u5:Value).ownBlock)) (qva HO_0.out) hg hat);replace HO_4:=aM (Kd.eW (qra HO_4.out) (Kd.ee (qna HO65.out)) (by decide) hg);replace HO_5:=aM (Kd.eW (qra HO_5.out) (Kd.ee (qna HO65.out)) (by decide) hg);replace HO67:=aM (Kd.ec (ok:=(fun k_=>(P0_ k_ ∨ w.heap.size ≤ k_) ∧ some k_ ≠ (v60:Value).ownBlock ∧ some k_ ≠ (u5:Value).ownBlock)) (qva HO67.out) hg hat);replace HO72:=aM (Kd.ec (ok:=(fun k_=>(P0_ k_ ∨ w.heap.size ≤ k_) ∧ some k_ ≠ (v60:Value).ownBlock ∧ some k_ ≠ (u5:Value).ownBlock)) (qva HO72.out) hg hat);replace HB:=aM (hb);have HO70:=aM (ho);clear HO65;clear ho hb hg hat;refine hK.out _ _ trivial (fun hHeld=>?_);clear hK K;refine nM 22 ?_;refine oN 9 (some 27) HT_.out fun K hK=>?_
       refine Kd.di ak (w0:=w) w.heap.size (by rfl) (.tmp 22) (.tmp 26) 22 25 (.agg #[(.int .i64 0),(.slice none 0 0)]) 32 rfl Tryz.underlying22 fh rfl (by decide) (by omega) v69 y68 y71 _ _ _ (fun k_=>(P0_ k_ ∨ w.heap.size ≤ k_) ∧ some k_ ≠ (v60:Value).ownBlock ∧ some k_ ≠ (u5:Value).ownBlock) (fun k_=>((fun k_=>(P0_ k_ ∨ w.heap.size ≤ k_) ∧ some k_ ≠ (v60:Value).ownBlock ∧ some k_ ≠ (u5:Value).ownBlock)) k_ ∧ some k_ ≠ (v69:Value).ownBlock) rfl rfl ?aO ?aR (fun _ hk=>hk) ?aF ?aB ?aS ?aL ?_;(case aR=>exact (by skip;exact Kd.V_F (Kd.gI (ok':=(fun k_=>((fun k_=>(P0_ k_ ∨ w.heap.size ≤ k_) ∧ some k_ ≠ (v60:Value).ownBlock ∧ some k_ ≠ (u5:Value).ownBlock)) k_ ∧ some k_ ≠ (v69:Value).ownBlock)) (HO72.out) (fun k_ hk=>⟨⟨hk.1.1,⟨hk.1.2.1,hk.1.2.2⟩⟩,hk.2⟩))))
       (case aB=>exact bw)
       (case aF=>exact (fun k_ hk=>⟨(.inr (Nat.le_trans (av bw) hk)),Kd.bA (Kd.gp (qra HO_4.out)) k_ hk,Kd.bA (Kd.gp (qra HO_5.out)) k_ hk⟩))
       (case aO=>exact (qna HO70.out))
       (case aS=>exact (av bw))
       (case aL=>have:=LMc14.out;omega)
       intro v74 w26 ho hb hg hat;rw [← Ny73.out] at ho;replace HO_0:=aM (Kd.ec (ok:=(fun k_=>(P0_ k_ ∨ w.heap.size ≤ k_) ∧ some k_ ≠ (v60:Value).ownBlock ∧ some k_ ≠ (u5:Value).ownBlock)) (qva HO_0.out) hg hat);replace HO_4:=aM (Kd.eW (qra HO_4.out) (Kd.ee (qna HO70.out)) (by decide) hg);replace HO_5:=aM (Kd.eW (qra HO_5.out) (Kd.ee (qna HO70.out)) (by decide) hg);replace HO67:=aM (Kd.ec (ok:=(fun k_=>(P0_ k_ ∨ w.heap.size ≤ k_) ∧ some k_ ≠ (v60:Value).ownBlock ∧ some k_ ≠ (u5:Value).ownBlock)) (qva HO67.out) hg hat);replace HO72:=aM (Kd.ec (ok:=(fun k_=>(P0_ k_ ∨ w.heap.size ≤ k_) ∧ some k_ ≠ (v60:Value).ownBlock ∧ some k_ ≠ (u5:Value).ownBlock)) (qva HO72.out) hg hat);replace HB:=aM (hb);have HO75:=aM (ho);clear HO70;clear ho hb hg hat;refine hK.out _ _ trivial (fun hHeld=>?_);clear hK K;refine nM 27 ?_;refine pT 10 7 HT_.out ?_;refine fK (eA HT_.out kR) ?_;obtain ⟨Ao27,co27,eo27⟩:=Kd.ff HO75.out;subst eo27
       try go_wp2_with (first|(go_at_call 32;(with_reducible refine (aT.calls k1 _ _ y73 true t76 _ ?side1 ?side2 A16.out).mono ?_);(case side1=>exact qc (Kd.bY HO75.out).2.2);(case side2=>exact (Kd.bY HO75.out).2.1);rintro e w28 ⟨v77,rfl,ho0,hb⟩;replace HO_0:=aM (Kd.eV (qva HO_0.out) (Kd.da ho0) hb);replace HO_5:=aM (Kd.ba (qra HO_5.out) hb);replace HO67:=aM (Kd.eV (qva HO67.out) (Kd.da ho0) hb);replace HO72:=aM (Kd.eV (qva HO72.out) (Kd.da ho0) hb);replace HO75:=aM (Kd.bh (qna HO75.out) (Kd.da ho0) hb);have HO78:=aM (Kd.cr (Kd.gv (Kd.nh (M:=fun k_=>(w.heap.size ≤ k_)) ho0 (av bw) (fun k_ h_=>h_)) (Kd.gp (qra HO_4.out))) (av bw));replace HO_4:=aM (Kd.eN (qra HO_4.out) (Kd.da ho0) hb);replace HB:=aM (ag bw hb);(try clear hb);(try clear hk);(try clear ho0);obtain ⟨Ao29,co29,eo29⟩:=Kd.b5 HO78.out;subst eo29;obtain ⟨Ao30,co30,eo30⟩:=Kd.b5 HO_4.out;subst eo30)|(go_at_call 43;(with_reducible refine (cK.calls k1 _ _ t76 _ _ t59 true _ ?side1 ?side2 ?side3 ?side4 A17.out).mono ?_);(case side1=>exact qc (Kd.aI HO78.out).2.2);(case side2=>exact (Kd.aI HO78.out).2.1);(case side3=>exact qc (Kd.aI HO_4.out).2.2);(case side4=>exact (Kd.aI HO_4.out).2.1);rintro e w' ⟨rfl,⟨nd,rfl⟩⟩)|((with_reducible refine dr (b:=.append) (xs:=#[.tmp 37,.tmp 39]) rfl ?_);at_builtin;refine Kd.gg (Kd.int .i64) (w0:=w) w.heap.size rfl (.tmp 37) (.tmp 39) 23 3 (.int .i64 0) 8 rfl Tryz.underlying23 kQ rfl (by decide) (by omega) u5 x5_1 x15_1 [.int .i64 x15_1] (fun k_=>(w.heap.size ≤ k_)) (fun _=>False) rfl rfl ?aP (fun _ hk=>hk.elim) ?aF ?aO ?aB ?aS ?aL ?_;(case aP=>exact rfl);(case aB=>exact bw);(case aF=>exact (fun k_ hk=>(Nat.le_trans (av bw) hk)));(case aO=>exact (qra HO_5.out));(case aS=>exact (av bw));(case aL=>have:=LMc19.out;omega);intro v81 w31 ho hb hg hat;rw [← Ny80.out] at ho;replace HO_0:=aM (Kd.ec (ok:=(fun k_=>(P0_ k_ ∨ w.heap.size ≤ k_) ∧ some k_ ≠ (.slice Ao30 t59.length co30:Value).ownBlock ∧ some k_ ≠ (.slice Ao27 y73.length co27:Value).ownBlock ∧ some k_ ≠ (.slice Ao29 t76.length co29:Value).ownBlock)) (by (with_reducible repeat (first|apply Kd.iB|apply Kd.iv|apply Kd.iu));exact Kd.gI HO_0.out (fun _ hk=>cj hk)) hg hat);replace HO_4:=aM (Kd.eW (qra HO_4.out) (Kd.j7 (qra HO_5.out)) (by decide) hg);replace HO67:=aM (Kd.ec (ok:=(fun k_=>(P0_ k_ ∨ w.heap.size ≤ k_) ∧ some k_ ≠ (.slice Ao30 t59.length co30:Value).ownBlock ∧ some k_ ≠ (.slice Ao27 y73.length co27:Value).ownBlock ∧ some k_ ≠ (.slice Ao29 t76.length co29:Value).ownBlock)) (by (with_reducible repeat (first|apply Kd.iB|apply Kd.iv|apply Kd.iu));exact Kd.gI HO67.out (fun _ hk=>cj hk)) hg hat);replace HO72:=aM (Kd.ec (ok:=(fun k_=>(P0_ k_ ∨ w.heap.size ≤ k_) ∧ some k_ ≠ (.slice Ao30 t59.length co30:Value).ownBlock ∧ some k_ ≠ (.slice Ao27 y73.length co27:Value).ownBlock ∧ some k_ ≠ (.slice Ao29 t76.length co29:Value).ownBlock)) (by (with_reducible repeat (first|apply Kd.iB|apply Kd.iv|apply Kd.iu));exact Kd.gI HO72.out (fun _ hk=>cj hk)) hg hat);replace HO75:=aM (Kd.d9 (ok:=(fun k_=>(P0_ k_ ∨ w.heap.size ≤ k_) ∧ some k_ ≠ (.slice Ao30 t59.length co30:Value).ownBlock ∧ some k_ ≠ (.slice Ao29 t76.length co29:Value).ownBlock)) (by (with_reducible repeat (first|apply Kd.bR|apply Kd.bO|apply Kd.cf));exact Kd.bT HO75.out (fun _ hk=>cj hk)) hg hat);replace HO78:=aM (Kd.eW (qra HO78.out) (Kd.j7 (qra HO_5.out)) (by decide) hg);replace HB:=aM (hb);have HO82:=aM (ho);clear HO_5;clear ho hb hg hat))
       go_roundg k1
       case measure=>have:=HK1.out;omega
       case rel=>exact ⟨(y80),(ji11),(by first|rfl|(simp;done)|(simp only [← hji11] <;> (first|rfl|simp))|(simp [*];done)),H',⟨by have:=HK1.out;omega⟩,⟨by (with_reducible repeat (first|apply Kd.iB|apply Kd.iv|apply Kd.iu));exact Kd.gI HO_0.out (fun _ hk=>cj hk)⟩,⟨by (with_reducible repeat (first|apply Kd.ca|apply Kd.b7|apply Kd.cu));exact Kd.cG HO_4.out (fun _ hk=>hk.1)⟩,⟨qra HO82.out⟩,⟨by exact bw⟩⟩
      ·replace c18:=Bool.eq_false_iff.mpr c18;subst c18;rw [if_neg (show ¬ (false = true) by decide)] at H;have H':=aM H;clear H
       try go_wp2
       replace HO_0:=aM (Kd.iu HO_0.out);replace HO_4:=aM (Kd.cu HO_4.out);replace HO_5:=aM (Kd.cu HO_5.out);replace HB:=aM (bg HB.out);have q33:(x15_1:Int) ≤ ((l0.length:Int):Int):=of_decide_eq_true ab;obtain ⟨i033,hi54,_,hsz33,_⟩:=info_parts fh;have hroom33:l0.length ≤ c0:=(Kd.fE HO_0.out).2.1;have hC33:Kd.F ak _ _ A0 l0.length l0:=(Kd.V_at (base:=w.heap.size) HO_0.out).2.2;have hcut33:=j6 (P:=Tryz.prog) 22 25 .i64 Tryz.underlying22 hi54 A0 l0.length c0 x15_1 (of_decide_eq_true ab) q33 hroom33;have hr33:=Kd.oE (m:=(x15_1:Int).toNat) hC33 (by omega);have hy33:y66.length = (x15_1:Int).toNat:=(by rw [Ny66.out,List.length_take];omega);rw [← Ny66.out] at hr33;rw [← hy33] at hcut33;have HO67:=aM (show Kd.V ak 25 _ w.heap.size _ (.slice A0 y66.length c0) y66 from Kd.V_mk (by omega) hr33);have HC67:=aM (show y66.length ≤ c0 from by omega);clear hr33 hC33 hroom33 hi54 hsz33;have KY33:=aM hy33;clear hy33;replace q33:=eq_true q33;have q34:((ji11):Int) ≤ ((l0.length:Int):Int):=of_decide_eq_true ab;obtain ⟨i034,hi55,_,hsz34,_⟩:=info_parts fh;have hroom34:l0.length ≤ c0:=(Kd.fE HO_0.out).2.1;have hC34:Kd.F ak _ _ A0 l0.length l0:=(Kd.V_at (base:=w.heap.size) HO_0.out).2.2;have q55:(0:Int) ≤ ((ji11):Int):=of_decide_eq_true ab;have hcut34:=gG (P:=Tryz.prog) 22 25 .i64 Tryz.underlying22 hi55 2 hsz34 A0 l0.length c0 (ji11) q55 q34;have hr34:=Kd.F_cut (m:=((ji11):Int).toNat) (c:=c0) hC34 (by omega) hroom34;obtain ⟨A34,hA34⟩:∃ A1,A1 = (if c0 = ((ji11):Int).toNat then A0 else (A0:Option Addr).map (·.add (((ji11):Int).toNat * 2))):=⟨_,rfl⟩;obtain ⟨c34,hc34⟩:∃ c1,c1 = c0 - ((ji11):Int).toNat:=⟨_,rfl⟩;have hy34:y71.length = l0.length - ((ji11):Int).toNat:=(by rw [Ny71.out,List.length_drop] <;> omega);rw [show (l0).drop ((ji11):Int).toNat = y71 from Ny71.out.symm] at hr34;replace hr34:Kd.F ak _ _ A34 y71.length y71:=(by rw [hA34];exact hr34);rw [← hy34,← hA34,← hc34] at hcut34;have HO72:=aM (show Kd.V ak 25 _ w.heap.size _ (.slice A34 y71.length c34) y71 from Kd.V_mk (by rw [hy34,hc34];exact Nat.sub_le_sub_right hroom34 _) hr34);have HC72:=aM (show y71.length ≤ c34 from by rw [hy34,hc34];exact Nat.sub_le_sub_right hroom34 _);clear hr34 hC34 hroom34 hi55 hsz34 hc34;have KY34:=aM hy34;have KA34:=aM hA34;clear hy34 hA34;replace q34:=eq_true q34;refine eQ (n:=11) (S:=fun w'=>True) (ds:=[]) (mA 11 0) kR rfl rfl trivial (fun hHeld=>?_);refine dx ap.tab8 ap.bits8 (fun HT_ HW_=>?_)
       generalize wr.drew = w32 at HO_0 HO_4 HO_5 HB HO67 HO72 hHeld ⊢
       refine pT 1 19 HT_.out ?_;refine pT 2 20 HT_.out ?_;refine pT 3 21 HT_.out ?_;refine pT 5 23 HT_.out ?_;refine pT 6 24 HT_.out ?_;refine pT 7 25 HT_.out ?_;refine pT 8 26 HT_.out ?_;refine oN 0 (some 18) HT_.out fun K hK=>?_
       refine Kd.gO ak _ 25 ?hg (N':=18) ?hd (xs:=([]:List (aa))) (inner:=[]) (ok:=(fun k_=>(P0_ k_ ∨ w.heap.size ≤ k_) ∧ some k_ ≠ (v60:Value).ownBlock ∧ some k_ ≠ (u5:Value).ownBlock)) (okp:=(fun k_=>(P0_ k_ ∨ w.heap.size ≤ k_) ∧ some k_ ≠ (v60:Value).ownBlock ∧ some k_ ≠ (u5:Value).ownBlock)) ?hr ?hp (fun _ hk=>hk) ((show ∀ k_,w32.heap.size ≤ k_ → (fun k_=>(P0_ k_ ∨ w.heap.size ≤ k_) ∧ some k_ ≠ (v60:Value).ownBlock ∧ some k_ ≠ (u5:Value).ownBlock) k_ from fun k_ hk=>⟨(.inr (Nat.le_trans (av bw) hk)),Kd.bA (Kd.gp (qra HO_4.out)) k_ hk,Kd.bA (Kd.gp (qra HO_5.out)) k_ hk⟩) _ (Nat.le_refl _)) (Below.refl _ _) (Nat.le_refl _) (by simp) ?_;(case hd=>rfl);(case hg=>rfl);(case hr=>first|(go_simp;done)|(go_simp;rfl));(case hp=>exact (eH.none _ _))
       intro v63 w35 ho36 hb hg_ hnew_;clear hg_ hnew_;(first|rw [← Ny62.out] at ho36|(simp only [Int.reduceToNat] at ho36;rw [← Ny62.out] at ho36))
       replace HO_0:=aM (Kd.eV (qva HO_0.out) (Kd.dY ho36) hb);replace HO_4:=aM (Kd.ba (qra HO_4.out) hb);replace HO_5:=aM (Kd.ba (qra HO_5.out) hb);replace HO67:=aM (Kd.eV (qva HO67.out) (Kd.dY ho36) hb);replace HO72:=aM (Kd.eV (qva HO72.out) (Kd.dY ho36) hb);have HO65:=aM (Kd.fp ho36 (av bw));replace HB:=aM (ag bw hb);clear hb ho36;refine hK.out _ _ trivial (fun hHeld=>?_);clear hK K;refine nM 18 ?_;refine oN 4 (some 22) HT_.out fun K hK=>?_
       refine Kd.di ak (w0:=w) w.heap.size (by rfl) (.tmp 18) (.tmp 21) 22 25 (.agg #[(.int .i64 0),(.slice none 0 0)]) 32 rfl Tryz.underlying22 fh rfl (by decide) (by omega) v63 y62 y66 _ _ _ (fun k_=>(P0_ k_ ∨ w.heap.size ≤ k_) ∧ some k_ ≠ (v60:Value).ownBlock ∧ some k_ ≠ (u5:Value).ownBlock) (fun k_=>((fun k_=>(P0_ k_ ∨ w.heap.size ≤ k_) ∧ some k_ ≠ (v60:Value).ownBlock ∧ some k_ ≠ (u5:Value).ownBlock)) k_ ∧ some k_ ≠ (v63:Value).ownBlock) rfl rfl ?aO ?aR (fun _ hk=>hk) ?aF ?aB ?aS ?aL ?_;(case aR=>exact (by skip;exact Kd.V_F (Kd.gI (ok':=(fun k_=>((fun k_=>(P0_ k_ ∨ w.heap.size ≤ k_) ∧ some k_ ≠ (v60:Value).ownBlock ∧ some k_ ≠ (u5:Value).ownBlock)) k_ ∧ some k_ ≠ (v63:Value).ownBlock)) (HO67.out) (fun k_ hk=>⟨⟨hk.1.1,⟨hk.1.2.1,hk.1.2.2⟩⟩,hk.2⟩))))
       (case aB=>exact bw)
       (case aF=>exact (fun k_ hk=>⟨(.inr (Nat.le_trans (av bw) hk)),Kd.bA (Kd.gp (qra HO_4.out)) k_ hk,Kd.bA (Kd.gp (qra HO_5.out)) k_ hk⟩))
       (case aO=>exact (qna HO65.out))
       (case aS=>exact (av bw))
       (case aL=>have:=LMc10.out;omega)
       intro v69 w37 ho hb hg hat;rw [← Ny68.out] at ho;replace HO_0:=aM (Kd.ec (ok:=(fun k_=>(P0_ k_ ∨ w.heap.size ≤ k_) ∧ some k_ ≠ (v60:Value).ownBlock ∧ some k_ ≠ (u5:Value).ownBlock)) (qva HO_0.out) hg hat);replace HO_4:=aM (Kd.eW (qra HO_4.out) (Kd.ee (qna HO65.out)) (by decide) hg);replace HO_5:=aM (Kd.eW (qra HO_5.out) (Kd.ee (qna HO65.out)) (by decide) hg);replace HO67:=aM (Kd.ec (ok:=(fun k_=>(P0_ k_ ∨ w.heap.size ≤ k_) ∧ some k_ ≠ (v60:Value).ownBlock ∧ some k_ ≠ (u5:Value).ownBlock)) (qva HO67.out) hg hat);replace HO72:=aM (Kd.ec (ok:=(fun k_=>(P0_ k_ ∨ w.heap.size ≤ k_) ∧ some k_ ≠ (v60:Value).ownBlock ∧ some k_ ≠ (u5:Value).ownBlock)) (qva HO72.out) hg hat);replace HB:=aM (hb);have HO70:=aM (ho);clear HO65;clear ho hb hg hat;refine hK.out _ _ trivial (fun hHeld=>?_);clear hK K;refine nM 22 ?_;refine oN 9 (some 27) HT_.out fun K hK=>?_
       refine Kd.di ak (w0:=w) w.heap.size (by rfl) (.tmp 22) (.tmp 26) 22 25 (.agg #[(.int .i64 0),(.slice none 0 0)]) 32 rfl Tryz.underlying22 fh rfl (by decide) (by omega) v69 y68 y71 _ _ _ (fun k_=>(P0_ k_ ∨ w.heap.size ≤ k_) ∧ some k_ ≠ (v60:Value).ownBlock ∧ some k_ ≠ (u5:Value).ownBlock) (fun k_=>((fun k_=>(P0_ k_ ∨ w.heap.size ≤ k_) ∧ some k_ ≠ (v60:Value).ownBlock ∧ some k_ ≠ (u5:Value).ownBlock)) k_ ∧ some k_ ≠ (v69:Value).ownBlock) rfl rfl ?aO ?aR (fun _ hk=>hk) ?aF ?aB ?aS ?aL ?_;(case aR=>exact (by skip;exact Kd.V_F (Kd.gI (ok':=(fun k_=>((fun k_=>(P0_ k_ ∨ w.heap.size ≤ k_) ∧ some k_ ≠ (v60:Value).ownBlock ∧ some k_ ≠ (u5:Value).ownBlock)) k_ ∧ some k_ ≠ (v69:Value).ownBlock)) (HO72.out) (fun k_ hk=>⟨⟨hk.1.1,⟨hk.1.2.1,hk.1.2.2⟩⟩,hk.2⟩))))
       (case aB=>exact bw)
       (case aF=>exact (fun k_ hk=>⟨(.inr (Nat.le_trans (av bw) hk)),Kd.bA (Kd.gp (qra HO_4.out)) k_ hk,Kd.bA (Kd.gp (qra HO_5.out)) k_ hk⟩))
       (case aO=>exact (qna HO70.out))
       (case aS=>exact (av bw))
       (case aL=>have:=LMc14.out;omega)
       intro v74 w38 ho hb hg hat;rw [← Ny73.out] at ho;replace HO_0:=aM (Kd.ec (ok:=(fun k_=>(P0_ k_ ∨ w.heap.size ≤ k_) ∧ some k_ ≠ (v60:Value).ownBlock ∧ some k_ ≠ (u5:Value).ownBlock)) (qva HO_0.out) hg hat);replace HO_4:=aM (Kd.eW (qra HO_4.out) (Kd.ee (qna HO70.out)) (by decide) hg);replace HO_5:=aM (Kd.eW (qra HO_5.out) (Kd.ee (qna HO70.out)) (by decide) hg);replace HO67:=aM (Kd.ec (ok:=(fun k_=>(P0_ k_ ∨ w.heap.size ≤ k_) ∧ some k_ ≠ (v60:Value).ownBlock ∧ some k_ ≠ (u5:Value).ownBlock)) (qva HO67.out) hg hat);replace HO72:=aM (Kd.ec (ok:=(fun k_=>(P0_ k_ ∨ w.heap.size ≤ k_) ∧ some k_ ≠ (v60:Value).ownBlock ∧ some k_ ≠ (u5:Value).ownBlock)) (qva HO72.out) hg hat);replace HB:=aM (hb);have HO75:=aM (ho);clear HO70;clear ho hb hg hat;refine hK.out _ _ trivial (fun hHeld=>?_);clear hK K;refine nM 27 ?_;refine pT 10 7 HT_.out ?_;refine fK (eA HT_.out kR) ?_;obtain ⟨Ao39,co39,eo39⟩:=Kd.ff HO75.out;subst eo39
       try go_wp2_with (first|(go_at_call 32;(with_reducible refine (aT.calls k1 _ _ y73 true t76 _ ?side1 ?side2 A16.out).mono ?_);(case side1=>exact qc (Kd.bY HO75.out).2.2);(case side2=>exact (Kd.bY HO75.out).2.1);rintro e w40 ⟨v77,rfl,ho0,hb⟩;replace HO_0:=aM (Kd.eV (qva HO_0.out) (Kd.da ho0) hb);replace HO_5:=aM (Kd.ba (qra HO_5.out) hb);replace HO67:=aM (Kd.eV (qva HO67.out) (Kd.da ho0) hb);replace HO72:=aM (Kd.eV (qva HO72.out) (Kd.da ho0) hb);replace HO75:=aM (Kd.bh (qna HO75.out) (Kd.da ho0) hb);have HO78:=aM (Kd.cr (Kd.gv (Kd.nh (M:=fun k_=>(w.heap.size ≤ k_)) ho0 (av bw) (fun k_ h_=>h_)) (Kd.gp (qra HO_4.out))) (av bw));replace HO_4:=aM (Kd.eN (qra HO_4.out) (Kd.da ho0) hb);replace HB:=aM (ag bw hb);(try clear hb);(try clear hk);(try clear ho0);obtain ⟨Ao41,co41,eo41⟩:=Kd.b5 HO78.out;subst eo41;obtain ⟨Ao42,co42,eo42⟩:=Kd.b5 HO_4.out;subst eo42)|(go_at_call 43;(with_reducible refine (cK.calls k1 _ _ t76 _ _ t59 false _ ?side1 ?side2 ?side3 ?side4 A17.out).mono ?_);(case side1=>exact qc (Kd.aI HO78.out).2.2);(case side2=>exact (Kd.aI HO78.out).2.1);(case side3=>exact qc (Kd.aI HO_4.out).2.2);(case side4=>exact (Kd.aI HO_4.out).2.1);rintro e w' ⟨rfl,⟨nd,rfl⟩⟩))
       go_roundg k1
       case measure=>have:=HK1.out;omega
       case rel=>exact ⟨(x5_1),(ji11),(by first|rfl|(simp;done)|(simp only [← hji11] <;> (first|rfl|simp))|(simp [*];done)),H',⟨by have:=HK1.out;omega⟩,⟨by (with_reducible repeat (first|apply Kd.iB|apply Kd.iv|apply Kd.iu));exact Kd.gI HO_0.out (fun _ hk=>cj hk)⟩,⟨by (with_reducible repeat (first|apply Kd.ca|apply Kd.b7|apply Kd.cu));exact Kd.cG HO_4.out (fun _ hk=>hk.1)⟩,⟨qra HO_5.out⟩,⟨by exact bw⟩⟩
     ·rw [if_neg c15] at H;have c15b0:decide (0 < (y73.length:Int)) = false:=decide_eq_false c15;have c15b1:decide (0 < y73.length) = false:=decide_eq_false (by omega);clear c15;have H':=aM H;clear H
      try go_wp2
      replace HO_0:=aM (Kd.iu HO_0.out);replace HO_4:=aM (Kd.cu HO_4.out);replace HO_5:=aM (Kd.cu HO_5.out);replace HB:=aM (bg HB.out);have q44:(x15_1:Int) ≤ ((l0.length:Int):Int):=of_decide_eq_true ab;obtain ⟨i044,hi56,_,hsz44,_⟩:=info_parts fh;have hroom44:l0.length ≤ c0:=(Kd.fE HO_0.out).2.1;have hC44:Kd.F ak _ _ A0 l0.length l0:=(Kd.V_at (base:=w.heap.size) HO_0.out).2.2;have hcut44:=j6 (P:=Tryz.prog) 22 25 .i64 Tryz.underlying22 hi56 A0 l0.length c0 x15_1 (of_decide_eq_true ab) q44 hroom44;have hr44:=Kd.oE (m:=(x15_1:Int).toNat) hC44 (by omega);have hy44:y66.length = (x15_1:Int).toNat:=(by rw [Ny66.out,List.length_take];omega);rw [← Ny66.out] at hr44;rw [← hy44] at hcut44;have HO67:=aM (show Kd.V ak 25 _ w.heap.size _ (.slice A0 y66.length c0) y66 from Kd.V_mk (by omega) hr44);have HC67:=aM (show y66.length ≤ c0 from by omega);clear hr44 hC44 hroom44 hi56 hsz44;have KY44:=aM hy44;clear hy44;replace q44:=eq_true q44;have q45:((ji11):Int) ≤ ((l0.length:Int):Int):=of_decide_eq_true ab;obtain ⟨i045,hi57,_,hsz45,_⟩:=info_parts fh;have hroom45:l0.length ≤ c0:=(Kd.fE HO_0.out).2.1;have hC45:Kd.F ak _ _ A0 l0.length l0:=(Kd.V_at (base:=w.heap.size) HO_0.out).2.2;have q57:(0:Int) ≤ ((ji11):Int):=of_decide_eq_true ab;have hcut45:=gG (P:=Tryz.prog) 22 25 .i64 Tryz.underlying22 hi57 2 hsz45 A0 l0.length c0 (ji11) q57 q45;have hr45:=Kd.F_cut (m:=((ji11):Int).toNat) (c:=c0) hC45 (by omega) hroom45;obtain ⟨A45,hA45⟩:∃ A1,A1 = (if c0 = ((ji11):Int).toNat then A0 else (A0:Option Addr).map (·.add (((ji11):Int).toNat * 2))):=⟨_,rfl⟩;obtain ⟨c45,hc45⟩:∃ c1,c1 = c0 - ((ji11):Int).toNat:=⟨_,rfl⟩;have hy45:y71.length = l0.length - ((ji11):Int).toNat:=(by rw [Ny71.out,List.length_drop] <;> omega);rw [show (l0).drop ((ji11):Int).toNat = y71 from Ny71.out.symm] at hr45;replace hr45:Kd.F ak _ _ A45 y71.length y71:=(by rw [hA45];exact hr45);rw [← hy45,← hA45,← hc45] at hcut45;have HO72:=aM (show Kd.V ak 25 _ w.heap.size _ (.slice A45 y71.length c45) y71 from Kd.V_mk (by rw [hy45,hc45];exact Nat.sub_le_sub_right hroom45 _) hr45);have HC72:=aM (show y71.length ≤ c45 from by rw [hy45,hc45];exact Nat.sub_le_sub_right hroom45 _);clear hr45 hC45 hroom45 hi57 hsz45 hc45;have KY45:=aM hy45;have KA45:=aM hA45;clear hy45 hA45;replace q45:=eq_true q45;refine eQ (n:=11) (S:=fun w'=>True) (ds:=[]) (mA 11 0) kR rfl rfl trivial (fun hHeld=>?_);refine dx ap.tab8 ap.bits8 (fun HT_ HW_=>?_)
      generalize wr.drew = w43 at HO_0 HO_4 HO_5 HB HO67 HO72 hHeld ⊢
      refine pT 1 19 HT_.out ?_;refine pT 2 20 HT_.out ?_;refine pT 3 21 HT_.out ?_;refine pT 5 23 HT_.out ?_;refine pT 6 24 HT_.out ?_;refine pT 7 25 HT_.out ?_;refine pT 8 26 HT_.out ?_;refine oN 0 (some 18) HT_.out fun K hK=>?_
      refine Kd.gO ak _ 25 ?hg (N':=18) ?hd (xs:=([]:List (aa))) (inner:=[]) (ok:=(fun k_=>(P0_ k_ ∨ w.heap.size ≤ k_) ∧ some k_ ≠ (v60:Value).ownBlock ∧ some k_ ≠ (u5:Value).ownBlock)) (okp:=(fun k_=>(P0_ k_ ∨ w.heap.size ≤ k_) ∧ some k_ ≠ (v60:Value).ownBlock ∧ some k_ ≠ (u5:Value).ownBlock)) ?hr ?hp (fun _ hk=>hk) ((show ∀ k_,w43.heap.size ≤ k_ → (fun k_=>(P0_ k_ ∨ w.heap.size ≤ k_) ∧ some k_ ≠ (v60:Value).ownBlock ∧ some k_ ≠ (u5:Value).ownBlock) k_ from fun k_ hk=>⟨(.inr (Nat.le_trans (av bw) hk)),Kd.bA (Kd.gp (qra HO_4.out)) k_ hk,Kd.bA (Kd.gp (qra HO_5.out)) k_ hk⟩) _ (Nat.le_refl _)) (Below.refl _ _) (Nat.le_refl _) (by simp) ?_;(case hd=>rfl);(case hg=>rfl);(case hr=>first|(go_simp;done)|(go_simp;rfl));(case hp=>exact (eH.none _ _))
      intro v63 w46 ho47 hb hg_ hnew_;clear hg_ hnew_;(first|rw [← Ny62.out] at ho47|(simp only [Int.reduceToNat] at ho47;rw [← Ny62.out] at ho47))
      replace HO_0:=aM (Kd.eV (qva HO_0.out) (Kd.dY ho47) hb);replace HO_4:=aM (Kd.ba (qra HO_4.out) hb);replace HO_5:=aM (Kd.ba (qra HO_5.out) hb);replace HO67:=aM (Kd.eV (qva HO67.out) (Kd.dY ho47) hb);replace HO72:=aM (Kd.eV (qva HO72.out) (Kd.dY ho47) hb);have HO65:=aM (Kd.fp ho47 (av bw));replace HB:=aM (ag bw hb);clear hb ho47;refine hK.out _ _ trivial (fun hHeld=>?_);clear hK K;refine nM 18 ?_;refine oN 4 (some 22) HT_.out fun K hK=>?_
      refine Kd.di ak (w0:=w) w.heap.size (by rfl) (.tmp 18) (.tmp 21) 22 25 (.agg #[(.int .i64 0),(.slice none 0 0)]) 32 rfl Tryz.underlying22 fh rfl (by decide) (by omega) v63 y62 y66 _ _ _ (fun k_=>(P0_ k_ ∨ w.heap.size ≤ k_) ∧ some k_ ≠ (v60:Value).ownBlock ∧ some k_ ≠ (u5:Value).ownBlock) (fun k_=>((fun k_=>(P0_ k_ ∨ w.heap.size ≤ k_) ∧ some k_ ≠ (v60:Value).ownBlock ∧ some k_ ≠ (u5:Value).ownBlock)) k_ ∧ some k_ ≠ (v63:Value).ownBlock) rfl rfl ?aO ?aR (fun _ hk=>hk) ?aF ?aB ?aS ?aL ?_;(case aR=>exact (by skip;exact Kd.V_F (Kd.gI (ok':=(fun k_=>((fun k_=>(P0_ k_ ∨ w.heap.size ≤ k_) ∧ some k_ ≠ (v60:Value).ownBlock ∧ some k_ ≠ (u5:Value).ownBlock)) k_ ∧ some k_ ≠ (v63:Value).ownBlock)) (HO67.out) (fun k_ hk=>⟨⟨hk.1.1,⟨hk.1.2.1,hk.1.2.2⟩⟩,hk.2⟩))))
      (case aB=>exact bw)
      (case aF=>exact (fun k_ hk=>⟨(.inr (Nat.le_trans (av bw) hk)),Kd.bA (Kd.gp (qra HO_4.out)) k_ hk,Kd.bA (Kd.gp (qra HO_5.out)) k_ hk⟩))
      (case aO=>exact (qna HO65.out))
      (case aS=>exact (av bw))
      (case aL=>have:=LMc10.out;omega)
      intro v69 w48 ho hb hg hat;rw [← Ny68.out] at ho;replace HO_0:=aM (Kd.ec (ok:=(fun k_=>(P0_ k_ ∨ w.heap.size ≤ k_) ∧ some k_ ≠ (v60:Value).ownBlock ∧ some k_ ≠ (u5:Value).ownBlock)) (qva HO_0.out) hg hat);replace HO_4:=aM (Kd.eW (qra HO_4.out) (Kd.ee (qna HO65.out)) (by decide) hg);replace HO_5:=aM (Kd.eW (qra HO_5.out) (Kd.ee (qna HO65.out)) (by decide) hg);replace HO67:=aM (Kd.ec (ok:=(fun k_=>(P0_ k_ ∨ w.heap.size ≤ k_) ∧ some k_ ≠ (v60:Value).ownBlock ∧ some k_ ≠ (u5:Value).ownBlock)) (qva HO67.out) hg hat);replace HO72:=aM (Kd.ec (ok:=(fun k_=>(P0_ k_ ∨ w.heap.size ≤ k_) ∧ some k_ ≠ (v60:Value).ownBlock ∧ some k_ ≠ (u5:Value).ownBlock)) (qva HO72.out) hg hat);replace HB:=aM (hb);have HO70:=aM (ho);clear HO65;clear ho hb hg hat;refine hK.out _ _ trivial (fun hHeld=>?_);clear hK K;refine nM 22 ?_;refine oN 9 (some 27) HT_.out fun K hK=>?_
      refine Kd.di ak (w0:=w) w.heap.size (by rfl) (.tmp 22) (.tmp 26) 22 25 (.agg #[(.int .i64 0),(.slice none 0 0)]) 32 rfl Tryz.underlying22 fh rfl (by decide) (by omega) v69 y68 y71 _ _ _ (fun k_=>(P0_ k_ ∨ w.heap.size ≤ k_) ∧ some k_ ≠ (v60:Value).ownBlock ∧ some k_ ≠ (u5:Value).ownBlock) (fun k_=>((fun k_=>(P0_ k_ ∨ w.heap.size ≤ k_) ∧ some k_ ≠ (v60:Value).ownBlock ∧ some k_ ≠ (u5:Value).ownBlock)) k_ ∧ some k_ ≠ (v69:Value).ownBlock) rfl rfl ?aO ?aR (fun _ hk=>hk) ?aF ?aB ?aS ?aL ?_;(case aR=>exact (by skip;exact Kd.V_F (Kd.gI (ok':=(fun k_=>((fun k_=>(P0_ k_ ∨ w.heap.size ≤ k_) ∧ some k_ ≠ (v60:Value).ownBlock ∧ some k_ ≠ (u5:Value).ownBlock)) k_ ∧ some k_ ≠ (v69:Value).ownBlock)) (HO72.out) (fun k_ hk=>⟨⟨hk.1.1,⟨hk.1.2.1,hk.1.2.2⟩⟩,hk.2⟩))))
      (case aB=>exact bw)
      (case aF=>exact (fun k_ hk=>⟨(.inr (Nat.le_trans (av bw) hk)),Kd.bA (Kd.gp (qra HO_4.out)) k_ hk,Kd.bA (Kd.gp (qra HO_5.out)) k_ hk⟩))
      (case aO=>exact (qna HO70.out))
      (case aS=>exact (av bw))
      (case aL=>have:=LMc14.out;omega)
      intro v74 w49 ho hb hg hat;rw [← Ny73.out] at ho;replace HO_0:=aM (Kd.ec (ok:=(fun k_=>(P0_ k_ ∨ w.heap.size ≤ k_) ∧ some k_ ≠ (v60:Value).ownBlock ∧ some k_ ≠ (u5:Value).ownBlock)) (qva HO_0.out) hg hat);replace HO_4:=aM (Kd.eW (qra HO_4.out) (Kd.ee (qna HO70.out)) (by decide) hg);replace HO_5:=aM (Kd.eW (qra HO_5.out) (Kd.ee (qna HO70.out)) (by decide) hg);replace HO67:=aM (Kd.ec (ok:=(fun k_=>(P0_ k_ ∨ w.heap.size ≤ k_) ∧ some k_ ≠ (v60:Value).ownBlock ∧ some k_ ≠ (u5:Value).ownBlock)) (qva HO67.out) hg hat);replace HO72:=aM (Kd.ec (ok:=(fun k_=>(P0_ k_ ∨ w.heap.size ≤ k_) ∧ some k_ ≠ (v60:Value).ownBlock ∧ some k_ ≠ (u5:Value).ownBlock)) (qva HO72.out) hg hat);replace HB:=aM (hb);have HO75:=aM (ho);clear HO70;clear ho hb hg hat;refine hK.out _ _ trivial (fun hHeld=>?_);clear hK K;refine nM 27 ?_;refine pT 10 7 HT_.out ?_;refine fK (eA HT_.out kR) ?_;obtain ⟨Ao50,co50,eo50⟩:=Kd.ff HO75.out;subst eo50
      try go_wp2
      go_roundg k1
      case measure=>have:=HK1.out;omega
      case rel=>exact ⟨(x5_1),(ji11),(by first|rfl|(simp;done)|(simp only [← hji11] <;> (first|rfl|simp))|(simp [*];done)),H',⟨by have:=HK1.out;omega⟩,⟨by (with_reducible repeat (first|apply Kd.iB|apply Kd.iv|apply Kd.iu));exact Kd.gI HO_0.out (fun _ hk=>cj hk)⟩,⟨qra HO_4.out⟩,⟨qra HO_5.out⟩,⟨by exact bw⟩⟩
    ·rw [if_neg c7] at H;have c7b0:=decide_eq_false c7;clear c7;simp only [Option.some.injEq,Prod.mk.injEq] at H;obtain ⟨rfl,rfl⟩:=H;go_wp2
     go_ret2
     exact ⟨_,eE,by (with_reducible repeat (first|apply Kd.ca|apply Kd.b7|apply Kd.cu));exact HO_5.out,by exact bw⟩
 ·replace c3:=Bool.eq_false_iff.mpr c3;subst c3;rw [if_neg (show ¬ (false = true) by decide)] at H;simp only [Option.some.injEq,Prod.mk.injEq] at H;obtain ⟨rfl,rfl⟩:=H;go_enter Tryz.func13,Tryz.ntmps13;go_wp2_with (first|((with_reducible refine ai (f:=36) rfl ?_);refine gL 9 Tryz.func36 #[.slice A0 l0.length c0] ?_;(with_reducible refine (aW.calls k _ _ l0 false _ ?side1 ?side2 A2.out).mono ?_);(case side1=>exact qc (Kd.fE HO0.out).2.2);(case side2=>exact (Kd.fE HO0.out).2.1);rintro e w51 ⟨rfl,hb⟩;refine ⟨_,rfl,?_⟩;replace HO0:=aM (Kd.oD (qva HO0.out) hb);replace HB:=aM (ag bw hb);(try clear hb);(try clear hk)))
  go_ret2
  exact ⟨_,eE,by first|exact Kd.gx _ _ _ _ _|exact Kd.gQ _ _ _ _ _|exact Kd.gP _ _ _ _ _|exact Kd.gU _ _ _ _ _|exact Kd.gW _ _ _ _ _,by exact bw⟩


def du.f (a0_0:Int) (l0_1:List Bool) (a1:Int) (a2:Int):Option (Bool):=(dh.f a1 a2).bind fun t3=>(if t3 = true then (some false) else (if 0 ≤ a1 then (if a1 < (l0_1.length:Int) then (if dE false l0_1 a1 = true then (some false) else (if 0 ≤ a2 then (if 0 ≤ (Go.bits .or .i64 a1 (shl .i64 1 a2)) then (if (Go.bits .or .i64 a1 (shl .i64 1 a2)) < (l0_1.length:Int) then (some (dE false l0_1 (Go.bits .or .i64 a1 (shl .i64 1 a2)))) else (none)) else (none)) else (none))) else (none)) else (none)))
theorem du.calls (a0_0:Int) (A0_1:Option Addr) (c0_1:Nat) (l0_1:List Bool) (a1:Int) (a2:Int) (r:Bool) (w:World) (hr0_1:Kd.C Kd.bool w A0_1 l0_1.length l0_1) (hc0_1:l0_1.length ≤ c0_1) (h:du.f a0_0 l0_1 a1 a2 = some r) :
  Calls Tryz.prog 77 #[.agg #[.int .i64 a0_0,.slice A0_1 l0_1.length c0_1],.int .i64 a1,.int .i64 a2] w fun e w'=>e = .returned (.bool r) ∧ Below w.heap.size w w':=by
 have hu56:=Tryz.underlying56;have HR0_1:=aM hr0_1;have HC0_1:=aM hc0_1;clear hr0_1 hc0_1;have HB:=aM (Below.refl w.heap.size w);have H:((dh.f a1 a2).bind fun t19=>(if t19 = true then (some false) else (if 0 ≤ a1 then (if a1 < (l0_1.length:Int) then (if dE false l0_1 a1 = true then (some false) else (if 0 ≤ a2 then (if 0 ≤ (Go.bits .or .i64 a1 (shl .i64 1 a2)) then (if (Go.bits .or .i64 a1 (shl .i64 1 a2)) < (l0_1.length:Int) then (some (dE false l0_1 (Go.bits .or .i64 a1 (shl .i64 1 a2)))) else (none)) else (none)) else (none))) else (none)) else (none)))) = some r:=h;clear h;replace H:=oB H;obtain ⟨t19,A4,H⟩:=H;(try dsimp only at H)
 by_cases c5:t19 = true
 ·subst c5;rw [if_pos rfl] at H;obtain rfl:=Option.some.inj H;go_enter Tryz.func77,Tryz.ntmps77;go_wp2_with (first|((with_reducible refine aC (N:=3) rfl ?_);refine bE 3 #[.int .i64 a0_0,.slice A0_1 l0_1.length c0_1] 56 ?_;intro gb3 hg w6 hbox hb;have BK3:=aM (hbox);have GW3:=aM (gS hg);have GE3:=aM (gS hg);replace HB:=aM (ag bw hb);clear hb hbox hg)|(go_at_call 81;(with_reducible refine (dh.calls a1 a2 true _ A4.out).mono ?_);rintro e w' ⟨rfl,⟨nd,rfl⟩⟩;(try exact dW)))
  repeat (go_quiet (first|((with_reducible refine aC (N:=3) rfl ?_);refine bE 3 #[.int .i64 a0_0,.slice A0_1 l0_1.length c0_1] 56 ?_;intro gb3 hg w6 hbox hb;have BK3:=aM (hbox);have GW3:=aM (gS hg);have GE3:=aM (gS hg);replace HB:=aM (ag bw hb);clear hb hbox hg)|(go_at_call 81;(with_reducible refine (dh.calls a1 a2 true _ A4.out).mono ?_);rintro e w' ⟨rfl,⟨nd,rfl⟩⟩;(try exact dW)));try go_wp2_with (first|((with_reducible refine aC (N:=3) rfl ?_);refine bE 3 #[.int .i64 a0_0,.slice A0_1 l0_1.length c0_1] 56 ?_;intro gb3 hg w6 hbox hb;have BK3:=aM (hbox);have GW3:=aM (gS hg);have GE3:=aM (gS hg);replace HB:=aM (ag bw hb);clear hb hbox hg)|(go_at_call 81;(with_reducible refine (dh.calls a1 a2 true _ A4.out).mono ?_);rintro e w' ⟨rfl,⟨nd,rfl⟩⟩;(try exact dW))))
  go_ret
  exact ⟨eE,by exact bw⟩
 ·replace c5:=Bool.eq_false_iff.mpr c5;subst c5;rw [if_neg (show ¬ (false = true) by decide)] at H;replace H:=iN H;obtain ⟨c7,H⟩:=H;have c7b0:decide (0 ≤ a1) = true:=decide_eq_true c7;clear c7;replace H:=iN H;obtain ⟨c8,H⟩:=H;have c8b0:decide (a1 < (l0_1.length:Int)) = true:=decide_eq_true c8;clear c8;obtain ⟨bq9,hbq9⟩:∃ b_:Bool,b_ = (dE false l0_1 a1):=⟨_,rfl⟩;rw [← hbq9] at H;have Nbq9:=aM hbq9;clear hbq9;by_cases c10:bq9 = true
  ·subst c10;rw [if_pos rfl] at H;obtain rfl:=Option.some.inj H;go_enter Tryz.func77,Tryz.ntmps77;go_wp2_with (first|((with_reducible refine aC (N:=3) rfl ?_);refine bE 3 #[.int .i64 a0_0,.slice A0_1 l0_1.length c0_1] 56 ?_;intro gb3 hg w11 hbox hb;have BK3:=aM (hbox);have GW3:=aM (gS hg);have GE3:=aM (gS hg);replace HB:=aM (ag bw hb);clear hb hbox hg)|(go_at_call 81;(with_reducible refine (dh.calls a1 a2 false _ A4.out).mono ?_);rintro e w' ⟨rfl,⟨nd,rfl⟩⟩;(try exact dW);have hcz12_0:=cz BK3.out 0;have hcz12_1:=cz BK3.out 1;have hfz12_0:=af BK3.out 0;have hfz12_1:=af BK3.out 1;have p20:0 ≤ (a1:Int):=of_decide_eq_true ab;have q20:a1 < (l0_1.length:Int):=of_decide_eq_true ab;obtain ⟨ad20,e20,hx20_0⟩:=Kd.b8 HR0_1.out a1 p20 q20;(try rw [← Nbq9.out] at hx20_0);cases e20;replace hx20_0:=(HB.out.cell (World.block_lt_of_cell? w _ hx20_0)).trans hx20_0;replace p20:=eq_true p20;replace q20:=eq_true q20))
   repeat (go_quiet (first|((with_reducible refine aC (N:=3) rfl ?_);refine bE 3 #[.int .i64 a0_0,.slice A0_1 l0_1.length c0_1] 56 ?_;intro gb3 hg w11 hbox hb;have BK3:=aM (hbox);have GW3:=aM (gS hg);have GE3:=aM (gS hg);replace HB:=aM (ag bw hb);clear hb hbox hg)|(go_at_call 81;(with_reducible refine (dh.calls a1 a2 false _ A4.out).mono ?_);rintro e w' ⟨rfl,⟨nd,rfl⟩⟩;(try exact dW);have hcz12_0:=cz BK3.out 0;have hcz12_1:=cz BK3.out 1;have hfz12_0:=af BK3.out 0;have hfz12_1:=af BK3.out 1;have p20:0 ≤ (a1:Int):=of_decide_eq_true ab;have q20:a1 < (l0_1.length:Int):=of_decide_eq_true ab;obtain ⟨ad20,e20,hx20_0⟩:=Kd.b8 HR0_1.out a1 p20 q20;(try rw [← Nbq9.out] at hx20_0);cases e20;replace hx20_0:=(HB.out.cell (World.block_lt_of_cell? w _ hx20_0)).trans hx20_0;replace p20:=eq_true p20;replace q20:=eq_true q20));try go_wp2_with (first|((with_reducible refine aC (N:=3) rfl ?_);refine bE 3 #[.int .i64 a0_0,.slice A0_1 l0_1.length c0_1] 56 ?_;intro gb3 hg w11 hbox hb;have BK3:=aM (hbox);have GW3:=aM (gS hg);have GE3:=aM (gS hg);replace HB:=aM (ag bw hb);clear hb hbox hg)|(go_at_call 81;(with_reducible refine (dh.calls a1 a2 false _ A4.out).mono ?_);rintro e w' ⟨rfl,⟨nd,rfl⟩⟩;(try exact dW);have hcz12_0:=cz BK3.out 0;have hcz12_1:=cz BK3.out 1;have hfz12_0:=af BK3.out 0;have hfz12_1:=af BK3.out 1;have p20:0 ≤ (a1:Int):=of_decide_eq_true ab;have q20:a1 < (l0_1.length:Int):=of_decide_eq_true ab;obtain ⟨ad20,e20,hx20_0⟩:=Kd.b8 HR0_1.out a1 p20 q20;(try rw [← Nbq9.out] at hx20_0);cases e20;replace hx20_0:=(HB.out.cell (World.block_lt_of_cell? w _ hx20_0)).trans hx20_0;replace p20:=eq_true p20;replace q20:=eq_true q20)))
   go_ret
   exact ⟨eE,by exact bw⟩
  ·replace c10:=Bool.eq_false_iff.mpr c10;subst c10;rw [if_neg (show ¬ (false = true) by decide)] at H;replace H:=iN H;obtain ⟨c13,H⟩:=H;have c13b0:=eq_true c13;have c13b1:decide (0 ≤ a2) = true:=decide_eq_true c13;clear c13;obtain ⟨ji14,hji14⟩:∃ j_:Int,(shl .i64 1 a2) = j_:=⟨_,rfl⟩;(first|rw [hji14] at H|simp only [hji14] at H)
   (try rw [hji14] at A4)
   have hji14_:(IntKind.i64.wrap (1 * 2 ^ min a2.toNat 64)) = ji14:=hji14;have hji14z:a2 ≤ 64 → (IntKind.i64.wrap (1 * 2 ^ a2.toNat)) = ji14:=fM hji14;have hji14u:(IntKind.i64.wrap (2 ^ min a2.toNat 64)) = ji14:=by have h_:=hji14_;rw [Int.one_mul] at h_;exact h_
   have hji14v:a2 ≤ 64 → (IntKind.i64.wrap (2 ^ a2.toNat)) = ji14:=fun hle_=>by have h_:=hji14z hle_;rw [Int.one_mul] at h_;exact h_
   have hji14y:(wrap64 (1 * 2 ^ min a2.toNat 64)) = ji14:=(cS _).symm.trans hji14_;have hji14x:a2 ≤ 64 → (wrap64 (1 * 2 ^ a2.toNat)) = ji14:=fun h_=>(cS _).symm.trans (hji14z h_)
   replace H:=iN H;obtain ⟨c15,H⟩:=H;have c15b0:decide (0 ≤ (Go.bits .or .i64 a1 (ji14))) = true:=decide_eq_true c15;clear c15;replace H:=iN H;obtain ⟨c16,H⟩:=H;have c16b0:decide ((Go.bits .or .i64 a1 (ji14)) < (l0_1.length:Int)) = true:=decide_eq_true c16;clear c16;obtain rfl:=Option.some.inj H;go_enter Tryz.func77,Tryz.ntmps77;go_wp2_with (first|((with_reducible refine aC (N:=3) rfl ?_);refine bE 3 #[.int .i64 a0_0,.slice A0_1 l0_1.length c0_1] 56 ?_;intro gb3 hg w17 hbox hb;have BK3:=aM (hbox);have GW3:=aM (gS hg);have GE3:=aM (gS hg);replace HB:=aM (ag bw hb);clear hb hbox hg)|(go_at_call 81;(with_reducible refine (dh.calls a1 a2 false _ A4.out).mono ?_);rintro e w' ⟨rfl,⟨nd,rfl⟩⟩;(try exact dW);have hcz18_0:=cz BK3.out 0;have hcz18_1:=cz BK3.out 1;have hfz18_0:=af BK3.out 0;have hfz18_1:=af BK3.out 1;have p20:0 ≤ (a1:Int):=of_decide_eq_true ab;have q20:a1 < (l0_1.length:Int):=of_decide_eq_true ab;obtain ⟨ad20,e20,hx20_0⟩:=Kd.b8 HR0_1.out a1 p20 q20;(try rw [← Nbq9.out] at hx20_0);cases e20;replace hx20_0:=(HB.out.cell (World.block_lt_of_cell? w _ hx20_0)).trans hx20_0;replace p20:=eq_true p20;replace q20:=eq_true q20;have p21:0 ≤ ((Go.bits .or .i64 a1 (ji14)):Int):=of_decide_eq_true ab;have q21:(Go.bits .or .i64 a1 (ji14)) < (l0_1.length:Int):=of_decide_eq_true ab;obtain ⟨ad21,e21,hx21_0⟩:=Kd.b8 HR0_1.out (Go.bits .or .i64 a1 (ji14)) p21 q21;(try rw [← Nbq9.out] at hx21_0);obtain rfl:ad20 = ad21:=(by injection e21);replace hx21_0:=(HB.out.cell (World.block_lt_of_cell? w _ hx21_0)).trans hx21_0;replace p21:=eq_true p21;replace q21:=eq_true q21))
   repeat (go_quiet (first|((with_reducible refine aC (N:=3) rfl ?_);refine bE 3 #[.int .i64 a0_0,.slice A0_1 l0_1.length c0_1] 56 ?_;intro gb3 hg w17 hbox hb;have BK3:=aM (hbox);have GW3:=aM (gS hg);have GE3:=aM (gS hg);replace HB:=aM (ag bw hb);clear hb hbox hg)|(go_at_call 81;(with_reducible refine (dh.calls a1 a2 false _ A4.out).mono ?_);rintro e w' ⟨rfl,⟨nd,rfl⟩⟩;(try exact dW);have hcz18_0:=cz BK3.out 0;have hcz18_1:=cz BK3.out 1;have hfz18_0:=af BK3.out 0;have hfz18_1:=af BK3.out 1;have p20:0 ≤ (a1:Int):=of_decide_eq_true ab;have q20:a1 < (l0_1.length:Int):=of_decide_eq_true ab;obtain ⟨ad20,e20,hx20_0⟩:=Kd.b8 HR0_1.out a1 p20 q20;(try rw [← Nbq9.out] at hx20_0);cases e20;replace hx20_0:=(HB.out.cell (World.block_lt_of_cell? w _ hx20_0)).trans hx20_0;replace p20:=eq_true p20;replace q20:=eq_true q20;have p21:0 ≤ ((Go.bits .or .i64 a1 (ji14)):Int):=of_decide_eq_true ab;have q21:(Go.bits .or .i64 a1 (ji14)) < (l0_1.length:Int):=of_decide_eq_true ab;obtain ⟨ad21,e21,hx21_0⟩:=Kd.b8 HR0_1.out (Go.bits .or .i64 a1 (ji14)) p21 q21;(try rw [← Nbq9.out] at hx21_0);obtain rfl:ad20 = ad21:=(by injection e21);replace hx21_0:=(HB.out.cell (World.block_lt_of_cell? w _ hx21_0)).trans hx21_0;replace p21:=eq_true p21;replace q21:=eq_true q21));try go_wp2_with (first|((with_reducible refine aC (N:=3) rfl ?_);refine bE 3 #[.int .i64 a0_0,.slice A0_1 l0_1.length c0_1] 56 ?_;intro gb3 hg w17 hbox hb;have BK3:=aM (hbox);have GW3:=aM (gS hg);have GE3:=aM (gS hg);replace HB:=aM (ag bw hb);clear hb hbox hg)|(go_at_call 81;(with_reducible refine (dh.calls a1 a2 false _ A4.out).mono ?_);rintro e w' ⟨rfl,⟨nd,rfl⟩⟩;(try exact dW);have hcz18_0:=cz BK3.out 0;have hcz18_1:=cz BK3.out 1;have hfz18_0:=af BK3.out 0;have hfz18_1:=af BK3.out 1;have p20:0 ≤ (a1:Int):=of_decide_eq_true ab;have q20:a1 < (l0_1.length:Int):=of_decide_eq_true ab;obtain ⟨ad20,e20,hx20_0⟩:=Kd.b8 HR0_1.out a1 p20 q20;(try rw [← Nbq9.out] at hx20_0);cases e20;replace hx20_0:=(HB.out.cell (World.block_lt_of_cell? w _ hx20_0)).trans hx20_0;replace p20:=eq_true p20;replace q20:=eq_true q20;have p21:0 ≤ ((Go.bits .or .i64 a1 (ji14)):Int):=of_decide_eq_true ab;have q21:(Go.bits .or .i64 a1 (ji14)) < (l0_1.length:Int):=of_decide_eq_true ab;obtain ⟨ad21,e21,hx21_0⟩:=Kd.b8 HR0_1.out (Go.bits .or .i64 a1 (ji14)) p21 q21;(try rw [← Nbq9.out] at hx21_0);obtain rfl:ad20 = ad21:=(by injection e21);replace hx21_0:=(HB.out.cell (World.block_lt_of_cell? w _ hx21_0)).trans hx21_0;replace p21:=eq_true p21;replace q21:=eq_true q21)))
   go_ret
   exact ⟨by first|rfl|(simp [cV,cX] <;> rfl)|(simp only [← hji14];first|rfl|(simp [cV,cX] <;> rfl))|(simp [*,cV,cX] <;> rfl),by exact bw⟩


mutual
def a7.l0:Nat → List Int → Int → Int → Int → List Bool → Option (List Int)
 | 0,_,_,_,_,_=>none
 | k + 1,x3,x10,x11,x5,x6=>if x11 < x10 then (a7.l1 k x3 x11 x10 x11 (x6.length:Int) 0 x5 x6) else (some x3)
def a7.l1:Nat → List Int → Int → Int → Int → Int → Int → Int → List Bool → Option (List Int)
 | 0,_,_,_,_,_,_,_,_=>none
 | k + 1,x3,x4,x10,x11,x16,x17,x5,x6=>if x17 < x16 then ((du.f x5 x6 x17 x4).bind fun t2=>(if t2 = true then (if 0 ≤ x4 then (if x4 < (x3.length:Int) then (a7.l1 k (x3.set (x4:Int).toNat (wrap64 ((rd x3 x4) + 1))) x4 x10 x11 x16 (wrap64 (x17 + 1)) x5 x6) else (none)) else (none)) else (a7.l1 k x3 x4 x10 x11 x16 (wrap64 (x17 + 1)) x5 x6))) else (a7.l0 k x3 x10 (wrap64 (x11 + 1)) x5 x6)
end
def a7.f (k:Nat) (a0_0:Int) (l0_1:List Bool):Option (List Int):=if 0 ≤ a0_0 then (if (a0_0:Int).toNat ≤ 35184372088832 then ((some (List.replicate (a0_0:Int).toNat 0:List Int)).bind fun y2=>(a7.l0 k y2 (y2.length:Int) 0 a0_0 l0_1)) else (none)) else (none)
theorem a7.calls (k:Nat) (a0_0:Int) (A0_1:Option Addr) (c0_1:Nat) (l0_1:List Bool) (r:List Int) (w:World) (hr0_1:Kd.C Kd.bool w A0_1 l0_1.length l0_1) (hc0_1:l0_1.length ≤ c0_1) (h:a7.f k a0_0 l0_1 = some r) :
  Calls Tryz.prog 44 #[.agg #[.int .i64 a0_0,.slice A0_1 l0_1.length c0_1]] w fun e w'=>∃ v0_:Value,e = .returned (v0_) ∧ Kd.R (Kd.int .i64) 3 w' w.heap.size (fun _=>True) v0_ r ∧ Below w.heap.size w w':=by
 have hu56:=Tryz.underlying56;have HR0_1:=aM hr0_1;have HC0_1:=aM hc0_1;clear hr0_1 hc0_1;have HB:=aM (Below.refl w.heap.size w);have H:(if 0 ≤ a0_0 then (if (a0_0:Int).toNat ≤ 35184372088832 then ((some (List.replicate (a0_0:Int).toNat 0:List Int)).bind fun y25=>(a7.l0 k y25 (y25.length:Int) 0 a0_0 l0_1)) else (none)) else (none)) = some r:=h;clear h;replace H:=iN H;obtain ⟨c2,H⟩:=H;have c2b0:=eq_true c2;have c2b1:decide (0 ≤ a0_0) = true:=decide_eq_true c2;clear c2;replace H:=iN H;obtain ⟨c3,H⟩:=H;have c3b0:=eq_true c3;have c3b1:decide ((a0_0:Int).toNat ≤ 35184372088832) = true:=decide_eq_true c3;clear c3;obtain ⟨y25,hy25⟩:∃ y_:List Int,y_ = (List.replicate (a0_0:Int).toNat 0):=⟨_,rfl⟩;replace H:(a7.l0 k y25 (y25.length:Int) 0 a0_0 l0_1) = some r:=yR hy25 H;have Ny25:=aM hy25;clear hy25;have H':=aM H;clear H;go_enter Tryz.func44,Tryz.ntmps44;go_wp2_with (first|((with_reducible refine aC (N:=1) rfl ?_);refine bE 1 #[.int .i64 a0_0,.slice A0_1 l0_1.length c0_1] 56 ?_;intro gb24 hg w4 hbox hb;have BK24:=aM (hbox);have GW24:=aM (gS hg);have GE24:=aM (gS hg);replace HB:=aM (ag bw hb);clear hb hbox hg;have hcz5_0:=cz BK24.out 0;have hcz5_1:=cz BK24.out 1;have hfz5_0:=af BK24.out 0;have hfz5_1:=af BK24.out 1)|((with_reducible refine aC (N:=8) rfl ?_);refine Kd.R_make (Kd.int .i64) _ 3 rfl (N:=8) rfl 23 _ _ rfl a0_0 rfl rfl Tryz.underlying23 (.int .i64 0) 8 kQ rfl (by decide) (by omega) 0 (ok:=fun _=>True) (okp:=fun _=>True) rfl (fun _ hk=>hk) trivial (of_decide_eq_true ab) (Nat.le_trans (Nat.mul_le_mul_right _ (of_decide_eq_true ab:a0_0.toNat ≤ 35184372088832)) (by omega)) (Below.refl _ _) (Nat.le_refl _) ?_;intro v26 w6 ho7 hb hg_ hnew_;clear hg_ hnew_;(first|rw [← Ny25.out] at ho7|(simp only [Int.reduceToNat] at ho7;rw [← Ny25.out] at ho7));have HO27:=aM (Kd.cr ho7 (av bw));replace BK24:=aM (bB BK24.out hb);replace HB:=aM (ag bw hb);clear hb ho7;obtain ⟨Ao8,co8,eo8⟩:=Kd.b5 HO27.out;subst eo8))
 go_loopg [11] k (fun kq v11 w'=>∃ (x3_1:List Int) (x11_1:Int),v11 = .int .i64 x11_1 ∧ aj (a7.l0 kq x3_1 (y25.length:Int) x11_1 a0_0 l0_1 = some r) ∧ aj (kq ≤ k) ∧ aj (Kd.R (Kd.int .i64) 3 w' w.heap.size (fun _=>True) (.slice Ao8 y25.length co8) x3_1) ∧ aj (w'.heap[gb24]? = some (.cells #[.int .i64 a0_0,(.slice A0_1 l0_1.length c0_1)] 56 (0,0))) ∧ aj (Below w.heap.size w w'))
 case atStart=>exact ⟨(y25),(0),qrs,H',⟨Nat.le_refl _⟩,⟨qra HO27.out⟩,⟨bk1 BK24.out⟩,⟨by exact bw⟩⟩
 case round =>
  clear H';(try clear c2);(try clear c2b0);(try clear c2b1);(try clear c3);(try clear c3b0);(try clear c3b1);(try clear hcz5_0);(try clear hcz5_1);(try clear hfz5_0);(try clear hfz5_1)
  obtain ⟨x3_1,x11_1,rfl,HA,HK1,HO_3,BK24,HB⟩:=hrel;have hl3_1:=(Kd.aI HO_3.out).1;rw [hl3_1] at HO_3;(try simp only [hl3_1])
  (try simp only [hl3_1] at BK24)
  cases gk with
  | zero=>exact absurd HA.out (by simp [a7.l0])
  | succ k1 =>
   have H:=HA.out;clear HA;simp only [a7.l0] at H;by_cases c9:x11_1 < (y25.length:Int)
   ·rw [if_pos c9] at H;have c9b0:=decide_eq_true c9;(try simp only [hl3_1] at c9b0)
    clear c9;have H':=aM H;clear H;have hcz10_0:=cz BK24.out 0;have hcz10_1:=cz BK24.out 1;have hfz10_0:=af BK24.out 0;have hfz10_1:=af BK24.out 1;go_wp2
    go_loopg [17] k1 (fun kq v17 w'=>∃ (x3_2:List Int) (x17_2:Int),v17 = .int .i64 x17_2 ∧ aj (a7.l1 kq x3_2 x11_1 (y25.length:Int) x11_1 (l0_1.length:Int) x17_2 a0_0 l0_1 = some r) ∧ aj (kq ≤ k1) ∧ aj (Kd.R (Kd.int .i64) 3 w' w.heap.size (fun _=>True) (.slice Ao8 x3_1.length co8) x3_2) ∧ aj (w'.heap[gb24]? = some (.cells #[.int .i64 a0_0,(.slice A0_1 l0_1.length c0_1)] 56 (0,0))) ∧ aj (Below w.heap.size w w'))
    case atStart=>exact ⟨(x3_1),(0),qrs,H',⟨Nat.le_refl _⟩,⟨by (try simp only [hl3_1]);(with_reducible repeat (first|apply Kd.ca|apply Kd.b7|apply Kd.cu));exact HO_3.out⟩,⟨by (try simp only [hl3_1]);(with_reducible repeat (first|refine ax ?_ _|refine an ?_|refine au ?_ _));exact BK24.out⟩,⟨by exact bw⟩⟩
    case round =>
     clear H';(try clear c9);(try clear c9b0);(try clear hcz10_0);(try clear hcz10_1);(try clear hfz10_0);(try clear hfz10_1)
     obtain ⟨x3_2,x17_2,rfl,HA,HK2,HO_3,BK24,HB⟩:=hrel;have hl3_2:=(Kd.aI HO_3.out).1;rw [hl3_2] at HO_3;(try simp only [hl3_2])
     (try simp only [hl3_2] at BK24)
     cases gk with
     | zero=>exact absurd HA.out (by simp [a7.l1])
     | succ k2 =>
      have H:=HA.out;clear HA;simp only [a7.l1] at H;by_cases c11:x17_2 < (l0_1.length:Int)
      ·rw [if_pos c11] at H;have c11b0:=decide_eq_true c11;(try simp only [hl3_1,hl3_2] at c11b0)
       clear c11;replace H:=oB H;obtain ⟨t28,A12,H⟩:=H;(try dsimp only at H)
       by_cases c13:t28 = true
       ·subst c13;rw [if_pos rfl] at H;replace H:=iN H;obtain ⟨c14,H⟩:=H;have c14b0:decide (0 ≤ x11_1) = true:=decide_eq_true c14;clear c14;replace H:=iN H;obtain ⟨c15,H⟩:=H;have c15b0:decide (x11_1 < (x3_2.length:Int)) = true:=decide_eq_true c15;(try simp only [hl3_1,hl3_2] at c15b0)
        clear c15;obtain ⟨y30,hy30⟩:∃ y_:List Int,y_ = (x3_2.set (x11_1:Int).toNat (wrap64 ((rd x3_2 x11_1) + 1))):=⟨_,rfl⟩;replace H:(a7.l1 k2 y30 x11_1 (y25.length:Int) x11_1 (l0_1.length:Int) (wrap64 (x17_2 + 1)) a0_0 l0_1) = some r:=yR hy30 H;have Ny30:=aM hy30;clear hy30;have H':=aM H;clear H;have hcz17_0:=cz BK24.out 0;have hcz17_1:=cz BK24.out 1;have hfz17_0:=af BK24.out 0;have hfz17_1:=af BK24.out 1;go_wp2_with (first|((with_reducible refine ai (f:=77) rfl ?_);refine gL 23 Tryz.func77 #[.agg #[.int .i64 a0_0,.slice A0_1 l0_1.length c0_1],.int .i64 x17_2,.int .i64 x11_1] ?_;(with_reducible refine (du.calls a0_0 _ _ l0_1 x17_2 x11_1 true _ ?side1 ?side2 A12.out).mono ?_);(case side1=>exact qcs HR0_1.out HB.out);(case side2=>exact HC0_1.out);rintro e w18 ⟨rfl,hb⟩;refine ⟨_,rfl,?_⟩;replace HO_3:=aM (Kd.ba (qra HO_3.out) hb);replace BK24:=aM (bB BK24.out hb);replace HB:=aM (ag bw hb);(try clear hb);(try clear hk);have p29:0 ≤ (x11_1:Int):=of_decide_eq_true ab;have q29:x11_1 < (x3_2.length:Int):=of_decide_eq_true ab;obtain ⟨ad29,e29,hx29_0⟩:=Kd.dI (Kd.aI HO_3.out).2.2 x11_1 p29 q29;cases e29;replace p29:=eq_true p29;replace q29:=eq_true q29;have p16:0 ≤ (x11_1:Int):=of_decide_eq_true ab;have q16:(x11_1:Int) < ((x3_2.length:Int):Int):=of_decide_eq_true ab;obtain ⟨go16,co16,eo16,gb16,gl16,cl16,HG16⟩:=Kd.jF HO_3.out (by omega);(first|cases eo16|(injection eo16 with ea_ en_ ec_;(first|subst ea_|(injection ea_ with ea_;subst ea_));subst ec_;clear en_));have GB16:=aM gb16;have GG16:=aM HG16;clear gb16 gl16 HG16;(first|simp only [add_plain] at hx29_0|skip);obtain ⟨hx16_0,hf16_0⟩:=Kd.gK 0 HO_3.out (x11_1:Int) p16 q16;replace p16:=eq_true p16;replace q16:=eq_true q16;obtain ⟨hy19_,hz19_⟩:=Kd.gK 0 HO_3.out (x11_1:Int) (of_decide_eq_true ab) (of_decide_eq_true ab);have HP19:=Kd.j3 HO_3.out (x11_1:Int) (wrap64 ((rd x3_2 x11_1) + 1)))|((with_reducible refine fG (t:=3) (p:=29) rfl ?_);refine fl (t:=3) (p:=29) (v:=?vo_w20) (w1:=(w18.setCell ⟨go16,(x11_1:Int).toNat,none⟩ (.int .i64 (wrap64 ((rd x3_2 x11_1) + 1))))) ?hg ?ho ?hn ?hr ?_;(case ho=>rfl);(case hg=>rfl);(case hn=>rfl);(case hr=>first|(go_simp;done)|(go_simp;rfl));intro w20 hw;have hg:w18.grownBy w20 (some go16):=(by rw [hw];exact HP19.2);have hp_:Kd.R (Kd.int .i64) 3 w20 w.heap.size (fun _=>True) (.slice (some ⟨go16,0,none⟩) x3_2.length co8) y30:=(by rw [hw,Ny30.out];exact HP19.1);clear HP19;replace BK24:=aM (bH BK24.out hg (Kd.lY HO_3.out BK24.out (by decide)));replace HO_3:=aM (hp_);replace HB:=aM ((by rw [hw];exact cY (HB.out) GB16.out:Below w.heap.size w w20));clear hg hw hp_))
        (try simp only [← hl3_2])
        go_roundg k2
        case measure=>have:=HK1.out;have:=HK2.out;omega
        case rel=>exact ⟨(y30),(wrap64 (x17_2 + 1)),qrs,H',⟨by have:=HK1.out;have:=HK2.out;omega⟩,⟨by (try simp only [hl3_1]);(try simp only [hl3_2]);(with_reducible repeat (first|apply Kd.ca|apply Kd.b7|apply Kd.cu));exact HO_3.out⟩,⟨by (try simp only [hl3_1]);(try simp only [hl3_2]);(with_reducible repeat (first|refine ax ?_ _|refine an ?_|refine au ?_ _));exact BK24.out⟩,⟨by exact bw⟩⟩
       ·replace c13:=Bool.eq_false_iff.mpr c13;subst c13;rw [if_neg (show ¬ (false = true) by decide)] at H;have H':=aM H;clear H;have hcz21_0:=cz BK24.out 0;have hcz21_1:=cz BK24.out 1;have hfz21_0:=af BK24.out 0;have hfz21_1:=af BK24.out 1;go_wp2_with (first|((with_reducible refine ai (f:=77) rfl ?_);refine gL 23 Tryz.func77 #[.agg #[.int .i64 a0_0,.slice A0_1 l0_1.length c0_1],.int .i64 x17_2,.int .i64 x11_1] ?_;(with_reducible refine (du.calls a0_0 _ _ l0_1 x17_2 x11_1 false _ ?side1 ?side2 A12.out).mono ?_);(case side1=>exact qcs HR0_1.out HB.out);(case side2=>exact HC0_1.out);rintro e w22 ⟨rfl,hb⟩;refine ⟨_,rfl,?_⟩;replace HO_3:=aM (Kd.ba (qra HO_3.out) hb);replace BK24:=aM (bB BK24.out hb);replace HB:=aM (ag bw hb);(try clear hb)))
        (try simp only [← hl3_2])
        go_roundg k2
        case measure=>have:=HK1.out;have:=HK2.out;omega
        case rel=>exact ⟨(x3_2),(wrap64 (x17_2 + 1)),qrs,H',⟨by have:=HK1.out;have:=HK2.out;omega⟩,⟨by (try simp only [hl3_1]);(try simp only [hl3_2]);(with_reducible repeat (first|apply Kd.ca|apply Kd.b7|apply Kd.cu));exact HO_3.out⟩,⟨by (try simp only [hl3_1]);(try simp only [hl3_2]);(with_reducible repeat (first|refine ax ?_ _|refine an ?_|refine au ?_ _));exact BK24.out⟩,⟨by exact bw⟩⟩
      ·rw [if_neg c11] at H;have c11b0:=decide_eq_false c11;(try simp only [hl3_1,hl3_2] at c11b0)
       clear c11;have H':=aM H;clear H;go_wp2
       (try simp only [← hl3_1,← hl3_2])
       go_roundg k2
       case measure=>have:=HK1.out;have:=HK2.out;omega
       case rel=>exact ⟨(x3_2),(wrap64 (x11_1 + 1)),qrs,H',⟨by have:=HK1.out;have:=HK2.out;omega⟩,⟨by (try simp only [hl3_1]);(try simp only [hl3_2]);(with_reducible repeat (first|apply Kd.ca|apply Kd.b7|apply Kd.cu));exact HO_3.out⟩,⟨by (try simp only [hl3_1]);(try simp only [hl3_2]);(with_reducible repeat (first|refine ax ?_ _|refine an ?_|refine au ?_ _));exact BK24.out⟩,⟨by exact bw⟩⟩
   ·rw [if_neg c9] at H;have c9b0:=decide_eq_false c9;(try simp only [hl3_1] at c9b0)
    clear c9;obtain rfl:=Option.some.inj H;go_wp2
    go_ret
    exact ⟨_,eE,by (with_reducible repeat (first|apply Kd.ca|apply Kd.b7|apply Kd.cu));exact HO_3.out,by exact bw⟩


def cW.f (k:Nat) (l0:List (aa)):Option (List Int × Bool):=(aQ.f k l0).bind fun t1=>(if t1 = true then ((aJ.f k l0 false).bind fun bt2=>((a7.f k bt2.1 bt2.2).bind fun t3=>(some (t3,true)))) else (some (([]:List Int),false)))
theorem cW.calls (k:Nat) (A0:Option Addr) (c0:Nat) (l0:List (aa)) (r1:List Int) (r2:Bool) (w:World) (hr0:Kd.C ak w A0 l0.length l0) (hc0:l0.length ≤ c0) (h:cW.f k l0 = some (r1,r2)) :
  Calls Tryz.prog 14 #[.slice A0 l0.length c0] w fun e w'=>∃ v0_:Value,e = .returned (.tuple #[v0_,.bool r2]) ∧ Kd.R (Kd.int .i64) 3 w' w.heap.size (fun _=>True) v0_ r1 ∧ Below w.heap.size w w':=by
 have HR0:=aM hr0;have HC0:=aM hc0;clear hr0 hc0;have HB:=aM (Below.refl w.heap.size w);have H:((aQ.f k l0).bind fun t11=>(if t11 = true then ((aJ.f k l0 false).bind fun bt12=>((a7.f k bt12.1 bt12.2).bind fun t17=>(some (t17,true)))) else (some (([]:List Int),false)))) = some (r1,r2):=h;clear h;replace H:=oB H;obtain ⟨t11,A2,H⟩:=H;(try dsimp only at H)
 by_cases c3:t11 = true
 ·subst c3;rw [if_pos rfl] at H;replace H:=oB H;obtain ⟨⟨t12,t13⟩,A4,H⟩:=H;(try dsimp only at H)
  replace H:=oB H;obtain ⟨t17,A5,H⟩:=H;(try dsimp only at H)
  simp only [Option.some.injEq,Prod.mk.injEq] at H;obtain ⟨rfl,rfl⟩:=H;go_enter Tryz.func14,Tryz.ntmps14;go_wp2_with (first|((with_reducible refine ai (f:=18) rfl ?_);refine gL 5 Tryz.func18 #[.slice A0 l0.length c0] ?_;(with_reducible refine (aQ.calls k _ _ l0 true _ ?side1 ?side2 A2.out).mono ?_);(case side1=>exact qc HR0.out);(case side2=>exact HC0.out);rintro e w6 ⟨rfl,hb⟩;refine ⟨_,rfl,?_⟩;replace HB:=aM (ag bw hb);(try clear hb))|((with_reducible refine ai (f:=34) rfl ?_);refine gL 8 Tryz.func34 #[.slice A0 l0.length c0,.bool false] ?_;(with_reducible refine (aJ.calls k _ _ l0 false t12 t13 _ ?side1 ?side2 A4.out).mono ?_);(case side1=>exact qcs HR0.out HB.out);(case side2=>exact HC0.out);rintro e w7 ⟨v15,rfl,ho0,hb⟩;refine ⟨_,rfl,?_⟩;have HO16:=aM (Kd.cr ho0 (av bw));replace HB:=aM (ag bw hb);(try clear hb);(try clear ho0);obtain ⟨Ao8,co8,eo8⟩:=Kd.b5 HO16.out;subst eo8)|((with_reducible refine ai (f:=44) rfl ?_);refine gL 9 Tryz.func44 #[.agg #[.int .i64 t12,.slice Ao8 t13.length co8]] ?_;(with_reducible refine (a7.calls k t12 _ _ t13 t17 _ ?side1 ?side2 A5.out).mono ?_);(case side1=>exact qc (Kd.aI HO16.out).2.2);(case side2=>exact (Kd.aI HO16.out).2.1);rintro e w9 ⟨v19,rfl,ho0,hb⟩;refine ⟨_,rfl,?_⟩;replace HO16:=aM (Kd.ba (qra HO16.out) hb);have HO20:=aM (Kd.cr ho0 (av bw));replace HB:=aM (ag bw hb);(try clear hb);(try clear ho0)))
  go_ret2
  exact ⟨_,eE,by (with_reducible repeat (first|apply Kd.ca|apply Kd.b7|apply Kd.cu));exact HO20.out,by exact bw⟩
 ·replace c3:=Bool.eq_false_iff.mpr c3;subst c3;rw [if_neg (show ¬ (false = true) by decide)] at H;simp only [Option.some.injEq,Prod.mk.injEq] at H;obtain ⟨rfl,rfl⟩:=H;go_enter Tryz.func14,Tryz.ntmps14;go_wp2_with (first|((with_reducible refine ai (f:=18) rfl ?_);refine gL 5 Tryz.func18 #[.slice A0 l0.length c0] ?_;(with_reducible refine (aQ.calls k _ _ l0 false _ ?side1 ?side2 A2.out).mono ?_);(case side1=>exact qc HR0.out);(case side2=>exact HC0.out);rintro e w10 ⟨rfl,hb⟩;refine ⟨_,rfl,?_⟩;replace HB:=aM (ag bw hb);(try clear hb)))
  go_ret2
  exact ⟨_,eE,by first|exact Kd.gx _ _ _ _ _|exact Kd.gQ _ _ _ _ _|exact Kd.gP _ _ _ _ _|exact Kd.gU _ _ _ _ _|exact Kd.gW _ _ _ _ _,by exact bw⟩


def ck.l0:Nat → List Bool → Int → List Int → List Bool → Int → Int → Option (List Int)
 | 0,_,_,_,_,_,_=>none
 | k + 1,x0,x1,x5,x8,x9,x10=>if x10 < x9 then (if 0 ≤ x10 then (if x10 < (x8.length:Int) then (if 0 ≤ x1 then (if (Int.tmod (shr .i64 x10 x1) 2) = 0 then (if dE false x8 x10 = true then (ck.l0 k x0 x1 x5 x8 x9 (wrap64 (x10 + 1))) else (if 0 ≤ (wrap64 (x10 + (shl .i64 1 x1))) then (if (wrap64 (x10 + (shl .i64 1 x1))) < (x0.length:Int) then (if dE false x0 (wrap64 (x10 + (shl .i64 1 x1))) = true then (if x5.length < 17592186044416 then (ck.l0 k x0 x1 (x5 ++ [x10]) x8 x9 (wrap64 (x10 + 1))) else (none)) else (ck.l0 k x0 x1 x5 x8 x9 (wrap64 (x10 + 1)))) else (none)) else (none))) else (ck.l0 k x0 x1 x5 x8 x9 (wrap64 (x10 + 1)))) else (none)) else (none)) else (none)) else (some x5)
def ck.f (k:Nat) (l0:List Bool) (a1:Int):Option (List Int):=ck.l0 k l0 a1 ([]:List Int) l0 (l0.length:Int) 0
theorem ck.calls (k:Nat) (A0:Option Addr) (c0:Nat) (l0:List Bool) (a1:Int) (r:List Int) (w:World) (hr0:Kd.C Kd.bool w A0 l0.length l0) (hc0:l0.length ≤ c0) (h:ck.f k l0 a1 = some r) :
  Calls Tryz.prog 78 #[.slice A0 l0.length c0,.int .i64 a1] w fun e w'=>∃ v0_:Value,e = .returned (v0_) ∧ Kd.R (Kd.int .i64) 3 w' w.heap.size (fun _=>True) v0_ r ∧ Below w.heap.size w w':=by
 have HR0:=aM hr0;have HC0:=aM hc0;clear hr0 hc0;have HB:=aM (Below.refl w.heap.size w);have H:(ck.l0 k l0 a1 ([]:List Int) l0 (l0.length:Int) 0) = some r:=h;clear h;have H':=aM H;clear H;go_enter Tryz.func78,Tryz.ntmps78;go_wp2
 go_loopg [5,10] k (fun kq v5 v10 w'=>∃ (x5_1:List Int) (x10_1:Int),v10 = .int .i64 x10_1 ∧ aj (ck.l0 kq l0 a1 x5_1 l0 (l0.length:Int) x10_1 = some r) ∧ aj (kq ≤ k) ∧ aj (Kd.R (Kd.int .i64) 3 w' w.heap.size (fun _=>True) v5 x5_1) ∧ aj (Below w.heap.size w w'))
 case atStart=>exact ⟨(([]:List Int)),(0),qrs,H',⟨Nat.le_refl _⟩,⟨by first|exact Kd.gx _ _ _ _ _|exact Kd.gQ _ _ _ _ _|exact Kd.gP _ _ _ _ _|exact Kd.gU _ _ _ _ _|exact Kd.gW _ _ _ _ _⟩,⟨by exact bw⟩⟩
 case round =>
  clear H'
  try clear p2
  obtain ⟨x5_1,x10_1,rfl,HA,HK1,HO_5,HB⟩:=hrel
  cases gk with
  | zero=>exact absurd HA.out (by simp [ck.l0])
  | succ k1 =>
   have H:=HA.out;clear HA;simp only [ck.l0] at H;by_cases c3:x10_1 < (l0.length:Int)
   ·rw [if_pos c3] at H;have c3b0:=decide_eq_true c3;clear c3;replace H:=iN H;obtain ⟨c4,H⟩:=H;have c4b0:decide (0 ≤ x10_1) = true:=decide_eq_true c4;clear c4;replace H:=iN H;obtain ⟨c5,H⟩:=H;have c5b0:decide (x10_1 < (l0.length:Int)) = true:=decide_eq_true c5;clear c5;replace H:=iN H;obtain ⟨c6,H⟩:=H;have c6b0:=eq_true c6;have c6b1:decide (0 ≤ a1) = true:=decide_eq_true c6;clear c6;obtain ⟨ji7,hji7⟩:∃ j_:Int,(shr .i64 x10_1 a1) = j_:=⟨_,rfl⟩;(first|rw [hji7] at H|simp only [hji7] at H)
    have hji7_:(x10_1 / 2 ^ min a1.toNat 64) = ji7:=hji7;have hji7z:a1 ≤ 64 → (x10_1 / 2 ^ a1.toNat) = ji7:=ir hji7;by_cases c8:(Int.tmod (ji7) 2) = 0
    ·rw [if_pos c8] at H;have c8b0:((Int.tmod (ji7) 2) == 0) = true:=beq_iff_eq.mpr c8;have c8b1:((Int.tmod (ji7) 2) != 0) = false:=bne_eq_false_iff_eq.mpr c8;clear c8;obtain ⟨bq9,hbq9⟩:∃ b_:Bool,b_ = (dE false l0 x10_1):=⟨_,rfl⟩;rw [← hbq9] at H;have Nbq9:=aM hbq9;clear hbq9;by_cases c10:bq9 = true
     ·subst c10;rw [if_pos rfl] at H;have H':=aM H;clear H;have p20:0 ≤ (x10_1:Int):=of_decide_eq_true ab;have q20:x10_1 < (l0.length:Int):=of_decide_eq_true ab;obtain ⟨ad20,e20,hx20_0⟩:=Kd.b8 HR0.out x10_1 p20 q20;(try rw [← Nbq9.out] at hx20_0)
      cases e20
      replace hx20_0:=(HB.out.cell (World.block_lt_of_cell? w _ hx20_0)).trans hx20_0;replace p20:=eq_true p20;replace q20:=eq_true q20;go_wp2
      go_roundg k1
      case measure=>have:=HK1.out;omega
      case rel=>exact ⟨(x5_1),(wrap64 (x10_1 + 1)),qrs,H',⟨by have:=HK1.out;omega⟩,⟨qra HO_5.out⟩,⟨by exact bw⟩⟩
     ·replace c10:=Bool.eq_false_iff.mpr c10;subst c10;rw [if_neg (show ¬ (false = true) by decide)] at H;have c11b0:=eq_true (of_decide_eq_true ab:0 ≤ a1);obtain ⟨ji12,hji12⟩:∃ j_:Int,(shl .i64 1 a1) = j_:=⟨_,rfl⟩;(first|rw [hji12] at H|simp only [hji12] at H)
      have hji12_:(IntKind.i64.wrap (1 * 2 ^ min a1.toNat 64)) = ji12:=hji12;have hji12z:a1 ≤ 64 → (IntKind.i64.wrap (1 * 2 ^ a1.toNat)) = ji12:=fM hji12;have hji12u:(IntKind.i64.wrap (2 ^ min a1.toNat 64)) = ji12:=by have h_:=hji12_;rw [Int.one_mul] at h_;exact h_
      have hji12v:a1 ≤ 64 → (IntKind.i64.wrap (2 ^ a1.toNat)) = ji12:=fun hle_=>by have h_:=hji12z hle_;rw [Int.one_mul] at h_;exact h_
      have hji12y:(wrap64 (1 * 2 ^ min a1.toNat 64)) = ji12:=(cS _).symm.trans hji12_;have hji12x:a1 ≤ 64 → (wrap64 (1 * 2 ^ a1.toNat)) = ji12:=fun h_=>(cS _).symm.trans (hji12z h_)
      obtain ⟨ji13,hji13⟩:∃ j_:Int,(wrap64 (x10_1 + (ji12))) = j_:=⟨_,rfl⟩;(first|rw [hji13] at H|simp only [hji13] at H)
      have hji13w:(IntKind.i64.wrap (x10_1 + (ji12))) = ji13:=(cS _).trans hji13;replace H:=iN H;obtain ⟨c14,H⟩:=H;have c14b0:decide (0 ≤ (ji13)) = true:=decide_eq_true c14;clear c14;replace H:=iN H;obtain ⟨c15,H⟩:=H;have c15b0:decide ((ji13) < (l0.length:Int)) = true:=decide_eq_true c15;clear c15;obtain ⟨bq16,hbq16⟩:∃ b_:Bool,b_ = (dE false l0 (ji13)):=⟨_,rfl⟩;rw [← hbq16] at H;have Nbq16:=aM hbq16;clear hbq16;by_cases c17:bq16 = true
      ·subst c17;rw [if_pos rfl] at H;replace H:=iN H;obtain ⟨c18,H⟩:=H;have LMc18:=aM c18;clear c18;obtain ⟨y22,hy22⟩:∃ y_:List Int,y_ = (x5_1 ++ [x10_1]):=⟨_,rfl⟩;replace H:(ck.l0 k1 l0 a1 y22 l0 (l0.length:Int) (wrap64 (x10_1 + 1))) = some r:=yR hy22 H;have Ny22:=aM hy22;clear hy22;have H':=aM H;clear H;have p20:0 ≤ (x10_1:Int):=of_decide_eq_true ab;have q20:x10_1 < (l0.length:Int):=of_decide_eq_true ab;obtain ⟨ad20,e20,hx20_0⟩:=Kd.b8 HR0.out x10_1 p20 q20;(try rw [← Nbq9.out] at hx20_0)
       (try rw [← Nbq16.out] at hx20_0)
       cases e20
       replace hx20_0:=(HB.out.cell (World.block_lt_of_cell? w _ hx20_0)).trans hx20_0;replace p20:=eq_true p20;replace q20:=eq_true q20;have p21:0 ≤ ((ji13):Int):=of_decide_eq_true ab;have q21:(ji13) < (l0.length:Int):=of_decide_eq_true ab;obtain ⟨ad21,e21,hx21_0⟩:=Kd.b8 HR0.out (ji13) p21 q21;(try rw [← Nbq9.out] at hx21_0)
       (try rw [← Nbq16.out] at hx21_0)
       obtain rfl:ad20 = ad21:=(by injection e21);replace hx21_0:=(HB.out.cell (World.block_lt_of_cell? w _ hx21_0)).trans hx21_0;replace p21:=eq_true p21;replace q21:=eq_true q21;go_wp2_with (first|((with_reducible refine dr (b:=.append) (xs:=#[.tmp 33,.tmp 35]) rfl ?_);at_builtin;refine Kd.gg (Kd.int .i64) (w0:=w) w.heap.size rfl (.tmp 33) (.tmp 35) 23 3 (.int .i64 0) 8 rfl Tryz.underlying23 kQ rfl (by decide) (by omega) u5 x5_1 x10_1 [.int .i64 x10_1] (fun _=>True) (fun _=>False) rfl rfl ?aP (fun _ hk=>hk.elim) ?aF ?aO ?aB ?aS ?aL ?_;(case aP=>exact rfl);(case aB=>exact bw);(case aF=>exact (fun _ _=>trivial));(case aO=>exact (qra HO_5.out));(case aS=>exact (av bw));(case aL=>have:=LMc18.out;omega);intro v24 w19 ho hb hg hat;rw [← Ny22.out] at ho;replace HB:=aM (hb);have HO25:=aM (ho);clear HO_5;clear ho hb hg hat))
       go_roundg k1
       case measure=>have:=HK1.out;omega
       case rel=>exact ⟨(y22),(wrap64 (x10_1 + 1)),qrs,H',⟨by have:=HK1.out;omega⟩,⟨qra HO25.out⟩,⟨by exact bw⟩⟩
      ·replace c17:=Bool.eq_false_iff.mpr c17;subst c17;rw [if_neg (show ¬ (false = true) by decide)] at H;have H':=aM H;clear H;have p20:0 ≤ (x10_1:Int):=of_decide_eq_true ab;have q20:x10_1 < (l0.length:Int):=of_decide_eq_true ab;obtain ⟨ad20,e20,hx20_0⟩:=Kd.b8 HR0.out x10_1 p20 q20;(try rw [← Nbq9.out] at hx20_0)
       (try rw [← Nbq16.out] at hx20_0)
       cases e20
       replace hx20_0:=(HB.out.cell (World.block_lt_of_cell? w _ hx20_0)).trans hx20_0;replace p20:=eq_true p20;replace q20:=eq_true q20;have p21:0 ≤ ((ji13):Int):=of_decide_eq_true ab;have q21:(ji13) < (l0.length:Int):=of_decide_eq_true ab;obtain ⟨ad21,e21,hx21_0⟩:=Kd.b8 HR0.out (ji13) p21 q21;(try rw [← Nbq9.out] at hx21_0)
       (try rw [← Nbq16.out] at hx21_0)
       obtain rfl:ad20 = ad21:=(by injection e21);replace hx21_0:=(HB.out.cell (World.block_lt_of_cell? w _ hx21_0)).trans hx21_0;replace p21:=eq_true p21;replace q21:=eq_true q21;go_wp2
       go_roundg k1
       case measure=>have:=HK1.out;omega
       case rel=>exact ⟨(x5_1),(wrap64 (x10_1 + 1)),qrs,H',⟨by have:=HK1.out;omega⟩,⟨qra HO_5.out⟩,⟨by exact bw⟩⟩
    ·rw [if_neg c8] at H;have c8b0:((Int.tmod (ji7) 2) == 0) = false:=beq_eq_false_iff_ne.mpr c8;have c8b1:((Int.tmod (ji7) 2) != 0) = true:=bne_iff_ne.mpr c8;have H':=aM H;clear H;have p20:0 ≤ (x10_1:Int):=of_decide_eq_true ab;have q20:x10_1 < (l0.length:Int):=of_decide_eq_true ab;obtain ⟨ad20,e20,hx20_0⟩:=Kd.b8 HR0.out x10_1 p20 q20;cases e20
     replace hx20_0:=(HB.out.cell (World.block_lt_of_cell? w _ hx20_0)).trans hx20_0;replace p20:=eq_true p20;replace q20:=eq_true q20;go_wp2
     go_roundg k1
     case measure=>have:=HK1.out;omega
     case rel=>exact ⟨(x5_1),(wrap64 (x10_1 + 1)),qrs,H',⟨by have:=HK1.out;omega⟩,⟨qra HO_5.out⟩,⟨by exact bw⟩⟩
   ·rw [if_neg c3] at H;have c3b0:=decide_eq_false c3;clear c3;obtain rfl:=Option.some.inj H;go_wp2
    go_ret
    exact ⟨_,eE,by (with_reducible repeat (first|apply Kd.ca|apply Kd.b7|apply Kd.cu));exact HO_5.out,by exact bw⟩


def cH.l0:Nat → List Bool → Int → List Int → Int → Option (List Int)
 | 0,_,_,_,_=>none
 | k + 1,x0,x1,x5,x6=>if x6 < x1 then ((ck.f k x0 x6).bind fun t2=>(if x5.length < 17592186044416 then (cH.l0 k x0 x1 (x5 ++ [(t2.length:Int)]) (wrap64 (x6 + 1))) else (none))) else (some x5)
def cH.f (k:Nat) (l0:List Bool) (a1:Int):Option (List Int):=cH.l0 k l0 a1 ([]:List Int) 0
theorem cH.calls (k:Nat) (A0:Option Addr) (c0:Nat) (l0:List Bool) (a1:Int) (r:List Int) (w:World) (hr0:Kd.C Kd.bool w A0 l0.length l0) (hc0:l0.length ≤ c0) (h:cH.f k l0 a1 = some r) :
  Calls Tryz.prog 45 #[.slice A0 l0.length c0,.int .i64 a1] w fun e w'=>∃ v0_:Value,e = .returned (v0_) ∧ Kd.R (Kd.int .i64) 3 w' w.heap.size (fun _=>True) v0_ r ∧ Below w.heap.size w w':=by
 have HR0:=aM hr0;have HC0:=aM hc0;clear hr0 hc0;have HB:=aM (Below.refl w.heap.size w);have H:(cH.l0 k l0 a1 ([]:List Int) 0) = some r:=h;clear h;have H':=aM H;clear H;go_enter Tryz.func45,Tryz.ntmps45;go_wp2
 go_loopg [5,6] k (fun kq v5 v6 w'=>∃ (x5_1:List Int) (x6_1:Int),v6 = .int .i64 x6_1 ∧ aj (cH.l0 kq l0 a1 x5_1 x6_1 = some r) ∧ aj (kq ≤ k) ∧ aj (Kd.R (Kd.int .i64) 3 w' w.heap.size (fun _=>True) v5 x5_1) ∧ aj (Below w.heap.size w w'))
 case atStart=>exact ⟨(([]:List Int)),(0),qrs,H',⟨Nat.le_refl _⟩,⟨by first|exact Kd.gx _ _ _ _ _|exact Kd.gQ _ _ _ _ _|exact Kd.gP _ _ _ _ _|exact Kd.gU _ _ _ _ _|exact Kd.gW _ _ _ _ _⟩,⟨by exact bw⟩⟩
 case round =>
  clear H'
  try clear p2
  obtain ⟨x5_1,x6_1,rfl,HA,HK1,HO_5,HB⟩:=hrel
  cases gk with
  | zero=>exact absurd HA.out (by simp [cH.l0])
  | succ k1 =>
   have H:=HA.out;clear HA;simp only [cH.l0] at H;by_cases c3:x6_1 < a1
   ·rw [if_pos c3] at H;have c3b0:=decide_eq_true c3;clear c3;replace H:=oB H;obtain ⟨t9,A4,H⟩:=H;(try dsimp only at H)
    replace H:=iN H;obtain ⟨c5,H⟩:=H;have LMc5:=aM c5;clear c5;obtain ⟨y12,hy12⟩:∃ y_:List Int,y_ = (x5_1 ++ [(t9.length:Int)]):=⟨_,rfl⟩;replace H:(cH.l0 k1 l0 a1 y12 (wrap64 (x6_1 + 1))) = some r:=yR hy12 H;have Ny12:=aM hy12;clear hy12;have H':=aM H;clear H;go_wp2_with (first|((with_reducible refine ai (f:=78) rfl ?_);refine gL 15 Tryz.func78 #[.slice A0 l0.length c0,.int .i64 x6_1] ?_;(with_reducible refine (ck.calls k1 _ _ l0 x6_1 t9 _ ?side1 ?side2 A4.out).mono ?_);(case side1=>exact qcs HR0.out HB.out);(case side2=>exact HC0.out);rintro e w6 ⟨v10,rfl,ho0,hb⟩;refine ⟨_,rfl,?_⟩;have HO11:=aM (Kd.cr (Kd.gv ho0 (Kd.gp (qra HO_5.out))) (av bw));replace HO_5:=aM (Kd.eN (qra HO_5.out) (Kd.da ho0) hb);replace HB:=aM (ag bw hb);(try clear hb);(try clear ho0);obtain ⟨Ao7,co7,eo7⟩:=Kd.b5 HO11.out;subst eo7)|((with_reducible refine dr (b:=.append) (xs:=#[.tmp 12,.tmp 17]) rfl ?_);at_builtin;refine Kd.gg (Kd.int .i64) (w0:=w) w.heap.size rfl (.tmp 12) (.tmp 17) 23 3 (.int .i64 0) 8 rfl Tryz.underlying23 kQ rfl (by decide) (by omega) u5 x5_1 (t9.length:Int) [.int .i64 (t9.length:Int)] (fun k_=>some k_ ≠ (.slice Ao7 t9.length co7:Value).ownBlock) (fun _=>False) rfl rfl ?aP (fun _ hk=>hk.elim) ?aF ?aO ?aB ?aS ?aL ?_;(case aP=>exact rfl);(case aB=>exact bw);(case aF=>exact (fun k_ hk=>Kd.bA (Kd.gp (qra HO11.out)) k_ hk));(case aO=>exact (by (with_reducible repeat (first|apply Kd.ca|apply Kd.b7|apply Kd.cu));exact Kd.cG HO_5.out (fun _ hk=>hk.2)));(case aS=>exact (av bw));(case aL=>have:=LMc5.out;omega);intro v13 w8 ho hb hg hat;rw [← Ny12.out] at ho;replace HO11:=aM (Kd.eS (ok:=(fun _=>True)) (qra HO11.out) hg hat);replace HB:=aM (hb);have HO14:=aM (ho);clear HO_5;clear ho hb hg hat))
    go_roundg k1
    case measure=>have:=HK1.out;omega
    case rel=>exact ⟨(y12),(wrap64 (x6_1 + 1)),qrs,H',⟨by have:=HK1.out;omega⟩,⟨by (with_reducible repeat (first|apply Kd.ca|apply Kd.b7|apply Kd.cu));exact Kd.cG HO14.out (fun _ hk=>trivial)⟩,⟨by exact bw⟩⟩
   ·rw [if_neg c3] at H;have c3b0:=decide_eq_false c3;clear c3;obtain rfl:=Option.some.inj H;go_wp2
    go_ret
    exact ⟨_,eE,by (with_reducible repeat (first|apply Kd.ca|apply Kd.b7|apply Kd.cu));exact HO_5.out,by exact bw⟩


def br.f (k:Nat) (l0:List (aa)):Option (List Int × Bool):=(aW.f k l0).bind fun t2=>(if t2 = true then ((aT.f k l0 true).bind fun t3=>(if 0 < (l0.length:Int) then ((cH.f k t3 (((ae l0 0).f1).length:Int)).bind fun t4=>(some (t4,true))) else (none))) else (some (([]:List Int),false)))
def br.T3:Bool × List (List Nat × List Nat):=(true,[([],[]),([0],[0]),([],[]),([2],[2]),([3],[3]),([4],[4]),([5],[5]),([1,6,1],[1,6]),([7,7,0,1,2,3,4,5,6,7],[7]),([8,0,1,2,3,4,5,6,7,8],[])])
def br.B3:List Nat:=[0,1,0,4,12,28,60,127,255,511]
theorem br.tab3:il .any (opsOf Tryz.f15 3) = br.T3:=by kernel_rfl
theorem br.bits3:eZ br.T3.2 br.B3 = true:=by kernel_rfl
theorem br.calls (k:Nat) (A0:Option Addr) (c0:Nat) (l0:List (aa)) (r1:List Int) (r2:Bool) (w:World) (hr0:Kd.C ak w A0 l0.length l0) (hc0:l0.length ≤ c0) (h:br.f k l0 = some (r1,r2)) :
  Calls Tryz.prog 15 #[.slice A0 l0.length c0] w fun e w'=>∃ v0_:Value,e = .returned (.tuple #[v0_,.bool r2]) ∧ Kd.R (Kd.int .i64) 3 w' w.heap.size (fun _=>True) v0_ r1 ∧ Below w.heap.size w w':=by
 have HR0:=aM hr0;have HC0:=aM hc0;clear hr0 hc0;have HB:=aM (Below.refl w.heap.size w);have H:((aW.f k l0).bind fun t13=>(if t13 = true then ((aT.f k l0 true).bind fun t14=>(if 0 < (l0.length:Int) then ((cH.f k t14 (((ae l0 0).f1).length:Int)).bind fun t19=>(some (t19,true))) else (none))) else (some (([]:List Int),false)))) = some (r1,r2):=h;clear h;replace H:=oB H;obtain ⟨t13,A2,H⟩:=H;(try dsimp only at H)
 by_cases c3:t13 = true
 ·subst c3;rw [if_pos rfl] at H;replace H:=oB H;obtain ⟨t14,A4,H⟩:=H;(try dsimp only at H)
  replace H:=iN H;obtain ⟨c5,H⟩:=H;have c5b0:decide (0 < (l0.length:Int)) = true:=decide_eq_true c5;have c5b1:decide (0 < l0.length) = true:=decide_eq_true (by omega);clear c5;replace H:=oB H;obtain ⟨t19,A6,H⟩:=H;(try dsimp only at H)
  simp only [Option.some.injEq,Prod.mk.injEq] at H;obtain ⟨rfl,rfl⟩:=H;go_enter Tryz.func15,Tryz.ntmps15
  try go_wp2_with (first|((with_reducible refine ai (f:=36) rfl ?_);refine gL 5 Tryz.func36 #[.slice A0 l0.length c0] ?_;(with_reducible refine (aW.calls k _ _ l0 true _ ?side1 ?side2 A2.out).mono ?_);(case side1=>exact qc HR0.out);(case side2=>exact HC0.out);rintro e w7 ⟨rfl,hb⟩;refine ⟨_,rfl,?_⟩;replace HB:=aM (ag bw hb);(try clear hb)))
  replace HB:=aM (bg HB.out);have p18:0 ≤ (0:Int):=(by omega);have q18:0 < (l0.length:Int):=of_decide_eq_true ab;obtain ⟨ad18,A18_1,c465_1,e18,hx18_0,hx18_1,hl18_1,hi18_1⟩:=bD HR0.out 0 p18 q18;have hw18_1:=hx18_1;(try rw [show ((0:Int)).toNat = 0 from rfl] at hw18_1)
  (try rw [show 0 * 2 = 0 from rfl] at hw18_1)
  (try rw [Addr.add_zero'] at hw18_1)
  have hw18_0:=hx18_0;(try rw [show ((0:Int)).toNat = 0 from rfl] at hw18_0)
  (try rw [show 0 * 2 = 0 from rfl] at hw18_0)
  (try rw [Addr.add_zero'] at hw18_0)
  cases e18
  have qi465:(0 < l0.length) = True:=eq_true (by omega);(try rw [show ((0:Int)).toNat = 0 from rfl] at hx18_0)
  (try rw [show 0 * 2 = 0 from rfl] at hx18_0)
  (try rw [Addr.add_zero'] at hx18_0)
  (try rw [show ((0:Int)).toNat = 0 from rfl] at hx18_1)
  (try rw [show 0 * 2 = 0 from rfl] at hx18_1)
  (try rw [Addr.add_zero'] at hx18_1)
  replace hx18_0:=(HB.out.cell (World.block_lt_of_cell? w _ hx18_0)).trans hx18_0;replace hx18_1:=(HB.out.cell (World.block_lt_of_cell? w _ hx18_1)).trans hx18_1;have HR18_1:=aM hi18_1;have HC18_1:=aM hl18_1;clear hi18_1 hl18_1;replace p18:=eq_true p18;replace q18:=eq_true q18;refine eQ (n:=10) (S:=fun w'=>w'.cell? ad18 = some (.int .i64 ((ae l0 0).f0)) ∧ w'.cell? ⟨ad18.block,ad18.off + 1,none⟩ = some (.slice A18_1 ((ae l0 0).f1).length c465_1)) (ds:=[]) (mA 10 0) kR rfl rfl ⟨((HB.out.cell (World.block_lt_of_cell? w _ hw18_0)).trans hw18_0),((HB.out.cell (World.block_lt_of_cell? w _ hw18_1)).trans hw18_1)⟩ (fun hHeld=>?_);refine dx br.tab3 br.bits3 (fun HT_ HW_=>?_)
  generalize w7.drew = w8 at HB HR18_1 hx18_0 hx18_1 hHeld ⊢
  refine pT 0 7 HT_.out ?_;refine pT 2 9 HT_.out ?_;refine pT 3 10 HT_.out ?_;refine pT 4 11 HT_.out ?_;refine pK 5 12 HT_.out HW_.out hHeld ?_;refine pT 6 13 HT_.out ?_;refine oN 1 (some 8) HT_.out fun K hK=>?_
  refine gC Tryz.func32 #[.slice (some ad18) l0.length c0,.bool true] ?_
  with_reducible refine (aT.calls k _ _ l0 true t14 _ ?side1 ?side2 A4.out).mono ?_
  (case side1=>exact qcs HR0.out HB.out)
  (case side2=>exact HC0.out)
  rintro e w9 ⟨v16,rfl,ho0,hb⟩
  refine ⟨_,rfl,?_⟩;have HO17:=aM (Kd.cr ho0 (av bw));replace HB:=aM (ag bw hb);(try clear hb)
  (try clear ho0)
  obtain ⟨Ao10,co10,eo10⟩:=Kd.b5 HO17.out;(first|subst eo10|(injection eo10 with f1_ f2_ f3_;have f4_:=f1_.symm;have f5_:=f3_.symm;clear f1_ f2_ f3_;subst f4_;subst f5_))
  refine hK.out _ _ ⟨((HB.out.cell (World.block_lt_of_cell? w _ hw18_0)).trans hw18_0),((HB.out.cell (World.block_lt_of_cell? w _ hw18_1)).trans hw18_1)⟩ (fun hHeld=>?_);clear hK K;refine nM 8 ?_;refine oN 7 (some 14) HT_.out fun K hK=>?_
  refine gC Tryz.func45 #[.slice Ao10 t14.length co10,.int .i64 (((ae l0 0).f1).length:Int)] ?_
  with_reducible refine (cH.calls k _ _ t14 (((ae l0 0).f1).length:Int) t19 _ ?side1 ?side2 A6.out).mono ?_
  (case side1=>exact qc (Kd.aI HO17.out).2.2)
  (case side2=>exact (Kd.aI HO17.out).2.1)
  rintro e w11 ⟨v20,rfl,ho0,hb⟩
  refine ⟨_,rfl,?_⟩;replace HO17:=aM (Kd.ba (qra HO17.out) hb);have HO21:=aM (Kd.cr ho0 (av bw));replace HB:=aM (ag bw hb);(try clear hb)
  (try clear ho0)
  refine hK.out _ _ ⟨((HB.out.cell (World.block_lt_of_cell? w _ hw18_0)).trans hw18_0),((HB.out.cell (World.block_lt_of_cell? w _ hw18_1)).trans hw18_1)⟩ (fun hHeld=>?_);clear hK K;refine nM 14 ?_;refine pT 8 2 HT_.out ?_;refine pT 9 3 HT_.out ?_;refine fK (eA HT_.out kR) ?_
  try go_wp2
  go_ret2
  exact ⟨_,eE,by (with_reducible repeat (first|apply Kd.ca|apply Kd.b7|apply Kd.cu));exact HO21.out,by exact bw⟩
 ·replace c3:=Bool.eq_false_iff.mpr c3;subst c3;rw [if_neg (show ¬ (false = true) by decide)] at H;simp only [Option.some.injEq,Prod.mk.injEq] at H;obtain ⟨rfl,rfl⟩:=H;go_enter Tryz.func15,Tryz.ntmps15;go_wp2_with (first|((with_reducible refine ai (f:=36) rfl ?_);refine gL 5 Tryz.func36 #[.slice A0 l0.length c0] ?_;(with_reducible refine (aW.calls k _ _ l0 false _ ?side1 ?side2 A2.out).mono ?_);(case side1=>exact qc HR0.out);(case side2=>exact HC0.out);rintro e w12 ⟨rfl,hb⟩;refine ⟨_,rfl,?_⟩;replace HB:=aM (ag bw hb);(try clear hb)))
  go_ret2
  exact ⟨_,eE,by first|exact Kd.gx _ _ _ _ _|exact Kd.gQ _ _ _ _ _|exact Kd.gP _ _ _ _ _|exact Kd.gU _ _ _ _ _|exact Kd.gW _ _ _ _ _,by exact bw⟩


def bS.l0:Nat → List Int → List Int → Int → Int → Option (Bool)
 | 0,_,_,_,_=>none
 | k + 1,x0,x1,x12,x13=>if x13 < x12 then (if 0 ≤ x13 then (if x13 < (x0.length:Int) then (if x13 < (x1.length:Int) then (if (rd x0 x13) = (rd x1 x13) then (bS.l0 k x0 x1 x12 (wrap64 (x13 + 1))) else (some false)) else (none)) else (none)) else (none)) else (some true)
def bS.f (k:Nat) (l0:List Int) (l1:List Int):Option (Bool):=if (l0.length:Int) = (l1.length:Int) then (bS.l0 k l0 l1 (l0.length:Int) 0) else (some false)
theorem bS.calls (k:Nat) (A0:Option Addr) (c0:Nat) (l0:List Int) (A1:Option Addr) (c1:Nat) (l1:List Int) (r:Bool) (w:World) (hr0:Kd.C (Kd.int .i64) w A0 l0.length l0) (hc0:l0.length ≤ c0) (hr1:Kd.C (Kd.int .i64) w A1 l1.length l1) (hc1:l1.length ≤ c1) (h:bS.f k l0 l1 = some r) :
  Calls Tryz.prog 17 #[.slice A0 l0.length c0,.slice A1 l1.length c1] w fun e w'=>e = .returned (.bool r) ∧ bi w w':=by
 have HR0:=aM hr0;have HC0:=aM hc0;clear hr0 hc0;have HR1:=aM hr1;have HC1:=aM hc1;clear hr1 hc1;have H:(if (l0.length:Int) = (l1.length:Int) then (bS.l0 k l0 l1 (l0.length:Int) 0) else (some false)) = some r:=h;clear h;by_cases c3:(l0.length:Int) = (l1.length:Int)
 ·rw [if_pos c3] at H;have c3b0:((l0.length:Int) == (l1.length:Int)) = true:=beq_iff_eq.mpr c3;have c3b1:((l0.length:Int) != (l1.length:Int)) = false:=bne_eq_false_iff_eq.mpr c3;have c3b2:(l0.length == l1.length) = true:=by first|simpa using c3|(simp at c3 ⊢;omega)
  clear c3;have H':=aM H;clear H;go_enter Tryz.func17,Tryz.ntmps17;go_wp2
  repeat (go_quiet (fail);try go_wp2)
  go_loopg [13] k (fun kq v13 w'=>∃ (x13_1:Int),v13 = .int .i64 x13_1 ∧ aj (bS.l0 kq l0 l1 (l0.length:Int) x13_1 = some r) ∧ aj (kq ≤ k) ∧ bi w w')
  case atStart=>exact ⟨(0),qrs,H',⟨Nat.le_refl _⟩,by repeat (first|exact bi.refl _|apply bi.step)⟩
  case round =>
   clear H';(try clear c1);(try clear c3);(try clear c3b0);(try clear c3b1);(try clear c3b2)
   obtain ⟨x13_1,rfl,HA,HK1,⟨m1,rfl⟩⟩:=hrel
   cases gk with
   | zero=>exact absurd HA.out (by simp [bS.l0])
   | succ k1 =>
    have H:=HA.out;clear HA;simp only [bS.l0] at H;by_cases c4:x13_1 < (l0.length:Int)
    ·rw [if_pos c4] at H;have c4b0:=decide_eq_true c4;clear c4;replace H:=iN H;obtain ⟨c5,H⟩:=H;have c5b0:decide (0 ≤ x13_1) = true:=decide_eq_true c5;clear c5;replace H:=iN H;obtain ⟨c6,H⟩:=H;have c6b0:decide (x13_1 < (l0.length:Int)) = true:=decide_eq_true c6;clear c6;replace H:=iN H;obtain ⟨c7,H⟩:=H;have c7b0:decide (x13_1 < (l1.length:Int)) = true:=decide_eq_true c7;clear c7;by_cases c8:(rd l0 x13_1) = (rd l1 x13_1)
     ·rw [if_pos c8] at H;have c8b0:((rd l0 x13_1) == (rd l1 x13_1)) = true:=beq_iff_eq.mpr c8;have c8b1:((rd l0 x13_1) != (rd l1 x13_1)) = false:=bne_eq_false_iff_eq.mpr c8;clear c8;have H':=aM H;clear H;have p9:0 ≤ (x13_1:Int):=of_decide_eq_true ab;have q9:x13_1 < (l0.length:Int):=of_decide_eq_true ab;obtain ⟨ad9,e9,hx9_0⟩:=Kd.dI HR0.out x13_1 p9 q9;cases e9
      replace p9:=eq_true p9;replace q9:=eq_true q9;have p10:0 ≤ (x13_1:Int):=of_decide_eq_true ab;have q10:x13_1 < (l1.length:Int):=of_decide_eq_true ab;obtain ⟨ad10,e10,hx10_0⟩:=Kd.dI HR1.out x13_1 p10 q10;cases e10
      replace p10:=eq_true p10;replace q10:=eq_true q10;go_wp2
      repeat (go_quiet (fail);try go_wp2)
      go_roundg k1
      case measure=>have:=HK1.out;omega
      case rel=>exact ⟨(wrap64 (x13_1 + 1)),qrs,H',⟨by have:=HK1.out;omega⟩,by repeat (first|exact bi.refl _|apply bi.step)⟩
     ·rw [if_neg c8] at H;have c8b0:((rd l0 x13_1) == (rd l1 x13_1)) = false:=beq_eq_false_iff_ne.mpr c8;have c8b1:((rd l0 x13_1) != (rd l1 x13_1)) = true:=bne_iff_ne.mpr c8;obtain rfl:=Option.some.inj H;have p9:0 ≤ (x13_1:Int):=of_decide_eq_true ab;have q9:x13_1 < (l0.length:Int):=of_decide_eq_true ab;obtain ⟨ad9,e9,hx9_0⟩:=Kd.dI HR0.out x13_1 p9 q9;cases e9
      replace p9:=eq_true p9;replace q9:=eq_true q9;have p10:0 ≤ (x13_1:Int):=of_decide_eq_true ab;have q10:x13_1 < (l1.length:Int):=of_decide_eq_true ab;obtain ⟨ad10,e10,hx10_0⟩:=Kd.dI HR1.out x13_1 p10 q10;cases e10
      replace p10:=eq_true p10;replace q10:=eq_true q10;go_wp2
      repeat (go_quiet (fail);try go_wp2)
      go_ret
      exact ⟨qrs,dR⟩
    ·rw [if_neg c4] at H;have c4b0:=decide_eq_false c4;clear c4;obtain rfl:=Option.some.inj H;go_wp2
     repeat (go_quiet (fail);try go_wp2)
     go_ret
     exact ⟨qrs,dR⟩
 ·rw [if_neg c3] at H;have c3b0:((l0.length:Int) == (l1.length:Int)) = false:=beq_eq_false_iff_ne.mpr c3;have c3b1:((l0.length:Int) != (l1.length:Int)) = true:=bne_iff_ne.mpr c3;have c3b2:(l0.length == l1.length) = false:=by first|simpa using c3|(simp at c3 ⊢;omega)
  obtain rfl:=Option.some.inj H;go_enter Tryz.func17,Tryz.ntmps17;go_wp2
  repeat (go_quiet (fail);try go_wp2)
  go_ret
  exact ⟨qrs,dR⟩


def cN.l0:Nat → List (List Int) → List (List Int) → Int → Int → Option (Bool)
 | 0,_,_,_,_=>none
 | k + 1,x0,x1,x12,x13=>if x13 < x12 then (if 0 ≤ x13 then (if x13 < (x0.length:Int) then (if x13 < (x1.length:Int) then ((bS.f k (eR x0 x13) (eR x1 x13)).bind fun t2=>(if t2 = true then (cN.l0 k x0 x1 x12 (wrap64 (x13 + 1))) else (some false))) else (none)) else (none)) else (none)) else (some true)
def cN.f (k:Nat) (l0:List (List Int)) (l1:List (List Int)):Option (Bool):=if (l0.length:Int) = (l1.length:Int) then (cN.l0 k l0 l1 (l0.length:Int) 0) else (some false)
theorem cN.calls (k:Nat) (A0:Option Addr) (c0:Nat) (l0:List (List Int)) (A1:Option Addr) (c1:Nat) (l1:List (List Int)) (r:Bool) (w:World) (hr0:Kd.C (Kd.slice 3 (Kd.int .i64)) w A0 l0.length l0) (hc0:l0.length ≤ c0) (hr1:Kd.C (Kd.slice 3 (Kd.int .i64)) w A1 l1.length l1) (hc1:l1.length ≤ c1) (h:cN.f k l0 l1 = some r) :
  Calls Tryz.prog 46 #[.slice A0 l0.length c0,.slice A1 l1.length c1] w fun e w'=>e = .returned (.bool r) ∧ bi w w':=by
 have HR0:=aM hr0;have HC0:=aM hc0;clear hr0 hc0;have HR1:=aM hr1;have HC1:=aM hc1;clear hr1 hc1;have H:(if (l0.length:Int) = (l1.length:Int) then (cN.l0 k l0 l1 (l0.length:Int) 0) else (some false)) = some r:=h;clear h;by_cases c3:(l0.length:Int) = (l1.length:Int)
 ·rw [if_pos c3] at H;have c3b0:((l0.length:Int) == (l1.length:Int)) = true:=beq_iff_eq.mpr c3;have c3b1:((l0.length:Int) != (l1.length:Int)) = false:=bne_eq_false_iff_eq.mpr c3;have c3b2:(l0.length == l1.length) = true:=by first|simpa using c3|(simp at c3 ⊢;omega)
  clear c3;have H':=aM H;clear H;go_enter Tryz.func46,Tryz.ntmps46;go_wp2
  repeat (go_quiet (fail);try go_wp2)
  go_loopg [13] k (fun kq v13 w'=>∃ (x13_1:Int),v13 = .int .i64 x13_1 ∧ aj (cN.l0 kq l0 l1 (l0.length:Int) x13_1 = some r) ∧ aj (kq ≤ k) ∧ bi w w')
  case atStart=>exact ⟨(0),qrs,H',⟨Nat.le_refl _⟩,by repeat (first|exact bi.refl _|apply bi.step)⟩
  case round =>
   clear H';(try clear c1);(try clear c3);(try clear c3b0);(try clear c3b1);(try clear c3b2)
   obtain ⟨x13_1,rfl,HA,HK1,⟨m1,rfl⟩⟩:=hrel
   cases gk with
   | zero=>exact absurd HA.out (by simp [cN.l0])
   | succ k1 =>
    have H:=HA.out;clear HA;simp only [cN.l0] at H;by_cases c4:x13_1 < (l0.length:Int)
    ·rw [if_pos c4] at H;have c4b0:=decide_eq_true c4;clear c4;replace H:=iN H;obtain ⟨c5,H⟩:=H;have c5b0:decide (0 ≤ x13_1) = true:=decide_eq_true c5;clear c5;replace H:=iN H;obtain ⟨c6,H⟩:=H;have c6b0:decide (x13_1 < (l0.length:Int)) = true:=decide_eq_true c6;clear c6;replace H:=iN H;obtain ⟨c7,H⟩:=H;have c7b0:decide (x13_1 < (l1.length:Int)) = true:=decide_eq_true c7;clear c7;replace H:=oB H;obtain ⟨t12,A8,H⟩:=H;(try dsimp only at H)
     by_cases c9:t12 = true
     ·subst c9;rw [if_pos rfl] at H;have H':=aM H;clear H;have p10:0 ≤ (x13_1:Int):=of_decide_eq_true ab;have q10:x13_1 < (l0.length:Int):=of_decide_eq_true ab;obtain ⟨ad10,A10_0,c471_0,e10,hx10_0,hl10_0,hi10_0⟩:=jH HR0.out x13_1 p10 q10;cases e10
      have HR10_0:=aM hi10_0;have HC10_0:=aM hl10_0;clear hi10_0 hl10_0;replace p10:=eq_true p10;replace q10:=eq_true q10;have p11:0 ≤ (x13_1:Int):=of_decide_eq_true ab;have q11:x13_1 < (l1.length:Int):=of_decide_eq_true ab;obtain ⟨ad11,A11_0,c472_0,e11,hx11_0,hl11_0,hi11_0⟩:=jH HR1.out x13_1 p11 q11;cases e11
      have HR11_0:=aM hi11_0;have HC11_0:=aM hl11_0;clear hi11_0 hl11_0;replace p11:=eq_true p11;replace q11:=eq_true q11;go_wp2_with (first|(go_at_call 17;(with_reducible refine (bS.calls k1 _ _ (eR l0 x13_1) _ _ (eR l1 x13_1) true _ ?side1 ?side2 ?side3 ?side4 A8.out).mono ?_);(case side1=>exact qc HR10_0.out);(case side2=>exact HC10_0.out);(case side3=>exact qc HR11_0.out);(case side4=>exact HC11_0.out);rintro e w' ⟨rfl,⟨nd,rfl⟩⟩;(try exact dW)))
      repeat (go_quiet (first|(go_at_call 17;(with_reducible refine (bS.calls k1 _ _ (eR l0 x13_1) _ _ (eR l1 x13_1) true _ ?side1 ?side2 ?side3 ?side4 A8.out).mono ?_);(case side1=>exact qc HR10_0.out);(case side2=>exact HC10_0.out);(case side3=>exact qc HR11_0.out);(case side4=>exact HC11_0.out);rintro e w' ⟨rfl,⟨nd,rfl⟩⟩;(try exact dW)));try go_wp2_with (first|(go_at_call 17;(with_reducible refine (bS.calls k1 _ _ (eR l0 x13_1) _ _ (eR l1 x13_1) true _ ?side1 ?side2 ?side3 ?side4 A8.out).mono ?_);(case side1=>exact qc HR10_0.out);(case side2=>exact HC10_0.out);(case side3=>exact qc HR11_0.out);(case side4=>exact HC11_0.out);rintro e w' ⟨rfl,⟨nd,rfl⟩⟩;(try exact dW))))
      go_roundg k1
      case measure=>have:=HK1.out;omega
      case rel=>exact ⟨(wrap64 (x13_1 + 1)),qrs,H',⟨by have:=HK1.out;omega⟩,by repeat (first|exact bi.refl _|apply bi.step)⟩
     ·replace c9:=Bool.eq_false_iff.mpr c9;subst c9;rw [if_neg (show ¬ (false = true) by decide)] at H;obtain rfl:=Option.some.inj H;have p10:0 ≤ (x13_1:Int):=of_decide_eq_true ab;have q10:x13_1 < (l0.length:Int):=of_decide_eq_true ab;obtain ⟨ad10,A10_0,c471_0,e10,hx10_0,hl10_0,hi10_0⟩:=jH HR0.out x13_1 p10 q10;cases e10
      have HR10_0:=aM hi10_0;have HC10_0:=aM hl10_0;clear hi10_0 hl10_0;replace p10:=eq_true p10;replace q10:=eq_true q10;have p11:0 ≤ (x13_1:Int):=of_decide_eq_true ab;have q11:x13_1 < (l1.length:Int):=of_decide_eq_true ab;obtain ⟨ad11,A11_0,c472_0,e11,hx11_0,hl11_0,hi11_0⟩:=jH HR1.out x13_1 p11 q11;cases e11
      have HR11_0:=aM hi11_0;have HC11_0:=aM hl11_0;clear hi11_0 hl11_0;replace p11:=eq_true p11;replace q11:=eq_true q11;go_wp2_with (first|(go_at_call 17;(with_reducible refine (bS.calls k1 _ _ (eR l0 x13_1) _ _ (eR l1 x13_1) false _ ?side1 ?side2 ?side3 ?side4 A8.out).mono ?_);(case side1=>exact qc HR10_0.out);(case side2=>exact HC10_0.out);(case side3=>exact qc HR11_0.out);(case side4=>exact HC11_0.out);rintro e w' ⟨rfl,⟨nd,rfl⟩⟩;(try exact dW)))
      repeat (go_quiet (first|(go_at_call 17;(with_reducible refine (bS.calls k1 _ _ (eR l0 x13_1) _ _ (eR l1 x13_1) false _ ?side1 ?side2 ?side3 ?side4 A8.out).mono ?_);(case side1=>exact qc HR10_0.out);(case side2=>exact HC10_0.out);(case side3=>exact qc HR11_0.out);(case side4=>exact HC11_0.out);rintro e w' ⟨rfl,⟨nd,rfl⟩⟩;(try exact dW)));try go_wp2_with (first|(go_at_call 17;(with_reducible refine (bS.calls k1 _ _ (eR l0 x13_1) _ _ (eR l1 x13_1) false _ ?side1 ?side2 ?side3 ?side4 A8.out).mono ?_);(case side1=>exact qc HR10_0.out);(case side2=>exact HC10_0.out);(case side3=>exact qc HR11_0.out);(case side4=>exact HC11_0.out);rintro e w' ⟨rfl,⟨nd,rfl⟩⟩;(try exact dW))))
      go_ret
      exact ⟨qrs,dR⟩
    ·rw [if_neg c4] at H;have c4b0:=decide_eq_false c4;clear c4;obtain rfl:=Option.some.inj H;go_wp2
     repeat (go_quiet (fail);try go_wp2)
     go_ret
     exact ⟨qrs,dR⟩
 ·rw [if_neg c3] at H;have c3b0:((l0.length:Int) == (l1.length:Int)) = false:=beq_eq_false_iff_ne.mpr c3;have c3b1:((l0.length:Int) != (l1.length:Int)) = true:=bne_iff_ne.mpr c3;have c3b2:(l0.length == l1.length) = false:=by first|simpa using c3|(simp at c3 ⊢;omega)
  obtain rfl:=Option.some.inj H;go_enter Tryz.func46,Tryz.ntmps46;go_wp2
  repeat (go_quiet (fail);try go_wp2)
  go_ret
  exact ⟨qrs,dR⟩


def cn.f (k:Nat) (a0_0:Int) (l0_1:List (List Int)) (a1_0:Int) (l1_1:List (List Int)):Option (Bool):=if a0_0 = a1_0 then ((cN.f k l0_1 l1_1).bind fun t2=>(some t2)) else (some false)
theorem cn.calls (k:Nat) (a0_0:Int) (A0_1:Option Addr) (c0_1:Nat) (l0_1:List (List Int)) (a1_0:Int) (A1_1:Option Addr) (c1_1:Nat) (l1_1:List (List Int)) (r:Bool) (w:World) (hr0_1:Kd.C (Kd.slice 3 (Kd.int .i64)) w A0_1 l0_1.length l0_1) (hc0_1:l0_1.length ≤ c0_1) (hr1_1:Kd.C (Kd.slice 3 (Kd.int .i64)) w A1_1 l1_1.length l1_1) (hc1_1:l1_1.length ≤ c1_1) (h:cn.f k a0_0 l0_1 a1_0 l1_1 = some r) :
  Calls Tryz.prog 16 #[.agg #[.int .i64 a0_0,.slice A0_1 l0_1.length c0_1],.agg #[.int .i64 a1_0,.slice A1_1 l1_1.length c1_1]] w fun e w'=>e = .returned (.bool r) ∧ Below w.heap.size w w':=by
 have hu30:=Tryz.underlying30;have HR0_1:=aM hr0_1;have HC0_1:=aM hc0_1;clear hr0_1 hc0_1;have HR1_1:=aM hr1_1;have HC1_1:=aM hc1_1;clear hr1_1 hc1_1;have HB:=aM (Below.refl w.heap.size w);have H:(if a0_0 = a1_0 then ((cN.f k l0_1 l1_1).bind fun t18=>(some t18)) else (some false)) = some r:=h;clear h;by_cases c3:a0_0 = a1_0
 ·rw [if_pos c3] at H;have c3b0:(a0_0 == a1_0) = true:=beq_iff_eq.mpr c3;have c3b1:(a0_0 != a1_0) = false:=bne_eq_false_iff_eq.mpr c3;clear c3;replace H:=oB H;obtain ⟨t18,A4,H⟩:=H;(try dsimp only at H)
  obtain rfl:=Option.some.inj H;go_enter Tryz.func16,Tryz.ntmps16;go_wp2_with (first|((with_reducible refine aC (N:=2) rfl ?_);refine bE 2 #[.int .i64 a0_0,.slice A0_1 l0_1.length c0_1] 30 ?_;intro gb15 hg w5 hbox hb;have BK15:=aM (hbox);have GW15:=aM (gS hg);have GE15:=aM (gS hg);replace HB:=aM (ag bw hb);clear hb hbox hg)|((with_reducible refine aC (N:=3) rfl ?_);refine bE 3 #[.int .i64 a1_0,.slice A1_1 l1_1.length c1_1] 30 ?_;intro gb17 hg w6 hbox hb;have BK17:=aM (hbox);have GW17:=aM (gS hg);have GE17:=aM (gS hg);replace HB:=aM (ag bw hb);have NB15_17:=aM (nL BK15.out hg);have NB17_15:=aM (nR BK15.out hg);replace BK15:=aM (bB BK15.out hb);clear hb hbox hg;have hnb7:=NB15_17.out;have hnc7:=NB17_15.out;have hcz8_0:=cz BK15.out 0;have hcz8_1:=cz BK15.out 1;have hfz8_0:=af BK15.out 0;have hfz8_1:=af BK15.out 1;have hcz9_0:=cz BK17.out 0;have hcz9_1:=cz BK17.out 1;have hfz9_0:=af BK17.out 0;have hfz9_1:=af BK17.out 1)|(go_at_call 46;(with_reducible refine (cN.calls k _ _ l0_1 _ _ l1_1 t18 _ ?side1 ?side2 ?side3 ?side4 A4.out).mono ?_);(case side1=>exact qcs HR0_1.out HB.out);(case side2=>exact HC0_1.out);(case side3=>exact qcs HR1_1.out HB.out);(case side4=>exact HC1_1.out);rintro e w' ⟨rfl,⟨nd,rfl⟩⟩))
  go_ret
  exact ⟨eE,by exact bw⟩
 ·rw [if_neg c3] at H;have c3b0:(a0_0 == a1_0) = false:=beq_eq_false_iff_ne.mpr c3;have c3b1:(a0_0 != a1_0) = true:=bne_iff_ne.mpr c3;obtain rfl:=Option.some.inj H;go_enter Tryz.func16,Tryz.ntmps16;go_wp2_with (first|((with_reducible refine aC (N:=2) rfl ?_);refine bE 2 #[.int .i64 a0_0,.slice A0_1 l0_1.length c0_1] 30 ?_;intro gb15 hg w10 hbox hb;have BK15:=aM (hbox);have GW15:=aM (gS hg);have GE15:=aM (gS hg);replace HB:=aM (ag bw hb);clear hb hbox hg)|((with_reducible refine aC (N:=3) rfl ?_);refine bE 3 #[.int .i64 a1_0,.slice A1_1 l1_1.length c1_1] 30 ?_;intro gb17 hg w11 hbox hb;have BK17:=aM (hbox);have GW17:=aM (gS hg);have GE17:=aM (gS hg);replace HB:=aM (ag bw hb);have NB15_17:=aM (nL BK15.out hg);have NB17_15:=aM (nR BK15.out hg);replace BK15:=aM (bB BK15.out hb);clear hb hbox hg;have hnb12:=NB15_17.out;have hnc12:=NB17_15.out;have hcz13_0:=cz BK15.out 0;have hcz13_1:=cz BK15.out 1;have hfz13_0:=af BK15.out 0;have hfz13_1:=af BK15.out 1;have hcz14_0:=cz BK17.out 0;have hcz14_1:=cz BK17.out 1;have hfz14_0:=af BK17.out 0;have hfz14_1:=af BK17.out 1))
  go_ret
  exact ⟨eE,by exact bw⟩


def dX.f (k:Nat) (l0:List (aa)):Option (Bool):=(aW.f k l0).bind fun t1=>(some t1)
theorem dX.calls (k:Nat) (A0:Option Addr) (c0:Nat) (l0:List (aa)) (r:Bool) (w:World) (hr0:Kd.C ak w A0 l0.length l0) (hc0:l0.length ≤ c0) (h:dX.f k l0 = some r) :
  Calls Tryz.prog 19 #[.slice A0 l0.length c0] w fun e w'=>e = .returned (.bool r) ∧ Below w.heap.size w w':=by
 have HR0:=aM hr0;have HC0:=aM hc0;clear hr0 hc0;have HB:=aM (Below.refl w.heap.size w);have H:((aW.f k l0).bind fun t4=>(some t4)) = some r:=h;clear h;replace H:=oB H;obtain ⟨t4,A2,H⟩:=H;(try dsimp only at H)
 obtain rfl:=Option.some.inj H;go_enter Tryz.func19,Tryz.ntmps19;go_wp2_with (first|((with_reducible refine ai (f:=36) rfl ?_);refine gL 4 Tryz.func36 #[.slice A0 l0.length c0] ?_;(with_reducible refine (aW.calls k _ _ l0 t4 _ ?side1 ?side2 A2.out).mono ?_);(case side1=>exact qc HR0.out);(case side2=>exact HC0.out);rintro e w3 ⟨rfl,hb⟩;refine ⟨_,rfl,?_⟩;replace HB:=aM (ag bw hb);(try clear hb)))
 go_ret
 exact ⟨eE,by exact bw⟩


def eD.f (k:Nat) (a0_0:Int) (l0_1:List Int) (l1:List Int):Option (Bool):=(aH.f k a0_0 l0_1).bind fun t2=>(if t2 = true then ((dq.f k l1 (l0_1.length:Int)).bind fun t3=>(some t3)) else (some false))
theorem eD.calls (k:Nat) (a0_0:Int) (A0_1:Option Addr) (c0_1:Nat) (l0_1:List Int) (A1:Option Addr) (c1:Nat) (l1:List Int) (r:Bool) (w:World) (hr0_1:Kd.C (Kd.int .i64) w A0_1 l0_1.length l0_1) (hc0_1:l0_1.length ≤ c0_1) (hr1:Kd.C (Kd.int .i64) w A1 l1.length l1) (hc1:l1.length ≤ c1) (h:eD.f k a0_0 l0_1 l1 = some r) :
  Calls Tryz.prog 51 #[.agg #[.int .i64 a0_0,.slice A0_1 l0_1.length c0_1],.slice A1 l1.length c1] w fun e w'=>e = .returned (.bool r) ∧ Below w.heap.size w w':=by
 have hu25:=Tryz.underlying25;have HR0_1:=aM hr0_1;have HC0_1:=aM hc0_1;clear hr0_1 hc0_1;have HR1:=aM hr1;have HC1:=aM hc1;clear hr1 hc1;have HB:=aM (Below.refl w.heap.size w);have H:((aH.f k a0_0 l0_1).bind fun t15=>(if t15 = true then ((dq.f k l1 (l0_1.length:Int)).bind fun t16=>(some t16)) else (some false))) = some r:=h;clear h;replace H:=oB H;obtain ⟨t15,A3,H⟩:=H;(try dsimp only at H)
 by_cases c4:t15 = true
 ·subst c4;rw [if_pos rfl] at H;replace H:=oB H;obtain ⟨t16,A5,H⟩:=H;(try dsimp only at H)
  obtain rfl:=Option.some.inj H;go_enter Tryz.func51,Tryz.ntmps51;go_wp2_with (first|((with_reducible refine aC (N:=2) rfl ?_);(try (refine bQ (by rfl) ?_;dsimp only));refine bE 2 #[.int .i64 a0_0,.slice A0_1 l0_1.length c0_1] 25 ?_;intro gb14 hg w6 hbox hb;have BK14:=aM (hbox);have GW14:=aM (gS hg);have GE14:=aM (gS hg);replace HB:=aM (ag bw hb);clear hb hbox hg;have hcz7_0:=cz BK14.out 0;have hcz7_1:=cz BK14.out 1;have hfz7_0:=af BK14.out 0;have hfz7_1:=af BK14.out 1)|((with_reducible refine ai (f:=50) rfl ?_);refine gL 6 Tryz.func50 #[.agg #[.int .i64 a0_0,.slice A0_1 l0_1.length c0_1]] ?_;(with_reducible refine (aH.calls k a0_0 _ _ l0_1 true _ ?side1 ?side2 A3.out).mono ?_);(case side1=>exact qcs HR0_1.out HB.out);(case side2=>exact HC0_1.out);rintro e w8 ⟨rfl,hb⟩;refine ⟨_,rfl,?_⟩;replace BK14:=aM (bB BK14.out hb);replace HB:=aM (ag bw hb);(try clear hb);have hcz9_0:=cz BK14.out 0;have hcz9_1:=cz BK14.out 1;have hfz9_0:=af BK14.out 0;have hfz9_1:=af BK14.out 1)|(go_at_call 54;(with_reducible refine (dq.calls k _ _ l1 (l0_1.length:Int) t16 _ ?side1 ?side2 A5.out).mono ?_);(case side1=>exact qcs HR1.out HB.out);(case side2=>exact HC1.out);rintro e w10 ⟨rfl,hb⟩;replace BK14:=aM (bB BK14.out hb);replace HB:=aM (ag bw hb);(try clear hb)))
  go_ret
  exact ⟨eE,by exact bw⟩
 ·replace c4:=Bool.eq_false_iff.mpr c4;subst c4;rw [if_neg (show ¬ (false = true) by decide)] at H;obtain rfl:=Option.some.inj H;go_enter Tryz.func51,Tryz.ntmps51;go_wp2_with (first|((with_reducible refine aC (N:=2) rfl ?_);(try (refine bQ (by rfl) ?_;dsimp only));refine bE 2 #[.int .i64 a0_0,.slice A0_1 l0_1.length c0_1] 25 ?_;intro gb14 hg w11 hbox hb;have BK14:=aM (hbox);have GW14:=aM (gS hg);have GE14:=aM (gS hg);replace HB:=aM (ag bw hb);clear hb hbox hg;have hcz12_0:=cz BK14.out 0;have hcz12_1:=cz BK14.out 1;have hfz12_0:=af BK14.out 0;have hfz12_1:=af BK14.out 1)|((with_reducible refine ai (f:=50) rfl ?_);refine gL 6 Tryz.func50 #[.agg #[.int .i64 a0_0,.slice A0_1 l0_1.length c0_1]] ?_;(with_reducible refine (aH.calls k a0_0 _ _ l0_1 false _ ?side1 ?side2 A3.out).mono ?_);(case side1=>exact qcs HR0_1.out HB.out);(case side2=>exact HC0_1.out);rintro e w13 ⟨rfl,hb⟩;refine ⟨_,rfl,?_⟩;replace BK14:=aM (bB BK14.out hb);replace HB:=aM (ag bw hb);(try clear hb)))
  go_ret
  exact ⟨eE,by exact bw⟩


def cq.f (k:Nat) (a0_0:Int) (l0_1:List Int) (l1:List Int):Option (Bool × Bool):=(eD.f k a0_0 l0_1 l1).bind fun t2=>(if t2 = true then ((bK.f k l1).bind fun t3=>((a6.f k a0_0 l0_1 t3).bind fun t4=>(some (decide (t4 ≥ a0_0),true)))) else (some (false,false)))
def cq.T3:Bool × List (List Nat × List Nat):=(true,[([],[]),([],[]),([1],[1]),([0,2,2],[0,2]),([],[]),([4],[4]),([3,5],[3,5]),([6,3,0,1,2,3,4,5,6],[6]),([7,0,1,2,3,4,5,6,7],[])])
def cq.B3:List Nat:=[0,0,2,7,0,16,63,127,255]
theorem cq.tab3:il .any (opsOf Tryz.f20 3) = cq.T3:=by kernel_rfl
theorem cq.bits3:eZ cq.T3.2 cq.B3 = true:=by kernel_rfl
theorem cq.calls (k:Nat) (a0_0:Int) (A0_1:Option Addr) (c0_1:Nat) (l0_1:List Int) (A1:Option Addr) (c1:Nat) (l1:List Int) (r1:Bool) (r2:Bool) (w:World) (hr0_1:Kd.C (Kd.int .i64) w A0_1 l0_1.length l0_1) (hc0_1:l0_1.length ≤ c0_1) (hr1:Kd.C (Kd.int .i64) w A1 l1.length l1) (hc1:l1.length ≤ c1) (h:cq.f k a0_0 l0_1 l1 = some (r1,r2)) :
  Calls Tryz.prog 20 #[.agg #[.int .i64 a0_0,.slice A0_1 l0_1.length c0_1],.slice A1 l1.length c1] w fun e w'=>e = .returned (.tuple #[.bool r1,.bool r2]) ∧ Below w.heap.size w w':=by
 have hu25:=Tryz.underlying25;have HR0_1:=aM hr0_1;have HC0_1:=aM hc0_1;clear hr0_1 hc0_1;have HR1:=aM hr1;have HC1:=aM hc1;clear hr1 hc1;have HB:=aM (Below.refl w.heap.size w);have H:((eD.f k a0_0 l0_1 l1).bind fun t16=>(if t16 = true then ((bK.f k l1).bind fun t17=>((a6.f k a0_0 l0_1 t17).bind fun t18=>(some (decide (t18 ≥ a0_0),true)))) else (some (false,false)))) = some (r1,r2):=h;clear h;replace H:=oB H;obtain ⟨t16,A3,H⟩:=H;(try dsimp only at H)
 by_cases c4:t16 = true
 ·subst c4;rw [if_pos rfl] at H;replace H:=oB H;obtain ⟨t17,A5,H⟩:=H;(try dsimp only at H)
  replace H:=oB H;obtain ⟨t18,A6,H⟩:=H;(try dsimp only at H)
  simp only [Option.some.injEq,Prod.mk.injEq] at H;obtain ⟨rfl,rfl⟩:=H;go_enter Tryz.func20,Tryz.ntmps20
  try go_wp2_with (first|((with_reducible refine aC (N:=2) rfl ?_);refine bE 2 #[.int .i64 a0_0,.slice A0_1 l0_1.length c0_1] 25 ?_;intro gb15 hg w7 hbox hb;have BK15:=aM (hbox);have GW15:=aM (gS hg);have GE15:=aM (gS hg);replace HB:=aM (ag bw hb);clear hb hbox hg;have hcz8_0:=cz BK15.out 0;have hcz8_1:=cz BK15.out 1;have hfz8_0:=af BK15.out 0;have hfz8_1:=af BK15.out 1)|((with_reducible refine ai (f:=51) rfl ?_);refine gL 8 Tryz.func51 #[.agg #[.int .i64 a0_0,.slice A0_1 l0_1.length c0_1],.slice A1 l1.length c1] ?_;(with_reducible refine (eD.calls k a0_0 _ _ l0_1 _ _ l1 true _ ?side1 ?side2 ?side3 ?side4 A3.out).mono ?_);(case side1=>exact qcs HR0_1.out HB.out);(case side2=>exact HC0_1.out);(case side3=>exact qcs HR1.out HB.out);(case side4=>exact HC1.out);rintro e w9 ⟨rfl,hb⟩;refine ⟨_,rfl,?_⟩;replace BK15:=aM (bB BK15.out hb);replace HB:=aM (ag bw hb);(try clear hb)))
  replace BK15:=aM (an BK15.out);replace HB:=aM (bg HB.out);refine eQ (n:=9) (S:=fun w'=>w'.cell? ⟨gb15,0,none⟩ = some (.int .i64 a0_0) ∧ w'.cell? ⟨gb15,1,none⟩ = some (.slice A0_1 l0_1.length c0_1)) (ds:=[]) (mA 9 0) kR rfl rfl ⟨(aE BK15.out 0).trans rfl,(aE BK15.out 1).trans rfl⟩ (fun hHeld=>?_);refine dx cq.tab3 cq.bits3 (fun HT_ HW_=>?_)
  generalize w9.drew = w10 at BK15 HB hHeld ⊢
  refine pT 1 11 HT_.out ?_;refine pT 4 14 HT_.out ?_;refine pK 0 10 HT_.out HW_.out hHeld ?_;refine pK 5 15 HT_.out HW_.out hHeld ?_;refine oN 2 (some 12) HT_.out fun K hK=>?_
  refine gC Tryz.func53 #[.slice A1 l1.length c1] ?_
  with_reducible refine (bK.calls k _ _ l1 t17 _ ?side1 ?side2 A5.out).mono ?_
  (case side1=>exact qcs HR1.out HB.out)
  (case side2=>exact HC1.out)
  rintro e w' ⟨rfl,⟨nd,rfl⟩⟩
  refine ⟨_,rfl,?_⟩;refine hK.out _ _ ⟨(aE BK15.out 0).trans rfl,(aE BK15.out 1).trans rfl⟩ (fun hHeld=>?_);clear hK K;refine nM 12 ?_;refine oN 3 (some 13) HT_.out fun K hK=>?_
  refine gC Tryz.func52 #[.agg #[.int .i64 a0_0,.slice A0_1 l0_1.length c0_1],.int .i64 t17] ?_
  with_reducible refine (a6.calls k a0_0 _ _ l0_1 t17 t18 _ ?side1 ?side2 A6.out).mono ?_
  (case side1=>exact qc (Kd.cA HR0_1.out bw))
  (case side2=>exact HC0_1.out)
  rintro e w11 ⟨rfl,hb⟩
  refine ⟨_,rfl,?_⟩;replace BK15:=aM (bB BK15.out hb);replace HB:=aM (ag bw hb);(try clear hb)
  refine hK.out _ _ ⟨(aE BK15.out 0).trans rfl,(aE BK15.out 1).trans rfl⟩ (fun hHeld=>?_);clear hK K;refine nM 13 ?_;refine pT 6 16 HT_.out ?_;refine pT 7 4 HT_.out ?_;refine pT 8 5 HT_.out ?_;refine fK (eA HT_.out kR) ?_
  try go_wp2
  go_ret2
  exact ⟨eE,by exact bw⟩
 ·replace c4:=Bool.eq_false_iff.mpr c4;subst c4;rw [if_neg (show ¬ (false = true) by decide)] at H;simp only [Option.some.injEq,Prod.mk.injEq] at H;obtain ⟨rfl,rfl⟩:=H;go_enter Tryz.func20,Tryz.ntmps20;go_wp2_with (first|((with_reducible refine aC (N:=2) rfl ?_);refine bE 2 #[.int .i64 a0_0,.slice A0_1 l0_1.length c0_1] 25 ?_;intro gb15 hg w12 hbox hb;have BK15:=aM (hbox);have GW15:=aM (gS hg);have GE15:=aM (gS hg);replace HB:=aM (ag bw hb);clear hb hbox hg;have hcz13_0:=cz BK15.out 0;have hcz13_1:=cz BK15.out 1;have hfz13_0:=af BK15.out 0;have hfz13_1:=af BK15.out 1)|((with_reducible refine ai (f:=51) rfl ?_);refine gL 8 Tryz.func51 #[.agg #[.int .i64 a0_0,.slice A0_1 l0_1.length c0_1],.slice A1 l1.length c1] ?_;(with_reducible refine (eD.calls k a0_0 _ _ l0_1 _ _ l1 false _ ?side1 ?side2 ?side3 ?side4 A3.out).mono ?_);(case side1=>exact qcs HR0_1.out HB.out);(case side2=>exact HC0_1.out);(case side3=>exact qcs HR1.out HB.out);(case side4=>exact HC1.out);rintro e w14 ⟨rfl,hb⟩;refine ⟨_,rfl,?_⟩;replace BK15:=aM (bB BK15.out hb);replace HB:=aM (ag bw hb);(try clear hb)))
  go_ret2
  exact ⟨eE,by exact bw⟩


def aU.l0:Nat → List (List Int) → (List Int → Option (Bool)) → Int → Int → Option (Int)
 | 0,_,_,_,_=>none
 | k + 1,x0,x1,x7,x8=>if x8 < x7 then (if 0 ≤ x8 then (if x8 < (x0.length:Int) then ((x1 (eR x0 x8)).bind fun t2=>(if t2 = true then (some x8) else (aU.l0 k x0 x1 x7 (wrap64 (x8 + 1))))) else (none)) else (none)) else (some (-1))
def aU.f (k:Nat) (l0:List (List Int)) (a1:(List Int → Option (Bool))):Option (Int):=aU.l0 k l0 a1 (l0.length:Int) 0
theorem aU.calls (k:Nat) (A0:Option Addr) (c0:Nat) (l0:List (List Int)) (a1:(List Int → Option (Bool))) (g1_:Nat) (lb1_:Array Value) (eg1_:∀ (args:Array Value) (w:World),(callFunc g1_ args).run Tryz.prog w = .ok (.enter g1_ args) w) (r:Int) (w:World) (hr0:Kd.C (Kd.slice 3 (Kd.int .i64)) w A0 l0.length l0) (hc0:l0.length ≤ c0) (hp1:∀ (W:World) (A0_:Option Addr) (c0_:Nat) (l0_:List Int) (r0_:Bool),a1 l0_ = some r0_ → Below w.heap.size w W → Kd.C (Kd.int .i64) W A0_ l0_.length l0_ → l0_.length ≤ c0_ → Calls Tryz.prog g1_ (#[.slice A0_ l0_.length c0_] ++ lb1_) W fun e w'=>e = .returned (.bool r0_) ∧ Below W.heap.size W w') (h:aU.f k l0 a1 = some r) :
  Calls Tryz.prog 104 #[.slice A0 l0.length c0,.func (.func g1_) #[] lb1_] w fun e w'=>e = .returned (.int .i64 r) ∧ Below w.heap.size w w':=by
 have HR0:=aM hr0;have HC0:=aM hc0;clear hr0 hc0;have HP1:=aM hp1;clear hp1;have HB:=aM (Below.refl w.heap.size w);have H:(aU.l0 k l0 a1 (l0.length:Int) 0) = some r:=h;clear h;have H':=aM H;clear H;go_enter Tryz.func104,Tryz.ntmps104;go_wp2
 go_loopg [8] k (fun kq v8 w'=>∃ (x8_1:Int),v8 = .int .i64 x8_1 ∧ aj (aU.l0 kq l0 a1 (l0.length:Int) x8_1 = some r) ∧ aj (kq ≤ k) ∧ aj (Below w.heap.size w w'))
 case atStart=>exact ⟨(0),qrs,H',⟨Nat.le_refl _⟩,⟨by exact bw⟩⟩
 case round =>
  clear H';obtain ⟨x8_1,rfl,HA,HK1,HB⟩:=hrel
  cases gk with
  | zero=>exact absurd HA.out (by simp [aU.l0])
  | succ k1 =>
   have H:=HA.out;clear HA;simp only [aU.l0] at H;by_cases c3:x8_1 < (l0.length:Int)
   ·rw [if_pos c3] at H;have c3b0:=decide_eq_true c3;clear c3;replace H:=iN H;obtain ⟨c4,H⟩:=H;have c4b0:decide (0 ≤ x8_1) = true:=decide_eq_true c4;clear c4;replace H:=iN H;obtain ⟨c5,H⟩:=H;have c5b0:decide (x8_1 < (l0.length:Int)) = true:=decide_eq_true c5;clear c5;replace H:=oB H;obtain ⟨t11,A6,H⟩:=H;(try dsimp only at H)
    by_cases c7:t11 = true
    ·subst c7;rw [if_pos rfl] at H;obtain rfl:=Option.some.inj H;have p10:0 ≤ (x8_1:Int):=of_decide_eq_true ab;have q10:x8_1 < (l0.length:Int):=of_decide_eq_true ab;obtain ⟨ad10,A10_0,c485_0,e10,hx10_0,hl10_0,hi10_0⟩:=jH HR0.out x8_1 p10 q10;cases e10
     replace hx10_0:=(HB.out.cell (World.block_lt_of_cell? w _ hx10_0)).trans hx10_0;have HR10_0:=aM hi10_0;have HC10_0:=aM hl10_0;clear hi10_0 hl10_0;replace p10:=eq_true p10;replace q10:=eq_true q10;go_wp2_with (first|((with_reducible refine gu (t:=11) rfl ?_);refine gJ (some 16) rfl rfl eg1_ #[.slice A10_0 (eR l0 x8_1).length c485_0] rfl rfl mq ?_;(with_reducible refine (HP1.out _ _ _ (eR l0 x8_1) true A6.out ?side1 ?side2 ?side3).mono ?_);(case side1=>exact bw);(case side2=>exact qcs HR10_0.out HB.out);(case side3=>exact HC10_0.out);rintro e w8 ⟨rfl,hb⟩;refine ⟨_,rfl,?_⟩;replace HB:=aM (ag bw hb);(try clear hb)))
     go_ret
     exact ⟨eE,by exact bw⟩
    ·replace c7:=Bool.eq_false_iff.mpr c7;subst c7;rw [if_neg (show ¬ (false = true) by decide)] at H;have H':=aM H;clear H;have p10:0 ≤ (x8_1:Int):=of_decide_eq_true ab;have q10:x8_1 < (l0.length:Int):=of_decide_eq_true ab;obtain ⟨ad10,A10_0,c485_0,e10,hx10_0,hl10_0,hi10_0⟩:=jH HR0.out x8_1 p10 q10;cases e10
     replace hx10_0:=(HB.out.cell (World.block_lt_of_cell? w _ hx10_0)).trans hx10_0;have HR10_0:=aM hi10_0;have HC10_0:=aM hl10_0;clear hi10_0 hl10_0;replace p10:=eq_true p10;replace q10:=eq_true q10;go_wp2_with (first|((with_reducible refine gu (t:=11) rfl ?_);refine gJ (some 16) rfl rfl eg1_ #[.slice A10_0 (eR l0 x8_1).length c485_0] rfl rfl mq ?_;(with_reducible refine (HP1.out _ _ _ (eR l0 x8_1) false A6.out ?side1 ?side2 ?side3).mono ?_);(case side1=>exact bw);(case side2=>exact qcs HR10_0.out HB.out);(case side3=>exact HC10_0.out);rintro e w9 ⟨rfl,hb⟩;refine ⟨_,rfl,?_⟩;replace HB:=aM (ag bw hb);(try clear hb)))
     go_roundg k1
     case measure=>have:=HK1.out;omega
     case rel=>exact ⟨(wrap64 (x8_1 + 1)),qrs,H',⟨by have:=HK1.out;omega⟩,⟨by exact bw⟩⟩
   ·rw [if_neg c3] at H;have c3b0:=decide_eq_false c3;clear c3;obtain rfl:=Option.some.inj H;go_wp2
    go_ret
    exact ⟨eE,by exact bw⟩


def b6.f (k:Nat) (l0:List (List Int)) (a1:(List Int → Option (Bool))):Option (Bool):=(aU.f k l0 a1).bind fun t2=>(some (decide (t2 ≥ 0)))
theorem b6.calls (k:Nat) (A0:Option Addr) (c0:Nat) (l0:List (List Int)) (a1:(List Int → Option (Bool))) (g1_:Nat) (lb1_:Array Value) (eg1_:∀ (args:Array Value) (w:World),(callFunc g1_ args).run Tryz.prog w = .ok (.enter g1_ args) w) (r:Bool) (w:World) (hr0:Kd.C (Kd.slice 3 (Kd.int .i64)) w A0 l0.length l0) (hc0:l0.length ≤ c0) (hp1:∀ (W:World) (A0_:Option Addr) (c0_:Nat) (l0_:List Int) (r0_:Bool),a1 l0_ = some r0_ → Below w.heap.size w W → Kd.C (Kd.int .i64) W A0_ l0_.length l0_ → l0_.length ≤ c0_ → Calls Tryz.prog g1_ (#[.slice A0_ l0_.length c0_] ++ lb1_) W fun e w'=>e = .returned (.bool r0_) ∧ Below W.heap.size W w') (h:b6.f k l0 a1 = some r) :
  Calls Tryz.prog 84 #[.slice A0 l0.length c0,.func (.func g1_) #[] lb1_] w fun e w'=>e = .returned (.bool r) ∧ Below w.heap.size w w':=by
 have HR0:=aM hr0;have HC0:=aM hc0;clear hr0 hc0;have HP1:=aM hp1;clear hp1;have HB:=aM (Below.refl w.heap.size w);have H:((aU.f k l0 a1).bind fun t5=>(some (decide (t5 ≥ 0)))) = some r:=h;clear h;replace H:=oB H;obtain ⟨t5,A3,H⟩:=H;(try dsimp only at H)
 obtain rfl:=Option.some.inj H;go_enter Tryz.func84,Tryz.ntmps84;go_wp2_with (first|((with_reducible refine ai (f:=104) rfl ?_);refine gL 7 Tryz.func104 #[.slice A0 l0.length c0,.func (.func g1_) #[] lb1_] ?_;(with_reducible refine (aU.calls k _ _ l0 a1 g1_ lb1_ eg1_ t5 _ ?side1 ?side2 ?side3 A3.out).mono ?_);(case side1=>exact qc HR0.out);(case side2=>exact HC0.out);(case side3=>exact (fun W_ A0_ c0_ l0_ r0_ hx_ hb_ hr0_ hc0_=>HP1.out W_ A0_ c0_ l0_ r0_ hx_ (ag bw hb_) hr0_ hc0_));rintro e w4 ⟨rfl,hb⟩;refine ⟨_,rfl,?_⟩;replace HB:=aM (ag bw hb);(try clear hb)))
 go_ret
 exact ⟨eE,by exact bw⟩


def dQ.f (k:Nat) (l0:List Int) (a1:Int):Option (Bool):=if (l0.length:Int) = 0 then (some true) else ((dq.f k l0 a1).bind fun t2=>(some (!t2)))
theorem dQ.calls (k:Nat) (A0:Option Addr) (c0:Nat) (l0:List Int) (gc1:Nat) (a1:Int) (r:Bool) (w:World) (hr0:Kd.C (Kd.int .i64) w A0 l0.length l0) (hc0:l0.length ≤ c0) (hb1:w.heap[gc1]? = some (.cells #[.int .i64 a1] 3 (0,0))) (h:dQ.f k l0 a1 = some r) :
  Calls Tryz.prog 85 #[.slice A0 l0.length c0,.pointer (some ⟨gc1,0,none⟩)] w fun e w'=>e = .returned (.bool r) ∧ Below w.heap.size w w':=by
 have HR0:=aM hr0;have HC0:=aM hc0;clear hr0 hc0;have BK1:=aM hb1;clear hb1;have HB:=aM (Below.refl w.heap.size w);have H:(if (l0.length:Int) = 0 then (some true) else ((dq.f k l0 a1).bind fun t7=>(some (!t7)))) = some r:=h;clear h;by_cases c3:(l0.length:Int) = 0
 ·rw [if_pos c3] at H;have c3b0:((l0.length:Int) == 0) = true:=beq_iff_eq.mpr c3;have c3b1:((l0.length:Int) != 0) = false:=bne_eq_false_iff_eq.mpr c3;clear c3;obtain rfl:=Option.some.inj H;go_enter Tryz.func85,Tryz.ntmps85;go_wp2
  go_ret
  exact ⟨eE,by exact bw⟩
 ·rw [if_neg c3] at H;have c3b0:((l0.length:Int) == 0) = false:=beq_eq_false_iff_ne.mpr c3;have c3b1:((l0.length:Int) != 0) = true:=bne_iff_ne.mpr c3;have c3b2:¬ (l0 = []):=fun h_=>c3 (by rw [h_];rfl)
  replace H:=oB H;obtain ⟨t7,A4,H⟩:=H;(try dsimp only at H)
  obtain rfl:=Option.some.inj H;have hcz5_0:=cz BK1.out 0;have hfz5_0:=af BK1.out 0;go_enter Tryz.func85,Tryz.ntmps85;go_wp2_with (first|(go_at_call 54;(with_reducible refine (dq.calls k _ _ l0 a1 t7 _ ?side1 ?side2 A4.out).mono ?_);(case side1=>exact qc HR0.out);(case side2=>exact HC0.out);rintro e w6 ⟨rfl,hb⟩;replace BK1:=aM (bB BK1.out hb);replace HB:=aM (ag bw hb);(try clear hb)))
  go_ret
  exact ⟨eE,by exact bw⟩
theorem dQ.enters:∀ (args:Array Value) (w:World),(callFunc 85 args).run Tryz.prog w = .ok (.enter 85 args) w:=enters_of Tryz.func85 kR rfl


def eM.f (k:Nat) (l0:List (List Int)) (a1:Int):Option (Bool):=(b6.f k l0 (fun y0_=>dQ.f k y0_ a1)).bind fun t2=>(some (!t2))
theorem eM.calls (k:Nat) (A0:Option Addr) (c0:Nat) (l0:List (List Int)) (a1:Int) (r:Bool) (w:World) (hr0:Kd.C (Kd.slice 3 (Kd.int .i64)) w A0 l0.length l0) (hc0:l0.length ≤ c0) (h:eM.f k l0 a1 = some r) :
  Calls Tryz.prog 56 #[.slice A0 l0.length c0,.int .i64 a1] w fun e w'=>e = .returned (.bool r) ∧ Below w.heap.size w w':=by
 have hmf:∀ (fn:Fn) (first cap:Array Value) (w:World),(Instr.makeFunc fn first cap).run Tryz.prog w = .ok (.func fn first cap) w:=fun _ _ _ _=>rfl
 have HR0:=aM hr0;have HC0:=aM hc0;clear hr0 hc0;have HB:=aM (Below.refl w.heap.size w);have H:((b6.f k l0 (fun y0_=>dQ.f k y0_ a1)).bind fun t7=>(some (!t7))) = some r:=h;clear h;replace H:=oB H;obtain ⟨t7,A3,H⟩:=H;(try dsimp only at H)
 obtain rfl:=Option.some.inj H;go_enter Tryz.func56,Tryz.ntmps56;go_wp2_with (first|((with_reducible refine aC (N:=3) rfl ?_);refine bE 3 #[.int .i64 a1] 3 ?_;intro gb6 hg w4 hbox hb;have BK6:=aM (hbox);have GW6:=aM (gS hg);have GE6:=aM (gS hg);replace HB:=aM (ag bw hb);clear hb hbox hg)|((with_reducible refine ai (f:=84) rfl ?_);refine gL 7 Tryz.func84 #[.slice A0 l0.length c0,.func (.func 85) #[] #[.pointer (some ⟨gb6,0,none⟩)]] ?_;(with_reducible refine (b6.calls k _ _ l0 (fun y0_=>dQ.f k y0_ a1) 85 #[.pointer (some ⟨gb6,0,none⟩)] dQ.enters t7 _ ?side1 ?side2 ?side3 A3.out).mono ?_);(case side1=>exact qcs HR0.out HB.out);(case side2=>exact HC0.out);(case side3=>exact (fun W_ A0_ c0_ l0_ r0_ hx_ hb_ hr0_ hc0_=>(dQ.calls k A0_ c0_ l0_ gb6 a1 r0_ W_ hr0_ hc0_ (ej (bk1 BK6.out) hb_) hx_).mono (fun _ _ h_=>h_)));rintro e w5 ⟨rfl,hb⟩;refine ⟨_,rfl,?_⟩;replace BK6:=aM (bB BK6.out hb);replace HB:=aM (ag bw hb);(try clear hb)))
 go_ret
 exact ⟨eE,by exact bw⟩


mutual
def aK.j0:Nat → Bool → Int → List (List Int) → Option (Bool)
 | 0,_,_,_=>none
 | k + 1,x24,x9,x10=>if x24 = true then (some false) else (aK.l0 k x10 (x10.length:Int) 0 x9 x10)
def aK.l0:Nat → List (List Int) → Int → Int → Int → List (List Int) → Option (Bool)
 | 0,_,_,_,_,_=>none
 | k + 1,x26,x27,x28,x9,x10=>if x28 < x27 then (if 0 ≤ x28 then (if x28 < (x26.length:Int) then (if x28 > 0 then (if 0 ≤ (wrap64 (x28 - 1)) then (if (wrap64 (x28 - 1)) < (x10.length:Int) then ((aN.f k (eR x10 (wrap64 (x28 - 1))) (eR x26 x28)).bind fun t5=>(aK.j2 k x28 (eR x26 x28) x26 x27 x28 (decide (t5 ≥ 0)) x9 x10)) else (none)) else (none)) else (aK.j2 k x28 (eR x26 x28) x26 x27 x28 false x9 x10)) else (none)) else (none)) else (some true)
def aK.j2:Nat → Int → List Int → List (List Int) → Int → Int → Bool → Int → List (List Int) → Option (Bool)
 | 0,_,_,_,_,_,_,_,_=>none
 | k + 1,x3,x4,x26,x27,x28,x45,x9,x10=>if x45 = true then (some false) else (aK.l1 k x3 x4 x26 x27 x28 x10 (x10.length:Int) 0 x9 x10)
def aK.l1:Nat → Int → List Int → List (List Int) → Int → Int → List (List Int) → Int → Int → Int → List (List Int) → Option (Bool)
 | 0,_,_,_,_,_,_,_,_,_,_=>none
 | k + 1,x3,x4,x26,x27,x28,x47,x48,x49,x9,x10=>if x49 < x48 then (if 0 ≤ x49 then (if x49 < (x47.length:Int) then (if x49 = x3 then (aK.l1 k x3 x4 x26 x27 x28 x47 x48 (wrap64 (x49 + 1)) x9 x10) else ((bK.f k x4).bind fun t6=>((bK.f k (eR x47 x49)).bind fun t7=>((bK.f k (eR x47 x49)).bind fun t8=>(if (Go.bits .and .i64 t6 t7) = t8 then (some false) else (aK.l1 k x3 x4 x26 x27 x28 x47 x48 (wrap64 (x49 + 1)) x9 x10)))))) else (none)) else (none)) else (aK.l0 k x26 x27 (wrap64 (x28 + 1)) x9 x10)
end
def aK.f (k:Nat) (a0_0:Int) (l0_1:List (List Int)):Option (Bool):=(b4.f a0_0 1 9).bind fun t2=>(if t2 = true then (if (l0_1.length:Int) = 0 then (aK.j0 k true a0_0 l0_1) else ((eM.f k l0_1 a0_0).bind fun t3=>(aK.j0 k (!t3) a0_0 l0_1))) else (aK.j0 k true a0_0 l0_1))
theorem aK.calls (k:Nat) (a0_0:Int) (A0_1:Option Addr) (c0_1:Nat) (l0_1:List (List Int)) (r:Bool) (w:World) (hr0_1:Kd.C (Kd.slice 3 (Kd.int .i64)) w A0_1 l0_1.length l0_1) (hc0_1:l0_1.length ≤ c0_1) (h:aK.f k a0_0 l0_1 = some r) :
  Calls Tryz.prog 22 #[.agg #[.int .i64 a0_0,.slice A0_1 l0_1.length c0_1]] w fun e w'=>e = .returned (.bool r) ∧ Below w.heap.size w w':=by
 have hu30:=Tryz.underlying30;have HR0_1:=aM hr0_1;have HC0_1:=aM hc0_1;clear hr0_1 hc0_1;have HB:=aM (Below.refl w.heap.size w);have H:((b4.f a0_0 1 9).bind fun t35=>(if t35 = true then (if (l0_1.length:Int) = 0 then (aK.j0 k true a0_0 l0_1) else ((eM.f k l0_1 a0_0).bind fun t36=>(aK.j0 k (!t36) a0_0 l0_1))) else (aK.j0 k true a0_0 l0_1))) = some r:=h;clear h;have HC2:=aM H;clear H;go_enter Tryz.func22,Tryz.ntmps22;go_upto_region 1 with (first|((with_reducible refine aC (N:=1) rfl ?_);(try (refine bQ (by rfl) ?_;dsimp only));refine bE 1 #[.int .i64 a0_0,.slice A0_1 l0_1.length c0_1] 30 ?_;intro gb34 hg w3 hbox hb;have BK34:=aM (hbox);have GW34:=aM (gS hg);have GE34:=aM (gS hg);replace HB:=aM (ag bw hb);clear hb hbox hg))
 (try simp only [Act.put,sA,sZ,sS])
 go_cut [24] (fun v24 wc=>∃ (kq:Nat) (x24_1:Bool),v24 = .bool x24_1 ∧ aj (aK.j0 kq x24_1 a0_0 l0_1 = some r) ∧ aj (kq ≤ k) ∧ aj (wc.heap[gb34]? = some (.cells #[.int .i64 a0_0,(.slice A0_1 l0_1.length c0_1)] 30 (0,0))) ∧ aj (Below w.heap.size w wc))
 case first =>
  have H:=HC2.out;clear HC2;replace H:=oB H;obtain ⟨t35,A4,H⟩:=H;(try dsimp only at H)
  by_cases c5:t35 = true
  ·subst c5;rw [if_pos rfl] at H;by_cases c6:(l0_1.length:Int) = 0
   ·rw [if_pos c6] at H;have c6b0:((l0_1.length:Int) == 0) = true:=beq_iff_eq.mpr c6;have c6b1:((l0_1.length:Int) != 0) = false:=bne_eq_false_iff_eq.mpr c6;clear c6;(first|rw [c6b0]|(simp only [cS,dH];rw [c6b0])|skip)
    have H':=aM H;clear H;have hcz7_0:=cz BK34.out 0;have hcz7_1:=cz BK34.out 1;have hfz7_0:=af BK34.out 0;have hfz7_1:=af BK34.out 1;go_wp2_with (first|((with_reducible refine ai (f:=47) rfl ?_);refine gL 9 Tryz.func47 #[.int .i64 a0_0,.int .i64 1,.int .i64 9] ?_;(with_reducible refine (b4.calls a0_0 1 9 true _ A4.out).mono ?_);rintro e w' ⟨rfl,⟨nd,rfl⟩⟩;refine ⟨_,rfl,?_⟩))
    go_meet
    case rel=>exact ⟨_,(true),qrs,H',⟨by first|omega|exact Nat.le_refl _⟩,⟨bk1 BK34.out⟩,⟨by exact bw⟩⟩
   ·rw [if_neg c6] at H;have c6b0:((l0_1.length:Int) == 0) = false:=beq_eq_false_iff_ne.mpr c6;have c6b1:((l0_1.length:Int) != 0) = true:=bne_iff_ne.mpr c6;have c6b2:¬ (l0_1 = []):=fun h_=>c6 (by rw [h_];rfl)
    (first|rw [c6b0]|(simp only [cS,dH];rw [c6b0])|skip)
    replace H:=oB H;obtain ⟨t36,A8,H⟩:=H;(try dsimp only at H)
    have H':=aM H;clear H;have hcz9_0:=cz BK34.out 0;have hcz9_1:=cz BK34.out 1;have hfz9_0:=af BK34.out 0;have hfz9_1:=af BK34.out 1;go_wp2_with (first|((with_reducible refine ai (f:=47) rfl ?_);refine gL 9 Tryz.func47 #[.int .i64 a0_0,.int .i64 1,.int .i64 9] ?_;(with_reducible refine (b4.calls a0_0 1 9 true _ A4.out).mono ?_);rintro e w' ⟨rfl,⟨nd,rfl⟩⟩;refine ⟨_,rfl,?_⟩)|(go_at_call 56;(with_reducible refine (eM.calls k _ _ l0_1 a0_0 t36 _ ?side1 ?side2 A8.out).mono ?_);(case side1=>exact qc (Kd.cA HR0_1.out bw));(case side2=>exact HC0_1.out);rintro e w10 ⟨rfl,hb⟩;replace BK34:=aM (bB BK34.out hb);replace HB:=aM (ag bw hb);(try clear hb)))
    go_meet
    case rel=>exact ⟨_,(!t36),qrs,H',⟨by first|omega|exact Nat.le_refl _⟩,⟨bk1 BK34.out⟩,⟨by exact bw⟩⟩
  ·replace c5:=Bool.eq_false_iff.mpr c5;subst c5;rw [if_neg (show ¬ (false = true) by decide)] at H;have H':=aM H;clear H;have hcz11_0:=cz BK34.out 0;have hcz11_1:=cz BK34.out 1;have hfz11_0:=af BK34.out 0;have hfz11_1:=af BK34.out 1;go_wp2_with (first|((with_reducible refine ai (f:=47) rfl ?_);refine gL 9 Tryz.func47 #[.int .i64 a0_0,.int .i64 1,.int .i64 9] ?_;(with_reducible refine (b4.calls a0_0 1 9 false _ A4.out).mono ?_);rintro e w' ⟨rfl,⟨nd,rfl⟩⟩;refine ⟨_,rfl,?_⟩))
   go_meet
   case rel=>exact ⟨_,(true),qrs,H',⟨by first|omega|exact Nat.le_refl _⟩,⟨bk1 BK34.out⟩,⟨by exact bw⟩⟩
 case rest =>
  clear HC2;(try clear c5);(try clear c6);(try clear c6b0);(try clear c6b1);(try clear c6b2);(try clear hcz11_0);(try clear hcz11_1);(try clear hcz7_0);(try clear hcz7_1);(try clear hcz9_0);(try clear hcz9_1);(try clear hfz11_0);(try clear hfz11_1);(try clear hfz7_0);(try clear hfz7_1);(try clear hfz9_0);(try clear hfz9_1)
  obtain ⟨kq,x24_1,rfl,HA,HJ1,BK34,HB⟩:=hcut
  cases kq with
  | zero=>exact absurd HA.out (by simp [aK.j0])
  | succ kj1 =>
   have H:=HA.out;clear HA;simp only [aK.j0] at H;by_cases c12:x24_1 = true
   ·subst c12;rw [if_pos rfl] at H;obtain rfl:=Option.some.inj H;go_wp2
    go_ret
    exact ⟨eE,by exact bw⟩
   ·replace c12:=Bool.eq_false_iff.mpr c12;subst c12;rw [if_neg (show ¬ (false = true) by decide)] at H;have H':=aM H;clear H;have hcz13_0:=cz BK34.out 0;have hcz13_1:=cz BK34.out 1;have hfz13_0:=af BK34.out 0;have hfz13_1:=af BK34.out 1;go_wp2
    go_loopg [28] kj1 (fun kq v28 w'=>∃ (x28_2:Int),v28 = .int .i64 x28_2 ∧ aj (aK.l0 kq l0_1 (l0_1.length:Int) x28_2 a0_0 l0_1 = some r) ∧ aj (kq ≤ kj1) ∧ aj (w'.heap[gb34]? = some (.cells #[.int .i64 a0_0,(.slice A0_1 l0_1.length c0_1)] 30 (0,0))) ∧ aj (Below w.heap.size w w'))
    case atStart=>exact ⟨(0),qrs,H',⟨Nat.le_refl _⟩,⟨bk1 BK34.out⟩,⟨by exact bw⟩⟩
    case round =>
     clear H';(try clear c12);(try clear hcz13_0);(try clear hcz13_1);(try clear hfz13_0);(try clear hfz13_1)
     obtain ⟨x28_2,rfl,HA,HK2,BK34,HB⟩:=hrel
     cases gk with
     | zero=>exact absurd HA.out (by simp [aK.l0])
     | succ k2 =>
      have H:=HA.out;clear HA;simp only [aK.l0] at H;by_cases c14:x28_2 < (l0_1.length:Int)
      ·rw [if_pos c14] at H;have c14b0:=decide_eq_true c14;clear c14;replace H:=iN H;obtain ⟨c15,H⟩:=H;have c15b0:decide (0 ≤ x28_2) = true:=decide_eq_true c15;clear c15;replace H:=iN H;obtain ⟨c16,H⟩:=H;have c16b0:decide (x28_2 < (l0_1.length:Int)) = true:=decide_eq_true c16;clear c16;have HC17:=aM H;clear H;have p37:0 ≤ (x28_2:Int):=of_decide_eq_true ab;have q37:x28_2 < (l0_1.length:Int):=of_decide_eq_true ab;obtain ⟨ad37,A37_0,c494_0,e37,hx37_0,hl37_0,hi37_0⟩:=jH HR0_1.out x28_2 p37 q37;cases e37
       replace hx37_0:=(HB.out.cell (World.block_lt_of_cell? w _ hx37_0)).trans hx37_0;have HR37_0:=aM hi37_0;have HC37_0:=aM hl37_0;clear hi37_0 hl37_0;replace p37:=eq_true p37;replace q37:=eq_true q37;go_upto_region 6 with (fail)
       go_cut [45] (fun v45 wc=>∃ (kq:Nat) (x45_16:Bool),v45 = .bool x45_16 ∧ aj (aK.j2 kq x28_2 (eR l0_1 x28_2) l0_1 (l0_1.length:Int) x28_2 x45_16 a0_0 l0_1 = some r) ∧ aj (kq ≤ k2) ∧ aj (wc.heap[gb34]? = some (.cells #[.int .i64 a0_0,(.slice (some ad37) l0_1.length c0_1)] 30 (0,0))) ∧ aj (Below w.heap.size w wc))
       case first =>
        have H:=HC17.out;clear HC17;by_cases c18:x28_2 > 0
        ·rw [if_pos c18] at H;have c18b0:decide (0 < x28_2) = true:=decide_eq_true c18;clear c18;(first|rw [c18b0]|(simp only [cS,dH];rw [c18b0])|skip)
         obtain ⟨ji19,hji19⟩:∃ j_:Int,(wrap64 (x28_2 - 1)) = j_:=⟨_,rfl⟩;(first|rw [hji19] at H|simp only [hji19] at H)
         have hji19w:(IntKind.i64.wrap (x28_2 - 1)) = ji19:=(cS _).trans hji19;replace H:=iN H;obtain ⟨c20,H⟩:=H;have c20b0:decide (0 ≤ (ji19)) = true:=decide_eq_true c20;clear c20;replace H:=iN H;obtain ⟨c21,H⟩:=H;have c21b0:decide ((ji19) < (l0_1.length:Int)) = true:=decide_eq_true c21;clear c21;replace H:=oB H;obtain ⟨t39,A22,H⟩:=H;(try dsimp only at H)
         have H':=aM H;clear H;have hcz23_0:=cz BK34.out 0;have hcz23_1:=cz BK34.out 1;have hfz23_0:=af BK34.out 0;have hfz23_1:=af BK34.out 1;have p38:0 ≤ ((ji19):Int):=of_decide_eq_true ab;have q38:(ji19) < (l0_1.length:Int):=of_decide_eq_true ab;obtain ⟨ad38,A38_0,c495_0,e38,hx38_0,hl38_0,hi38_0⟩:=jH HR0_1.out (ji19) p38 q38;obtain rfl:ad37 = ad38:=(by injection e38);replace hx38_0:=(HB.out.cell (World.block_lt_of_cell? w _ hx38_0)).trans hx38_0;have HR38_0:=aM hi38_0;have HC38_0:=aM hl38_0;clear hi38_0 hl38_0;replace p38:=eq_true p38;replace q38:=eq_true q38;go_wp2_with (first|(go_at_call 57;(with_reducible refine (aN.calls k2 _ _ (eR l0_1 (ji19)) _ _ (eR l0_1 x28_2) t39 _ ?side1 ?side2 ?side3 ?side4 A22.out).mono ?_);(case side1=>exact qcs HR38_0.out HB.out);(case side2=>exact HC38_0.out);(case side3=>exact qcs HR37_0.out HB.out);(case side4=>exact HC37_0.out);rintro e w' ⟨rfl,⟨nd,rfl⟩⟩))
         go_meet
         case rel=>exact ⟨_,(decide (t39 ≥ 0)),qrs,H',⟨by have:=HJ1.out;have:=HK2.out;first|omega|exact Nat.le_refl _⟩,⟨bk1 BK34.out⟩,⟨by exact bw⟩⟩
        ·rw [if_neg c18] at H;have c18b0:decide (0 < x28_2) = false:=decide_eq_false c18;clear c18;(first|rw [c18b0]|(simp only [cS,dH];rw [c18b0])|skip)
         have H':=aM H;clear H;go_wp2
         go_meet
         case rel=>exact ⟨_,(false),qrs,H',⟨by have:=HJ1.out;have:=HK2.out;first|omega|exact Nat.le_refl _⟩,⟨bk1 BK34.out⟩,⟨by exact bw⟩⟩
       case rest =>
        clear HC17;(try clear c14);(try clear c14b0);(try clear c15);(try clear c15b0);(try clear c16);(try clear c16b0);(try clear c18);(try clear c18b0);(try clear c20);(try clear c20b0);(try clear c21);(try clear c21b0);(try clear hcz23_0);(try clear hcz23_1);(try clear hfz23_0);(try clear hfz23_1);(try clear hx37_0);(try clear hx38_0);(try clear p37);(try clear p38);(try clear q37);(try clear q38)
        obtain ⟨kq,x45_16,rfl,HA,HJ16,BK34,HB⟩:=hcut
        cases kq with
        | zero=>exact absurd HA.out (by simp [aK.j2])
        | succ kj16 =>
         have H:=HA.out;clear HA;simp only [aK.j2] at H;by_cases c24:x45_16 = true
         ·subst c24;rw [if_pos rfl] at H;obtain rfl:=Option.some.inj H;go_wp2
          go_ret
          exact ⟨eE,by exact bw⟩
         ·replace c24:=Bool.eq_false_iff.mpr c24;subst c24;rw [if_neg (show ¬ (false = true) by decide)] at H;have H':=aM H;clear H;have hcz25_0:=cz BK34.out 0;have hcz25_1:=cz BK34.out 1;have hfz25_0:=af BK34.out 0;have hfz25_1:=af BK34.out 1;go_wp2
          go_loopg [49] kj16 (fun kq v49 w'=>∃ (x49_4:Int),v49 = .int .i64 x49_4 ∧ aj (aK.l1 kq x28_2 (eR l0_1 x28_2) l0_1 (l0_1.length:Int) x28_2 l0_1 (l0_1.length:Int) x49_4 a0_0 l0_1 = some r) ∧ aj (kq ≤ kj16) ∧ aj (w'.heap[gb34]? = some (.cells #[.int .i64 a0_0,(.slice (some ad37) l0_1.length c0_1)] 30 (0,0))) ∧ aj (Below w.heap.size w w'))
          case atStart=>exact ⟨(0),qrs,H',⟨Nat.le_refl _⟩,⟨bk1 BK34.out⟩,⟨by exact bw⟩⟩
          case round =>
           clear H';(try clear c24);(try clear hcz25_0);(try clear hcz25_1);(try clear hfz25_0);(try clear hfz25_1)
           obtain ⟨x49_4,rfl,HA,HK4,BK34,HB⟩:=hrel
           cases gk with
           | zero=>exact absurd HA.out (by simp [aK.l1])
           | succ k4 =>
            have H:=HA.out;clear HA;simp only [aK.l1] at H;by_cases c26:x49_4 < (l0_1.length:Int)
            ·rw [if_pos c26] at H;have c26b0:=decide_eq_true c26;clear c26;replace H:=iN H;obtain ⟨c27,H⟩:=H;have c27b0:decide (0 ≤ x49_4) = true:=decide_eq_true c27;clear c27;replace H:=iN H;obtain ⟨c28,H⟩:=H;have c28b0:decide (x49_4 < (l0_1.length:Int)) = true:=decide_eq_true c28;clear c28;by_cases c29:x49_4 = x28_2
             ·rw [if_pos c29] at H;have c29b0:(x49_4 == x28_2) = true:=beq_iff_eq.mpr c29;have c29b1:(x49_4 != x28_2) = false:=bne_eq_false_iff_eq.mpr c29;clear c29;have H':=aM H;clear H;have p40:0 ≤ (x49_4:Int):=of_decide_eq_true ab;have q40:x49_4 < (l0_1.length:Int):=of_decide_eq_true ab;obtain ⟨ad40,A40_0,c497_0,e40,hx40_0,hl40_0,hi40_0⟩:=jH HR0_1.out x49_4 p40 q40;obtain rfl:ad37 = ad40:=(by injection e40);replace hx40_0:=(HB.out.cell (World.block_lt_of_cell? w _ hx40_0)).trans hx40_0;have HR40_0:=aM hi40_0;have HC40_0:=aM hl40_0;clear hi40_0 hl40_0;replace p40:=eq_true p40;replace q40:=eq_true q40;go_wp2
              go_roundg k4
              case measure=>have:=HJ1.out;have:=HK2.out;have:=HJ16.out;have:=HK4.out;omega
              case rel=>exact ⟨(wrap64 (x49_4 + 1)),qrs,H',⟨by have:=HJ1.out;have:=HK2.out;have:=HJ16.out;have:=HK4.out;omega⟩,⟨bk1 BK34.out⟩,⟨by exact bw⟩⟩
             ·rw [if_neg c29] at H;have c29b0:(x49_4 == x28_2) = false:=beq_eq_false_iff_ne.mpr c29;have c29b1:(x49_4 != x28_2) = true:=bne_iff_ne.mpr c29;replace H:=oB H;obtain ⟨t41,A30,H⟩:=H;(try dsimp only at H)
              replace H:=oB H;obtain ⟨t42,A31,H⟩:=H;(try dsimp only at H)
              replace H:=oB H;obtain ⟨t43,A32,H⟩:=H;(try dsimp only at H)
              obtain rfl:t42 = t43:=Option.some.inj (A31.out.symm.trans A32.out);by_cases c33:(Go.bits .and .i64 t41 t42) = t42
              ·rw [if_pos c33] at H;have c33b0:((Go.bits .and .i64 t41 t42) == t42) = true:=beq_iff_eq.mpr c33;have c33b1:((Go.bits .and .i64 t41 t42) != t42) = false:=bne_eq_false_iff_eq.mpr c33;clear c33;obtain rfl:=Option.some.inj H;have p40:0 ≤ (x49_4:Int):=of_decide_eq_true ab;have q40:x49_4 < (l0_1.length:Int):=of_decide_eq_true ab;obtain ⟨ad40,A40_0,c497_0,e40,hx40_0,hl40_0,hi40_0⟩:=jH HR0_1.out x49_4 p40 q40;obtain rfl:ad37 = ad40:=(by injection e40);replace hx40_0:=(HB.out.cell (World.block_lt_of_cell? w _ hx40_0)).trans hx40_0;have HR40_0:=aM hi40_0;have HC40_0:=aM hl40_0;clear hi40_0 hl40_0;replace p40:=eq_true p40;replace q40:=eq_true q40;go_wp2_with (first|(go_at_call 53;(with_reducible refine (bK.calls k4 _ _ (eR l0_1 x28_2) t41 _ ?side1 ?side2 A30.out).mono ?_);(case side1=>exact qcs HR37_0.out HB.out);(case side2=>exact HC37_0.out);rintro e w' ⟨rfl,⟨nd,rfl⟩⟩)|(go_at_call 53;(with_reducible refine (bK.calls k4 _ _ (eR l0_1 x49_4) t42 _ ?side1 ?side2 A31.out).mono ?_);(case side1=>exact qc (Kd.cA HR40_0.out bw));(case side2=>exact HC40_0.out);rintro e w' ⟨rfl,⟨nd,rfl⟩⟩)|(go_at_call 53;(with_reducible refine (bK.calls k4 _ _ (eR l0_1 x49_4) t42 _ ?side1 ?side2 A32.out).mono ?_);(case side1=>exact qc (Kd.cA HR40_0.out bw));(case side2=>exact HC40_0.out);rintro e w' ⟨rfl,⟨nd,rfl⟩⟩))
               go_ret
               exact ⟨eE,by exact bw⟩
              ·rw [if_neg c33] at H;have c33b0:((Go.bits .and .i64 t41 t42) == t42) = false:=beq_eq_false_iff_ne.mpr c33;have c33b1:((Go.bits .and .i64 t41 t42) != t42) = true:=bne_iff_ne.mpr c33;have H':=aM H;clear H;have p40:0 ≤ (x49_4:Int):=of_decide_eq_true ab;have q40:x49_4 < (l0_1.length:Int):=of_decide_eq_true ab;obtain ⟨ad40,A40_0,c497_0,e40,hx40_0,hl40_0,hi40_0⟩:=jH HR0_1.out x49_4 p40 q40;obtain rfl:ad37 = ad40:=(by injection e40);replace hx40_0:=(HB.out.cell (World.block_lt_of_cell? w _ hx40_0)).trans hx40_0;have HR40_0:=aM hi40_0;have HC40_0:=aM hl40_0;clear hi40_0 hl40_0;replace p40:=eq_true p40;replace q40:=eq_true q40;go_wp2_with (first|(go_at_call 53;(with_reducible refine (bK.calls k4 _ _ (eR l0_1 x28_2) t41 _ ?side1 ?side2 A30.out).mono ?_);(case side1=>exact qcs HR37_0.out HB.out);(case side2=>exact HC37_0.out);rintro e w' ⟨rfl,⟨nd,rfl⟩⟩)|(go_at_call 53;(with_reducible refine (bK.calls k4 _ _ (eR l0_1 x49_4) t42 _ ?side1 ?side2 A31.out).mono ?_);(case side1=>exact qc (Kd.cA HR40_0.out bw));(case side2=>exact HC40_0.out);rintro e w' ⟨rfl,⟨nd,rfl⟩⟩)|(go_at_call 53;(with_reducible refine (bK.calls k4 _ _ (eR l0_1 x49_4) t42 _ ?side1 ?side2 A32.out).mono ?_);(case side1=>exact qc (Kd.cA HR40_0.out bw));(case side2=>exact HC40_0.out);rintro e w' ⟨rfl,⟨nd,rfl⟩⟩))
               go_roundg k4
               case measure=>have:=HJ1.out;have:=HK2.out;have:=HJ16.out;have:=HK4.out;omega
               case rel=>exact ⟨(wrap64 (x49_4 + 1)),qrs,H',⟨by have:=HJ1.out;have:=HK2.out;have:=HJ16.out;have:=HK4.out;omega⟩,⟨bk1 BK34.out⟩,⟨by exact bw⟩⟩
            ·rw [if_neg c26] at H;have c26b0:=decide_eq_false c26;clear c26;have H':=aM H;clear H;go_wp2
             go_roundg k4
             case measure=>have:=HJ1.out;have:=HK2.out;have:=HJ16.out;have:=HK4.out;omega
             case rel=>exact ⟨(wrap64 (x28_2 + 1)),qrs,H',⟨by have:=HJ1.out;have:=HK2.out;have:=HJ16.out;have:=HK4.out;omega⟩,⟨bk1 BK34.out⟩,⟨by exact bw⟩⟩
      ·rw [if_neg c14] at H;have c14b0:=decide_eq_false c14;clear c14;obtain rfl:=Option.some.inj H;go_wp2
       go_ret
       exact ⟨eE,by exact bw⟩


def dA.f (a0:Int) (a1:Int):Option (Bool):=some ((Go.bits .and .i64 a1 a0) == a0)
theorem dA.calls (a0:Int) (gc1:Nat) (a1:Int) (r:Bool) (w:World) (hb1:w.heap[gc1]? = some (.cells #[.int .i64 a1] 3 (0,0))) (h:dA.f a0 a1 = some r) :
  Calls Tryz.prog 103 #[.int .i64 a0,.pointer (some ⟨gc1,0,none⟩)] w fun e w'=>e = .returned (.bool r) ∧ bi w w':=by
 have BK1:=aM hb1;clear hb1;have H:(some ((Go.bits .and .i64 a1 a0) == a0)) = some r:=h;clear h;obtain rfl:=Option.some.inj H;have hcz3_0:=cz BK1.out 0;have hfz3_0:=af BK1.out 0;go_enter Tryz.func103,Tryz.ntmps103;go_wp2
 go_ret
 exact ⟨qrs,dR⟩
theorem dA.enters:∀ (args:Array Value) (w:World),(callFunc 103 args).run Tryz.prog w = .ok (.enter 103 args) w:=enters_of Tryz.func103 kR rfl


def d7.f (k:Nat) (a0:Int) (l1:List Int):Option (Bool):=(bu.f k l1 (fun y0_=>dA.f y0_ a0)).bind fun t2=>(some t2)
theorem d7.calls (k:Nat) (a0:Int) (gc1:Nat) (A1:Option Addr) (c1:Nat) (l1:List Int) (r:Bool) (w:World) (hr1:Kd.C (Kd.int .i64) w A1 l1.length l1) (hc1:l1.length ≤ c1) (hb1:w.heap[gc1]? = some (.cells #[.slice A1 l1.length c1] 23 (0,0))) (h:d7.f k a0 l1 = some r) :
  Calls Tryz.prog 102 #[.int .i64 a0,.pointer (some ⟨gc1,0,none⟩)] w fun e w'=>e = .returned (.bool r) ∧ Below w.heap.size w w':=by
 have hmf:∀ (fn:Fn) (first cap:Array Value) (w:World),(Instr.makeFunc fn first cap).run Tryz.prog w = .ok (.func fn first cap) w:=fun _ _ _ _=>rfl
 have HR1:=aM hr1;have HC1:=aM hc1;clear hr1 hc1;have BK1:=aM hb1;clear hb1;have HB:=aM (Below.refl w.heap.size w);have H:((bu.f k l1 (fun y0_=>dA.f y0_ a0)).bind fun t9=>(some t9)) = some r:=h;clear h;replace H:=oB H;obtain ⟨t9,A3,H⟩:=H;(try dsimp only at H)
 obtain rfl:=Option.some.inj H;go_enter Tryz.func102,Tryz.ntmps102;go_wp2_with (first|((with_reducible refine aC (N:=2) rfl ?_);refine bE 2 #[.int .i64 a0] 3 ?_;intro gb8 hg w4 hbox hb;have BK8:=aM (hbox);have GW8:=aM (gS hg);have GE8:=aM (gS hg);replace HB:=aM (ag bw hb);have NB1_501:=aM (nL BK1.out hg);have NB8_1:=aM (nR BK1.out hg);replace BK1:=aM (bB BK1.out hb);clear hb hbox hg;have hnb5:=NB1_501.out;have hnc5:=NB8_1.out;have hcz6_0:=cz BK1.out 0;have hfz6_0:=af BK1.out 0)|((with_reducible refine ai (f:=100) rfl ?_);refine gL 6 Tryz.func100 #[.slice A1 l1.length c1,.func (.func 103) #[] #[.pointer (some ⟨gb8,0,none⟩)]] ?_;(with_reducible refine (bu.calls k _ _ l1 (fun y0_=>dA.f y0_ a0) 103 #[.pointer (some ⟨gb8,0,none⟩)] dA.enters t9 _ ?side1 ?side2 ?side3 A3.out).mono ?_);(case side1=>exact qcs HR1.out HB.out);(case side2=>exact HC1.out);(case side3=>exact (fun W_ a0_ r0_ hx_ hb_ =>(dA.calls a0_ gb8 a0 r0_ W_  (ej (bk1 BK8.out) hb_) hx_).mono (fun _ _ h_=>⟨h_.1,h_.2.below⟩)));rintro e w7 ⟨rfl,hb⟩;refine ⟨_,rfl,?_⟩;replace BK1:=aM (bB BK1.out hb);replace BK8:=aM (bB BK8.out hb);replace HB:=aM (ag bw hb);(try clear hb)))
 go_ret
 exact ⟨eE,by exact bw⟩
theorem d7.enters:∀ (args:Array Value) (w:World),(callFunc 102 args).run Tryz.prog w = .ok (.enter 102 args) w:=enters_of Tryz.func102 kR rfl


def cO.l0:Nat → Int → List (List Int) → Int → Int → List Int → Option (Int × List Bool)
 | 0,_,_,_,_,_=>none
 | k + 1,x0,x9,x10,x11,x4=>if x11 < x10 then (if 0 ≤ x11 then (if x11 < (x9.length:Int) then ((bK.f k (eR x9 x11)).bind fun t2=>(if x4.length < 17592186044416 then (cO.l0 k x0 x9 x10 (wrap64 (x11 + 1)) (x4 ++ [t2])) else (none))) else (none)) else (none)) else ((bc.f k x0 (fun y0_=>d7.f k y0_ x4)).bind fun bt3=>(some (bt3.1,bt3.2)))
def cO.f (k:Nat) (a0:Int) (l1:List (List Int)):Option (Int × List Bool):=cO.l0 k a0 l1 (l1.length:Int) 0 (([]:List Int))
theorem cO.calls (k:Nat) (a0:Int) (A1:Option Addr) (c1:Nat) (l1:List (List Int)) (r1:Int) (r2:List Bool) (w:World) (hr1:Kd.C (Kd.slice 3 (Kd.int .i64)) w A1 l1.length l1) (hc1:l1.length ≤ c1) (h:cO.f k a0 l1 = some (r1,r2)) :
  Calls Tryz.prog 83 #[.int .i64 a0,.slice A1 l1.length c1] w fun e w'=>∃ v1_:Value,e = .returned (.agg #[.int .i64 r1,v1_]) ∧ Kd.R Kd.bool 4 w' w.heap.size (fun _=>True) v1_ r2 ∧ Below w.heap.size w w':=by
 have hmf:∀ (fn:Fn) (first cap:Array Value) (w:World),(Instr.makeFunc fn first cap).run Tryz.prog w = .ok (.func fn first cap) w:=fun _ _ _ _=>rfl
 have hu56:=Tryz.underlying56;have HR1:=aM hr1;have HC1:=aM hc1;clear hr1 hc1;have HB:=aM (Below.refl w.heap.size w);have H:(cO.l0 k a0 l1 (l1.length:Int) 0 (([]:List Int))) = some (r1,r2):=h;clear h;obtain ⟨y26,hy26⟩:∃ y_:List Int,y_ = (([]:List Int)):=⟨_,rfl⟩;replace H:(cO.l0 k a0 l1 (l1.length:Int) 0 y26) = some (r1,r2):=yR hy26 H;have Ny26:=aM hy26;clear hy26;have H':=aM H;clear H;go_enter Tryz.func83,Tryz.ntmps83;go_wp2_with (first|((with_reducible refine aC (N:=4) rfl ?_);refine bE 4 #[.int .i64 0,.slice none 0 0] 56 ?_;intro gb25 hg w3 hbox hb;have BK25:=aM (hbox);have GW25:=aM (gS hg);have GE25:=aM (gS hg);replace HB:=aM (ag bw hb);clear hb hbox hg)|((with_reducible refine aC (N:=8) rfl ?_);refine Kd.lC (Kd.int .i64) _ 3 ?hg (N:=8) ?hd (xs:=([]:List Int)) (inner:=[]) (ok:=fun _=>True) (okp:=fun _=>True) ?hr ?hp (fun _ hk=>hk) trivial (Below.refl _ _) (Nat.le_refl _) (by simp) ?_;(case hd=>rfl);(case hg=>rfl);(case hr=>first|(go_simp;done)|(go_simp;rfl));(case hp=>exact (eH.none _ _));intro v27 w4 ho5 hb hg_ hnew_;clear hg_ hnew_;(first|rw [← Ny26.out] at ho5|(simp only [Int.reduceToNat] at ho5;rw [← Ny26.out] at ho5));have HO28:=aM (Kd.cr ho5 (av bw));replace BK25:=aM (bB BK25.out hb);replace HB:=aM (ag bw hb);clear hb ho5)|((with_reducible refine aC (N:=5) rfl ?_);refine bE 5 #[.slice none 0 0] 23 ?_;intro gb29 hg w6 hbox hb;replace HO28:=aM (Kd.ba (qra HO28.out) hb);have BK29:=aM (hbox);have GW29:=aM (gS hg);have GE29:=aM (gS hg);replace HB:=aM (ag bw hb);have NB25_29:=aM (nL BK25.out hg);have NB29_25:=aM (nR BK25.out hg);replace BK25:=aM (bB BK25.out hb);clear hb hbox hg;obtain ⟨Ao7,co7,eo7⟩:=Kd.b5 HO28.out;subst eo7;have hnb8:=NB29_25.out;have hnc8:=NB25_29.out;have hcz9_0:=cz BK29.out 0;have hfz9_0:=af BK29.out 0))
 go_loopg [11] k (fun kq v11 w'=>∃ (x11_1:Int) (x40_1:List Int) (u40:Value),v11 = .int .i64 x11_1 ∧ aj (cO.l0 kq a0 l1 (l1.length:Int) x11_1 x40_1 = some (r1,r2)) ∧ aj (kq ≤ k) ∧ aj (Kd.R (Kd.int .i64) 3 w' w.heap.size (fun _=>True) u40 x40_1) ∧ aj (w'.heap[gb25]? = some (.cells #[.int .i64 0,(.slice none 0 0)] 56 (0,0))) ∧ aj (w'.heap[gb29]? = some (.cells #[u40] 23 (0,0))) ∧ aj (Below w.heap.size w w'))
 case atStart=>exact ⟨(0),(y26),(.slice Ao7 y26.length co7),qrs,H',⟨Nat.le_refl _⟩,⟨by (with_reducible repeat (first|apply Kd.ca|apply Kd.b7|apply Kd.cu));exact Kd.cG (Kd.gm (p:=⟨gb29,0,none⟩) (Kd.dL HO28.out BK29.out (by decide)) (fun _ hk=>hk.2) (.slice Ao7 y26.length co7)) (fun _ hk=>trivial)⟩,⟨bF BK25.out NB25_29.out⟩,⟨by (with_reducible repeat (first|refine ax ?_ _|refine an ?_|refine au ?_ _));refine bI (cs:=#[.slice none 0 0]) ?_ 0 _ rfl;(with_reducible repeat (first|refine ax ?_ _|refine an ?_|refine au ?_ _));exact BK29.out⟩,⟨by exact bw⟩⟩
 case round =>
  clear H';(try clear c1);(try clear hcz9_0);(try clear hfz9_0)
  obtain ⟨x11_1,x40_1,u40,rfl,HA,HK1,HO_40,BK25,BK29,HB⟩:=hrel
  cases gk with
  | zero=>exact absurd HA.out (by simp [cO.l0])
  | succ k1 =>
   have H:=HA.out;clear HA;simp only [cO.l0] at H;by_cases c10:x11_1 < (l1.length:Int)
   ·rw [if_pos c10] at H;have c10b0:=decide_eq_true c10;clear c10;replace H:=iN H;obtain ⟨c11,H⟩:=H;have c11b0:decide (0 ≤ x11_1) = true:=decide_eq_true c11;clear c11;replace H:=iN H;obtain ⟨c12,H⟩:=H;have c12b0:decide (x11_1 < (l1.length:Int)) = true:=decide_eq_true c12;clear c12;replace H:=oB H;obtain ⟨t31,A13,H⟩:=H;(try dsimp only at H)
    replace H:=iN H;obtain ⟨c14,H⟩:=H;have LMc14:=aM c14;clear c14;obtain ⟨y33,hy33⟩:∃ y_:List Int,y_ = (x40_1 ++ [t31]):=⟨_,rfl⟩;replace H:(cO.l0 k1 a0 l1 (l1.length:Int) (wrap64 (x11_1 + 1)) y33) = some (r1,r2):=yR hy33 H;have Ny33:=aM hy33;clear hy33;have H':=aM H;clear H;have p30:0 ≤ (x11_1:Int):=of_decide_eq_true ab;have q30:x11_1 < (l1.length:Int):=of_decide_eq_true ab;obtain ⟨ad30,A30_0,c508_0,e30,hx30_0,hl30_0,hi30_0⟩:=jH HR1.out x11_1 p30 q30;cases e30
    replace hx30_0:=(HB.out.cell (World.block_lt_of_cell? w _ hx30_0)).trans hx30_0;have HR30_0:=aM hi30_0;have HC30_0:=aM hl30_0;clear hi30_0 hl30_0;replace p30:=eq_true p30;replace q30:=eq_true q30
    try go_wp2
    replace HO_40:=aM (Kd.cu HO_40.out);replace BK25:=aM (an BK25.out);replace BK29:=aM (an BK29.out);replace HB:=aM (bg HB.out);refine eQ (n:=6) (S:=fun w'=>w'.cell? ⟨gb29,0,none⟩ = some (u40)) (ds:=[5]) (mA 6 0) kR rfl rfl ((aE BK29.out 0).trans rfl) (fun hHeld=>?_);generalize wr.drew = w15 at HO_40 BK25 BK29 HB hHeld ⊢
    refine fy (i:=1) (N:=some 16) (v:=?_) (a':=?_) (mA 6 2) rfl rfl kR (fun _ _ _ h=>h) (Or.inl ⟨by rfl,?_⟩) ?_ ?_;rotate_left
    ·intro w';go_simp
     with_reducible rfl
    rotate_left
    ·simp only [Act.put,sA,sZ,sS,cS,dH];rfl
    refine iO (i:=0) (N:=some 15) (v:=?_) (a':=?_) (mA 6 3) rfl rfl kR (fun _ _ _ h=>h) (Or.inl ⟨by rfl,?_⟩) hHeld ?_ ?_;rotate_left
    ·intro w' s0;go_simp
     with_reducible rfl
    rotate_left
    ·simp only [Act.put,sA,sZ,sS,cS,dH];rfl
    refine mf (i:=2) (N:=some 17) (mA 6 7) rfl rfl kR (by decide) (fun K hK=>?_);refine gC Tryz.func53 #[.slice A30_0 (eR l1 x11_1).length c508_0] ?_
    with_reducible refine (bK.calls k1 _ _ (eR l1 x11_1) t31 _ ?side1 ?side2 A13.out).mono ?_
    (case side1=>exact qcs HR30_0.out HB.out)
    (case side2=>exact HC30_0.out)
    rintro e w' ⟨rfl,⟨nd,rfl⟩⟩
    refine ⟨_,rfl,?_⟩;refine hK.out _ _ ((aE BK29.out 0).trans rfl) (fun hHeld=>?_);clear hK K;refine nM 17 ?_;refine mf (i:=3) (N:=some 18) (mA 6 15) rfl rfl kR (by decide) (fun K hK=>?_);refine nS (w1:=?_) (v:=?_) (by rfl) rfl ?_ ?_;rotate_left 2
    ·go_simp
     constructor
     ·rfl
     ·rfl
    refine hK.out _ _ ((aE (au BK29.out _) 0).trans rfl) (fun hHeld=>?_);clear hK K;refine nM 18 ?_;refine mf (i:=4) (N:=some 19) (mA 6 31) rfl rfl kR (by decide) (fun K hK=>?_);refine Kd.hU (Kd.int .i64) (w0:=w) w.heap.size (by rfl) (.tmp 15) (.tmp 18) 23 3 (.int .i64 0) 8 rfl Tryz.underlying23 kQ rfl (by decide) (by omega) u40 x40_1 t31 [.int .i64 t31] (fun _=>True) (fun _=>False) rfl rfl ?aP (fun _ hk=>hk.elim) ?aF ?aO ?aB ?aS ?aL ?_;(case aP=>exact rfl)
    (case aB=>exact bw)
    (case aF=>exact (fun _ _=>trivial))
    (case aO=>exact (qra HO_40.out))
    (case aS=>exact (av bw))
    (case aL=>have:=LMc14.out;omega)
    intro v34 w16 ho hb hg hat;rw [← Ny33.out] at ho;replace BK25:=aM (bH BK25.out hg (Kd.lY HO_40.out BK25.out (by decide)));replace BK29:=aM (bH BK29.out hg (Kd.lY HO_40.out BK29.out (by decide)));replace HB:=aM (hb);have HO35:=aM (ho);clear HO_40;clear ho hb hg hat;obtain ⟨Ao17,co17,eo17⟩:=Kd.b5 HO35.out;(first|subst eo17|(injection eo17 with f1_ f2_ f3_;have f4_:=f1_.symm;have f5_:=f3_.symm;clear f1_ f2_ f3_;subst f4_;subst f5_))
    refine hK.out _ _ ((aE BK29.out 0).trans rfl) (fun hHeld=>?_);clear hK K;refine nM 19 ?_;refine last_ (i:=5) (N:=none) (mA 6 63) rfl rfl kR (by decide) (fun K hK=>?_);have hs18:w16.cell? ⟨gb29,0,none⟩ = some (u40):=(aE BK29.out 0).trans rfl;have hfs18:=af BK29.out 0;have hns18_0:=NB25_29.out;have hms18_0:=NB29_25.out;refine ma (w1:=?_) (by rfl) rfl ?_ ?_;rotate_left
    ·go_simp
     rfl
    refine hK.out _ _ ?_;clear hK K;refine fK kR ?_
    try go_wp2
    go_roundg k1
    case measure=>have:=HK1.out;omega
    case rel=>exact ⟨(wrap64 (x11_1 + 1)),(y33),(.slice Ao17 y33.length co17),qrs,H',⟨by have:=HK1.out;omega⟩,⟨by (with_reducible repeat (first|apply Kd.ca|apply Kd.b7|apply Kd.cu));exact Kd.cG (Kd.gm (p:=⟨gb29,0,none⟩) (Kd.dL HO35.out BK29.out (by decide)) (fun _ hk=>hk.2) (.slice Ao17 y33.length co17)) (fun _ hk=>trivial)⟩,⟨bF BK25.out NB25_29.out⟩,⟨by (with_reducible repeat (first|refine ax ?_ _|refine an ?_|refine au ?_ _));refine bI (cs:=#[u40]) ?_ 0 _ rfl;(with_reducible repeat (first|refine ax ?_ _|refine an ?_|refine au ?_ _));exact BK29.out⟩,⟨by exact bw⟩⟩
   ·rw [if_neg c10] at H;have c10b0:=decide_eq_false c10;clear c10;replace H:=oB H;obtain ⟨⟨t36,t37⟩,A19,H⟩:=H;(try dsimp only at H)
    simp only [Option.some.injEq,Prod.mk.injEq] at H;obtain ⟨rfl,rfl⟩:=H;obtain ⟨Ao20,co20,eo20⟩:=Kd.b5 HO_40.out;subst eo20;go_wp2_with (first|((with_reducible refine ai (f:=62) rfl ?_);refine gL 23 Tryz.func62 #[.int .i64 a0,.func (.func 102) #[] #[.pointer (some ⟨gb29,0,none⟩)]] ?_;(with_reducible refine (bc.calls k1 a0 (fun y0_=>d7.f k1 y0_ x40_1) 102 #[.pointer (some ⟨gb29,0,none⟩)] d7.enters t36 t37 _ ?side1 A19.out).mono ?_);(case side1=>exact (fun W_ a0_ r0_ hx_ hb_ =>(d7.calls k1 a0_ gb29 _ _ x40_1 r0_ W_  (Kd.cA (by repeat (first|exact (Kd.aI HO_40.out).2.2|(with_reducible refine Kd.eI ?_ _)|(with_reducible refine Kd.eJ ?_ _)|(with_reducible refine Kd.fB ?_))) hb_) (by exact (Kd.aI HO_40.out).2.1) (ej (bk1 BK29.out) hb_) hx_).mono (fun _ _ h_=>h_)));rintro e w21 ⟨v38,rfl,ho0,hb⟩;refine ⟨_,rfl,?_⟩;replace HO_40:=aM (Kd.ba (qra HO_40.out) hb);have HO39:=aM (Kd.cr ho0 (av bw));replace BK25:=aM (bB BK25.out hb);replace BK29:=aM (bB BK29.out hb);replace HB:=aM (ag bw hb);(try clear hb);(try clear hk);(try clear ho0);have hnb22:=NB25_29.out;have hnc22:=NB29_25.out;have hcz23_0:=cz BK25.out 0;have hcz23_1:=cz BK25.out 1;have hfz23_0:=af BK25.out 0;have hfz23_1:=af BK25.out 1;obtain ⟨Ao24,co24,eo24⟩:=Kd.b5 HO39.out;subst eo24))
    refine bodyPost_ret (results_cell_row rfl _ _ gb25 56 #[.int .i64 t36,.slice Ao24 t37.length co24] (0,0) _ rfl (by (with_reducible repeat (first|refine ax ?_ _|refine an ?_|refine au ?_ _));refine bI (cs:=#[.int .i64 t36,.slice none 0 0]) ?_ 1 _ rfl;(with_reducible repeat (first|refine ax ?_ _|refine an ?_|refine au ?_ _));refine bI (cs:=#[.int .i64 0,.slice none 0 0]) ?_ 0 _ rfl;(with_reducible repeat (first|refine ax ?_ _|refine an ?_|refine au ?_ _));exact BK25.out) Tryz.underlying56 rfl kR) rfl ?_;exact ⟨_,eE,by (with_reducible repeat (first|apply Kd.ca|apply Kd.b7|apply Kd.cu));exact Kd.cG (Kd.gm (p:=⟨gb25,1,none⟩) (Kd.gm (p:=⟨gb25,0,none⟩) (Kd.dL HO39.out BK25.out (by decide)) (fun _ hk=>hk.2) (.int .i64 t36)) (fun _ hk=>hk.2) (.slice Ao24 t37.length co24)) (fun _ hk=>trivial),by exact bw⟩

end Go.Proofs.YthipiojpoklpgaaGreat.P
