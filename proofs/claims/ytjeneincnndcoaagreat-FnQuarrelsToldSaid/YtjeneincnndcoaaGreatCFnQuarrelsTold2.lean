/- Part 2 of the texts below the law FnQuarrelsTold. Printed by this session's driver over the kit's printer, but for the hand contracts and the plain laws. -/
import Derived.Test.YtjeneincnndcoaaGreatCFnQuarrelsTold1
set_option linter.unusedVariables false
set_option linter.unusedSimpArgs false
set_option maxHeartbeats 8000000
set_option maxRecDepth 100000
namespace Go.Proofs.YtjeneincnndcoaaGreat.P
open Go.RowKit Go.Proofs.YtjeneincnndcoaaGreatW.PrintWords Go.Proofs.YtjeneincnndcoaaGreatW.PrintLast Go.Proofs.YtjeneincnndcoaaGreatW.PrintMore
attribute [local go_sem] ie ig ji iY gE gF il hU   -- for this text's walks alone
set_option linter.unusedVariables false
set_option linter.unusedSimpArgs false

def bC.l0:Nat → Int → List Bool → Int → Int → Option (Int)
 | 0,_,_,_,_=>none
 | k + 1,x3,x7,x8,x9=>if x9 < x8 then (if 0 ≤ x9 then (if x9 < (x7.length:Int) then (if iQ false x7 x9 = true then (bC.l0 k (wrap64 (x3 + 1)) x7 x8 (wrap64 (x9 + 1))) else (bC.l0 k x3 x7 x8 (wrap64 (x9 + 1)))) else (none)) else (none)) else (some x3)
def bC.f (k:Nat) (a0_0:Int) (l0_1:List Bool):Option (Int):=bC.l0 k 0 l0_1 (l0_1.length:Int) 0
theorem bC.calls (k:Nat) (a0_0:Int) (A0_1:Option Addr) (c0_1:Nat) (l0_1:List Bool) (r:Int) (w:World) (hr0_1:Kd.C Kd.bool w A0_1 l0_1.length l0_1) (hc0_1:l0_1.length ≤ c0_1) (h:bC.f k a0_0 l0_1 = some r) :
  Calls Tryz.prog 29 #[.agg #[.int .i64 a0_0,.slice A0_1 l0_1.length c0_1]] w fun e w'=>e = .returned (.int .i64 r) ∧ Below w.heap.size w w':=by
 have hu51:=Tryz.underlying51;have HR0_1:=aM hr0_1;have HC0_1:=aM hc0_1;clear hr0_1 hc0_1;have HB:=aM (Below.refl w.heap.size w);have H:(bC.l0 k 0 l0_1 (l0_1.length:Int) 0) = some r:=h;clear h;have H':=aM H;clear H;go_enter Tryz.func29,Tryz.ntmps29;go_wp2_with (first|((with_reducible refine aC (N:=1) rfl ?_);refine bE 1 #[.int .i64 a0_0,.slice A0_1 l0_1.length c0_1] 51 ?_;intro gb10 hg w2 hbox hb;have BK10:=aM (hbox);have GW10:=aM (gS hg);have GE10:=aM (gS hg);replace HB:=aM (ae bw hb);clear hb hbox hg;have hcz3_0:=cz BK10.out 0;have hcz3_1:=cz BK10.out 1;have hfz3_0:=aa BK10.out 0;have hfz3_1:=aa BK10.out 1))
 go_loopg [3,9] k (fun kq v3 v9 w'=>∃ (x3_1:Int) (x9_1:Int),v3 = .int .i64 x3_1 ∧ v9 = .int .i64 x9_1 ∧ ak (bC.l0 kq x3_1 l0_1 (l0_1.length:Int) x9_1 = some r) ∧ ak (kq ≤ k) ∧ ak (w'.heap[gb10]? = some (.cells #[.int .i64 a0_0,(.slice A0_1 l0_1.length c0_1)] 51 (0,0))) ∧ ak (Below w.heap.size w w'))
 case atStart=>exact ⟨(0),(0),qrs,qrs,H',⟨Nat.le_refl _⟩,⟨bk1 BK10.out⟩,⟨by exact bw⟩⟩
 case round =>
  clear H';(try clear hcz3_0);(try clear hcz3_1);(try clear hfz3_0);(try clear hfz3_1)
  obtain ⟨x3_1,x9_1,rfl,rfl,HA,HK1,BK10,HB⟩:=hrel
  cases gk with
  | zero=>exact absurd HA.out (by simp [bC.l0])
  | succ k1 =>
   have H:=HA.out;clear HA;simp only [bC.l0] at H;by_cases c4:x9_1 < (l0_1.length:Int)
   ·rw [if_pos c4] at H;have c4b0:=decide_eq_true c4;clear c4;replace H:=iN H;obtain ⟨c5,H⟩:=H;have c5b0:decide (0 ≤ x9_1) = true:=decide_eq_true c5;clear c5;replace H:=iN H;obtain ⟨c6,H⟩:=H;have c6b0:decide (x9_1 < (l0_1.length:Int)) = true:=decide_eq_true c6;clear c6;obtain ⟨bq7,hbq7⟩:∃ b_:Bool,b_ = (iQ false l0_1 x9_1):=⟨_,rfl⟩;rw [← hbq7] at H;have Nbq7:=aM hbq7;clear hbq7;by_cases c8:bq7 = true
    ·subst c8;rw [if_pos rfl] at H;have H':=aM H;clear H;have p11:0 ≤ (x9_1:Int):=of_decide_eq_true ab;have q11:x9_1 < (l0_1.length:Int):=of_decide_eq_true ab;obtain ⟨ad11,e11,hx11_0⟩:=Kd.dS HR0_1.out x9_1 p11 q11;(try rw [← Nbq7.out] at hx11_0)
     cases e11
     replace hx11_0:=(HB.out.cell (World.block_lt_of_cell? w _ hx11_0)).trans hx11_0;replace p11:=eq_true p11;replace q11:=eq_true q11;go_wp2
     go_roundg k1
     case measure=>have:=HK1.out;omega
     case rel=>exact ⟨(wrap64 (x3_1 + 1)),(wrap64 (x9_1 + 1)),qrs,qrs,H',⟨by have:=HK1.out;omega⟩,⟨bk1 BK10.out⟩,⟨by exact bw⟩⟩
    ·replace c8:=Bool.eq_false_iff.mpr c8;subst c8;rw [if_neg (show ¬ (false = true) by decide)] at H;have H':=aM H;clear H;have p11:0 ≤ (x9_1:Int):=of_decide_eq_true ab;have q11:x9_1 < (l0_1.length:Int):=of_decide_eq_true ab;obtain ⟨ad11,e11,hx11_0⟩:=Kd.dS HR0_1.out x9_1 p11 q11;(try rw [← Nbq7.out] at hx11_0)
     cases e11
     replace hx11_0:=(HB.out.cell (World.block_lt_of_cell? w _ hx11_0)).trans hx11_0;replace p11:=eq_true p11;replace q11:=eq_true q11;go_wp2
     go_roundg k1
     case measure=>have:=HK1.out;omega
     case rel=>exact ⟨(x3_1),(wrap64 (x9_1 + 1)),qrs,qrs,H',⟨by have:=HK1.out;omega⟩,⟨bk1 BK10.out⟩,⟨by exact bw⟩⟩
   ·rw [if_neg c4] at H;have c4b0:=decide_eq_false c4;clear c4;obtain rfl:=Option.some.inj H;go_wp2
    go_ret
    exact ⟨eE,by exact bw⟩


def cf.f (k:Nat) (a0_0:Int) (l0_1:List Int) (a1:Int) (a2:Int):Option (Int × Bool):=(ca.f k a0_0 l0_1 a1 a2).bind fun bt3=>(if bt3.2.2 = true then ((bC.f k bt3.1 bt3.2.1).bind fun t4=>(some (t4,true))) else (some (0,false)))
theorem cf.calls (k:Nat) (a0_0:Int) (A0_1:Option Addr) (c0_1:Nat) (l0_1:List Int) (a1:Int) (a2:Int) (r1:Int) (r2:Bool) (w:World) (hr0_1:Kd.C (Kd.int .i64) w A0_1 l0_1.length l0_1) (hc0_1:l0_1.length ≤ c0_1) (h:cf.f k a0_0 l0_1 a1 a2 = some (r1,r2)) :
  Calls Tryz.prog 6 #[.agg #[.int .i64 a0_0,.slice A0_1 l0_1.length c0_1],.int .i64 a1,.int .i64 a2] w fun e w'=>e = .returned (.tuple #[.int .i64 r1,.bool r2]) ∧ Below w.heap.size w w':=by
 have hu26:=Tryz.underlying26;have hu51:=Tryz.underlying51;have HR0_1:=aM hr0_1;have HC0_1:=aM hc0_1;clear hr0_1 hc0_1;have HB:=aM (Below.refl w.heap.size w);have H:((ca.f k a0_0 l0_1 a1 a2).bind fun bt22=>(if bt22.2.2 = true then ((bC.f k bt22.1 bt22.2.1).bind fun t31=>(some (t31,true))) else (some (0,false)))) = some (r1,r2):=h;clear h;replace H:=oB H;obtain ⟨⟨t22,t23,t27⟩,A4,H⟩:=H;(try dsimp only at H)
 by_cases c5:t27 = true
 ·subst c5;rw [if_pos rfl] at H;replace H:=oB H;obtain ⟨t31,A6,H⟩:=H;(try dsimp only at H)
  simp only [Option.some.injEq,Prod.mk.injEq] at H;obtain ⟨rfl,rfl⟩:=H;go_enter Tryz.func6,Tryz.ntmps6;go_wp2_with (first|((with_reducible refine aC (N:=3) rfl ?_);refine bE 3 #[.int .i64 a0_0,.slice A0_1 l0_1.length c0_1] 26 ?_;intro gb3 hg w7 hbox hb;have BK3:=aM (hbox);have GW3:=aM (gS hg);have GE3:=aM (gS hg);replace HB:=aM (ae bw hb);clear hb hbox hg;have hcz8_0:=cz BK3.out 0;have hcz8_1:=cz BK3.out 1;have hfz8_0:=aa BK3.out 0;have hfz8_1:=aa BK3.out 1)|((with_reducible refine ah (f:=28) rfl ?_);refine gL 14 Tryz.func28 #[.agg #[.int .i64 a0_0,.slice A0_1 l0_1.length c0_1],.int .i64 a1,.int .i64 a2] ?_;(with_reducible refine (ca.calls k a0_0 _ _ l0_1 a1 a2 t22 t23 true _ ?side1 ?side2 A4.out).mono ?_);(case side1=>exact qcs HR0_1.out HB.out);(case side2=>exact HC0_1.out);rintro e w9 ⟨v24,rfl,ho0,hb⟩;refine ⟨_,rfl,?_⟩;have HO25:=aM (Kd.bg ho0 (au bw));replace BK3:=aM (bB BK3.out hb);replace HB:=aM (ae bw hb);(try clear hb);(try clear ho0))|((with_reducible refine aC (N:=8) rfl ?_);refine bE 8 #[.int .i64 0,.slice none 0 0] 51 ?_;intro gb30 hg w10 hbox hb;replace HO25:=aM (Kd.aG (qra HO25.out) hb);have BK30:=aM (hbox);have GW30:=aM (gS hg);have GE30:=aM (gS hg);replace HB:=aM (ae bw hb);have NB3_30:=aM (nL BK3.out hg);have NB30_3:=aM (nR BK3.out hg);replace BK3:=aM (bB BK3.out hb);clear hb hbox hg;have hnb11:=NB30_3.out;have hnc11:=NB3_30.out;have hcz12_0:=cz BK30.out 0;have hcz12_1:=cz BK30.out 1;have hfz12_0:=aa BK30.out 0;have hfz12_1:=aa BK30.out 1;obtain ⟨Ao13,co13,eo13⟩:=Kd.aX HO25.out;subst eo13)|((with_reducible refine ah (f:=29) rfl ?_);refine gL 20 Tryz.func29 #[.agg #[.int .i64 t22,.slice Ao13 t23.length co13]] ?_;(with_reducible refine (bC.calls k t22 _ _ t23 t31 _ ?side1 ?side2 A6.out).mono ?_);(case side1=>refine (Kd.aj (e:=4) (base:=w.heap.size) (ok:=fun k_=>True) (n:=t23.length) (c:=co13) ?_).2.2;exact (tR HO25.out BK30.out));(case side2=>exact (Kd.aj HO25.out).2.1);rintro e w14 ⟨rfl,hb⟩;refine ⟨_,rfl,?_⟩;replace HO25:=aM (Kd.aG (tR HO25.out BK30.out) hb);replace BK3:=aM (bG BK3.out NB3_30.out hb);replace BK30:=aM (bP BK30.out hb);replace HB:=aM (ae bw hb);(try clear hb);(try clear hk)))
  go_ret2
  exact ⟨eE,by exact bw⟩
 ·replace c5:=Bool.eq_false_iff.mpr c5;subst c5;rw [if_neg (show ¬ (false = true) by decide)] at H;simp only [Option.some.injEq,Prod.mk.injEq] at H;obtain ⟨rfl,rfl⟩:=H;go_enter Tryz.func6,Tryz.ntmps6;go_wp2_with (first|((with_reducible refine aC (N:=3) rfl ?_);refine bE 3 #[.int .i64 a0_0,.slice A0_1 l0_1.length c0_1] 26 ?_;intro gb3 hg w15 hbox hb;have BK3:=aM (hbox);have GW3:=aM (gS hg);have GE3:=aM (gS hg);replace HB:=aM (ae bw hb);clear hb hbox hg;have hcz16_0:=cz BK3.out 0;have hcz16_1:=cz BK3.out 1;have hfz16_0:=aa BK3.out 0;have hfz16_1:=aa BK3.out 1)|((with_reducible refine ah (f:=28) rfl ?_);refine gL 14 Tryz.func28 #[.agg #[.int .i64 a0_0,.slice A0_1 l0_1.length c0_1],.int .i64 a1,.int .i64 a2] ?_;(with_reducible refine (ca.calls k a0_0 _ _ l0_1 a1 a2 t22 t23 false _ ?side1 ?side2 A4.out).mono ?_);(case side1=>exact qcs HR0_1.out HB.out);(case side2=>exact HC0_1.out);rintro e w17 ⟨v24,rfl,ho0,hb⟩;refine ⟨_,rfl,?_⟩;have HO25:=aM (Kd.bg ho0 (au bw));replace BK3:=aM (bB BK3.out hb);replace HB:=aM (ae bw hb);(try clear hb);(try clear ho0))|((with_reducible refine aC (N:=8) rfl ?_);refine bE 8 #[.int .i64 0,.slice none 0 0] 51 ?_;intro gb30 hg w18 hbox hb;replace HO25:=aM (Kd.aG (qra HO25.out) hb);have BK30:=aM (hbox);have GW30:=aM (gS hg);have GE30:=aM (gS hg);replace HB:=aM (ae bw hb);have NB3_30:=aM (nL BK3.out hg);have NB30_3:=aM (nR BK3.out hg);replace BK3:=aM (bB BK3.out hb);clear hb hbox hg;have hnb19:=NB30_3.out;have hnc19:=NB3_30.out;have hcz20_0:=cz BK30.out 0;have hcz20_1:=cz BK30.out 1;have hfz20_0:=aa BK30.out 0;have hfz20_1:=aa BK30.out 1;obtain ⟨Ao21,co21,eo21⟩:=Kd.aX HO25.out;subst eo21))
  go_ret2
  exact ⟨eE,by exact bw⟩


def cv.f (a0:Int) (a1:Int) (a2:Int):Option (Bool):=if a0 ≥ a1 then (some (decide (a0 ≤ a2))) else (some false)
theorem cv.calls (a0:Int) (a1:Int) (a2:Int) (r:Bool) (w:World) (h:cv.f a0 a1 a2 = some r) :
  Calls Tryz.prog 86 #[.int .i64 a0,.int .i64 a1,.int .i64 a2] w fun e w'=>e = .returned (.bool r) ∧ bo w w':=by
 have H:(if a0 ≥ a1 then (some (decide (a0 ≤ a2))) else (some false)) = some r:=h;clear h;by_cases c4:a0 ≥ a1
 ·rw [if_pos c4] at H;have c4b0:decide (a1 ≤ a0) = true:=decide_eq_true c4;clear c4;obtain rfl:=Option.some.inj H;go_enter Tryz.func86,Tryz.ntmps86;go_wp2
  go_ret
  exact ⟨qrs,dR⟩
 ·rw [if_neg c4] at H;have c4b0:decide (a1 ≤ a0) = false:=decide_eq_false c4;clear c4;obtain rfl:=Option.some.inj H;go_enter Tryz.func86,Tryz.ntmps86;go_wp2
  go_ret
  exact ⟨qrs,dR⟩


def dt.l0:Nat → Int → Int → List Int → Int → Int → Option (Bool)
 | 0,_,_,_,_,_=>none
 | k + 1,x1,x2,x9,x10,x11=>if x11 < x10 then (if 0 ≤ x11 then (if x11 < (x9.length:Int) then ((cv.f (rd x9 x11) x1 x2).bind fun t3=>(if t3 = true then (dt.l0 k x1 x2 x9 x10 (wrap64 (x11 + 1))) else (some false))) else (none)) else (none)) else (some true)
def dt.f (k:Nat) (l0:List Int) (a1:Int) (a2:Int):Option (Bool):=dt.l0 k a1 a2 l0 (l0.length:Int) 0
theorem dt.calls (k:Nat) (A0:Option Addr) (c0:Nat) (l0:List Int) (a1:Int) (a2:Int) (r:Bool) (w:World) (hr0:Kd.C (Kd.int .i64) w A0 l0.length l0) (hc0:l0.length ≤ c0) (h:dt.f k l0 a1 a2 = some r) :
  Calls Tryz.prog 103 #[.slice A0 l0.length c0,.int .i64 a1,.int .i64 a2] w fun e w'=>e = .returned (.bool r) ∧ bo w w':=by
 have HR0:=aM hr0;have HC0:=aM hc0;clear hr0 hc0;have H:(dt.l0 k a1 a2 l0 (l0.length:Int) 0) = some r:=h;clear h;have H':=aM H;clear H;go_enter Tryz.func103,Tryz.ntmps103;go_wp2
 go_loopg [11] k (fun kq v11 w'=>∃ (x11_1:Int),v11 = .int .i64 x11_1 ∧ ak (dt.l0 kq a1 a2 l0 (l0.length:Int) x11_1 = some r) ∧ ak (kq ≤ k) ∧ bo w w')
 case atStart=>exact ⟨(0),qrs,H',⟨Nat.le_refl _⟩,by repeat (first|exact bo.refl _|apply bo.step)⟩
 case round =>
  clear H';obtain ⟨x11_1,rfl,HA,HK1,⟨m1,rfl⟩⟩:=hrel
  cases gk with
  | zero=>exact absurd HA.out (by simp [dt.l0])
  | succ k1 =>
   have H:=HA.out;clear HA;simp only [dt.l0] at H;by_cases c4:x11_1 < (l0.length:Int)
   ·rw [if_pos c4] at H;have c4b0:=decide_eq_true c4;clear c4;replace H:=iN H;obtain ⟨c5,H⟩:=H;have c5b0:decide (0 ≤ x11_1) = true:=decide_eq_true c5;clear c5;replace H:=iN H;obtain ⟨c6,H⟩:=H;have c6b0:decide (x11_1 < (l0.length:Int)) = true:=decide_eq_true c6;clear c6;replace H:=oB H;obtain ⟨t9,A7,H⟩:=H;(try dsimp only at H)
    by_cases c8:t9 = true
    ·subst c8;rw [if_pos rfl] at H;have H':=aM H;clear H;have p3:0 ≤ (x11_1:Int):=of_decide_eq_true ab;have q3:x11_1 < (l0.length:Int):=of_decide_eq_true ab;obtain ⟨ad3,e3,hx3_0⟩:=Kd.bK HR0.out x11_1 p3 q3;cases e3
     replace p3:=eq_true p3;replace q3:=eq_true q3;go_wp2_with (first|((with_reducible refine ah (f:=86) rfl ?_);refine gL 18 Tryz.func86 #[.int .i64 (rd l0 x11_1),.int .i64 a1,.int .i64 a2] ?_;(with_reducible refine (cv.calls (rd l0 x11_1) a1 a2 true _ A7.out).mono ?_);rintro e w' ⟨rfl,⟨nd,rfl⟩⟩;refine ⟨_,rfl,?_⟩))
     go_roundg k1
     case measure=>have:=HK1.out;omega
     case rel=>exact ⟨(wrap64 (x11_1 + 1)),qrs,H',⟨by have:=HK1.out;omega⟩,by repeat (first|exact bo.refl _|apply bo.step)⟩
    ·replace c8:=Bool.eq_false_iff.mpr c8;subst c8;rw [if_neg (show ¬ (false = true) by decide)] at H;obtain rfl:=Option.some.inj H;have p3:0 ≤ (x11_1:Int):=of_decide_eq_true ab;have q3:x11_1 < (l0.length:Int):=of_decide_eq_true ab;obtain ⟨ad3,e3,hx3_0⟩:=Kd.bK HR0.out x11_1 p3 q3;cases e3
     replace p3:=eq_true p3;replace q3:=eq_true q3;go_wp2_with (first|((with_reducible refine ah (f:=86) rfl ?_);refine gL 18 Tryz.func86 #[.int .i64 (rd l0 x11_1),.int .i64 a1,.int .i64 a2] ?_;(with_reducible refine (cv.calls (rd l0 x11_1) a1 a2 false _ A7.out).mono ?_);rintro e w' ⟨rfl,⟨nd,rfl⟩⟩;refine ⟨_,rfl,?_⟩))
     go_ret
     exact ⟨qrs,dR⟩
   ·rw [if_neg c4] at H;have c4b0:=decide_eq_false c4;clear c4;obtain rfl:=Option.some.inj H;go_wp2
    go_ret
    exact ⟨qrs,dR⟩


def ck.j0:Nat → Bool → Int → List Int → Option (Bool)
 | 0,_,_,_=>none
 | k + 1,x13,x4,x5=>if x13 = true then (some false) else ((bz.f k x5).bind fun t2=>((cv.f x4 1 t2).bind fun t3=>(some t3)))
def ck.f (k:Nat) (a0_0:Int) (l0_1:List Int):Option (Bool):=(cv.f (l0_1.length:Int) 1 9).bind fun t2=>(if t2 = true then ((dt.f k l0_1 0 1000).bind fun t3=>(ck.j0 k (!t3) a0_0 l0_1)) else (ck.j0 k true a0_0 l0_1))
theorem ck.calls (k:Nat) (a0_0:Int) (A0_1:Option Addr) (c0_1:Nat) (l0_1:List Int) (r:Bool) (w:World) (hr0_1:Kd.C (Kd.int .i64) w A0_1 l0_1.length l0_1) (hc0_1:l0_1.length ≤ c0_1) (h:ck.f k a0_0 l0_1 = some r) :
  Calls Tryz.prog 85 #[.agg #[.int .i64 a0_0,.slice A0_1 l0_1.length c0_1]] w fun e w'=>e = .returned (.bool r) ∧ Below w.heap.size w w':=by
 have hu26:=Tryz.underlying26;have HR0_1:=aM hr0_1;have HC0_1:=aM hc0_1;clear hr0_1 hc0_1;have HB:=aM (Below.refl w.heap.size w);have H:((cv.f (l0_1.length:Int) 1 9).bind fun t15=>(if t15 = true then ((dt.f k l0_1 0 1000).bind fun t16=>(ck.j0 k (!t16) a0_0 l0_1)) else (ck.j0 k true a0_0 l0_1))) = some r:=h;clear h;have HC2:=aM H;clear H;go_enter Tryz.func85,Tryz.ntmps85;go_upto_region 1 with (first|((with_reducible refine aC (N:=1) rfl ?_);refine bE 1 #[.int .i64 a0_0,.slice A0_1 l0_1.length c0_1] 26 ?_;intro gb14 hg w3 hbox hb;have BK14:=aM (hbox);have GW14:=aM (gS hg);have GE14:=aM (gS hg);replace HB:=aM (ae bw hb);clear hb hbox hg))
 repeat (go_quiet (first|((with_reducible refine aC (N:=1) rfl ?_);refine bE 1 #[.int .i64 a0_0,.slice A0_1 l0_1.length c0_1] 26 ?_;intro gb14 hg w3 hbox hb;have BK14:=aM (hbox);have GW14:=aM (gS hg);have GE14:=aM (gS hg);replace HB:=aM (ae bw hb);clear hb hbox hg));go_upto_region 1 with (first|((with_reducible refine aC (N:=1) rfl ?_);refine bE 1 #[.int .i64 a0_0,.slice A0_1 l0_1.length c0_1] 26 ?_;intro gb14 hg w3 hbox hb;have BK14:=aM (hbox);have GW14:=aM (gS hg);have GE14:=aM (gS hg);replace HB:=aM (ae bw hb);clear hb hbox hg)))
 (try simp only [Act.put,sA,sZ,sS])
 go_cut [13] (fun v13 wc=>∃ (kq:Nat) (x13_1:Bool),v13 = .bool x13_1 ∧ ak (ck.j0 kq x13_1 a0_0 l0_1 = some r) ∧ ak (kq ≤ k) ∧ ak (wc.heap[gb14]? = some (.cells #[.int .i64 a0_0,(.slice A0_1 l0_1.length c0_1)] 26 (0,0))) ∧ ak (Below w.heap.size w wc))
 case first =>
  have H:=HC2.out;clear HC2;replace H:=oB H;obtain ⟨t15,A4,H⟩:=H;(try dsimp only at H)
  by_cases c5:t15 = true
  ·subst c5;rw [if_pos rfl] at H;replace H:=oB H;obtain ⟨t16,A6,H⟩:=H;(try dsimp only at H)
   have H':=aM H;clear H;have hcz7_0:=cz BK14.out 0;have hcz7_1:=cz BK14.out 1;have hfz7_0:=aa BK14.out 0;have hfz7_1:=aa BK14.out 1;go_wp2_with (first|(go_at_call 86;(with_reducible refine (cv.calls (l0_1.length:Int) 1 9 true _ A4.out).mono ?_);rintro e w' ⟨rfl,⟨nd,rfl⟩⟩;(try exact dW))|(go_at_call 103;(with_reducible refine (dt.calls k _ _ l0_1 0 1000 t16 _ ?side1 ?side2 A6.out).mono ?_);(case side1=>exact qc (Kd.dF HR0_1.out bw));(case side2=>exact HC0_1.out);rintro e w' ⟨rfl,⟨nd,rfl⟩⟩;(try exact dW)))
   repeat (go_quiet (first|(go_at_call 86;(with_reducible refine (cv.calls (l0_1.length:Int) 1 9 true _ A4.out).mono ?_);rintro e w' ⟨rfl,⟨nd,rfl⟩⟩;(try exact dW))|(go_at_call 103;(with_reducible refine (dt.calls k _ _ l0_1 0 1000 t16 _ ?side1 ?side2 A6.out).mono ?_);(case side1=>exact qc (Kd.dF HR0_1.out bw));(case side2=>exact HC0_1.out);rintro e w' ⟨rfl,⟨nd,rfl⟩⟩;(try exact dW)));try go_wp2_with (first|(go_at_call 86;(with_reducible refine (cv.calls (l0_1.length:Int) 1 9 true _ A4.out).mono ?_);rintro e w' ⟨rfl,⟨nd,rfl⟩⟩;(try exact dW))|(go_at_call 103;(with_reducible refine (dt.calls k _ _ l0_1 0 1000 t16 _ ?side1 ?side2 A6.out).mono ?_);(case side1=>exact qc (Kd.dF HR0_1.out bw));(case side2=>exact HC0_1.out);rintro e w' ⟨rfl,⟨nd,rfl⟩⟩;(try exact dW))))
   go_meet
   case rel=>exact ⟨_,(!t16),qrs,H',⟨by first|omega|exact Nat.le_refl _⟩,⟨bk1 BK14.out⟩,⟨by exact bw⟩⟩
  ·replace c5:=Bool.eq_false_iff.mpr c5;subst c5;rw [if_neg (show ¬ (false = true) by decide)] at H;have H':=aM H;clear H;have hcz8_0:=cz BK14.out 0;have hcz8_1:=cz BK14.out 1;have hfz8_0:=aa BK14.out 0;have hfz8_1:=aa BK14.out 1;go_wp2_with (first|(go_at_call 86;(with_reducible refine (cv.calls (l0_1.length:Int) 1 9 false _ A4.out).mono ?_);rintro e w' ⟨rfl,⟨nd,rfl⟩⟩;(try exact dW)))
   repeat (go_quiet (first|(go_at_call 86;(with_reducible refine (cv.calls (l0_1.length:Int) 1 9 false _ A4.out).mono ?_);rintro e w' ⟨rfl,⟨nd,rfl⟩⟩;(try exact dW)));try go_wp2_with (first|(go_at_call 86;(with_reducible refine (cv.calls (l0_1.length:Int) 1 9 false _ A4.out).mono ?_);rintro e w' ⟨rfl,⟨nd,rfl⟩⟩;(try exact dW))))
   go_meet
   case rel=>exact ⟨_,(true),qrs,H',⟨by first|omega|exact Nat.le_refl _⟩,⟨bk1 BK14.out⟩,⟨by exact bw⟩⟩
 case rest =>
  clear HC2;(try clear c5);(try clear hcz7_0);(try clear hcz7_1);(try clear hcz8_0);(try clear hcz8_1);(try clear hfz7_0);(try clear hfz7_1);(try clear hfz8_0);(try clear hfz8_1)
  obtain ⟨kq,x13_1,rfl,HA,HJ1,BK14,HB⟩:=hcut
  cases kq with
  | zero=>exact absurd HA.out (by simp [ck.j0])
  | succ kj1 =>
   have H:=HA.out;clear HA;simp only [ck.j0] at H;by_cases c9:x13_1 = true
   ·subst c9;rw [if_pos rfl] at H;obtain rfl:=Option.some.inj H;go_wp2
    repeat (go_quiet (fail);try go_wp2)
    go_ret
    exact ⟨eE,by exact bw⟩
   ·replace c9:=Bool.eq_false_iff.mpr c9;subst c9;rw [if_neg (show ¬ (false = true) by decide)] at H;replace H:=oB H;obtain ⟨t17,A10,H⟩:=H;(try dsimp only at H)
    replace H:=oB H;obtain ⟨t18,A11,H⟩:=H;(try dsimp only at H)
    obtain rfl:=Option.some.inj H;have hcz12_0:=cz BK14.out 0;have hcz12_1:=cz BK14.out 1;have hfz12_0:=aa BK14.out 0;have hfz12_1:=aa BK14.out 1;go_wp2_with (first|(go_at_call 67;(with_reducible refine (bz.calls kj1 _ _ l0_1 t17 _ ?side1 ?side2 A10.out).mono ?_);(case side1=>exact qcs HR0_1.out HB.out);(case side2=>exact HC0_1.out);rintro e w' ⟨rfl,⟨nd,rfl⟩⟩;(try exact dW))|(go_at_call 86;(with_reducible refine (cv.calls a0_0 1 t17 t18 _ A11.out).mono ?_);rintro e w' ⟨rfl,⟨nd,rfl⟩⟩;(try exact dW)))
    repeat (go_quiet (first|(go_at_call 67;(with_reducible refine (bz.calls kj1 _ _ l0_1 t17 _ ?side1 ?side2 A10.out).mono ?_);(case side1=>exact qcs HR0_1.out HB.out);(case side2=>exact HC0_1.out);rintro e w' ⟨rfl,⟨nd,rfl⟩⟩;(try exact dW))|(go_at_call 86;(with_reducible refine (cv.calls a0_0 1 t17 t18 _ A11.out).mono ?_);rintro e w' ⟨rfl,⟨nd,rfl⟩⟩;(try exact dW)));try go_wp2_with (first|(go_at_call 67;(with_reducible refine (bz.calls kj1 _ _ l0_1 t17 _ ?side1 ?side2 A10.out).mono ?_);(case side1=>exact qcs HR0_1.out HB.out);(case side2=>exact HC0_1.out);rintro e w' ⟨rfl,⟨nd,rfl⟩⟩;(try exact dW))|(go_at_call 86;(with_reducible refine (cv.calls a0_0 1 t17 t18 _ A11.out).mono ?_);rintro e w' ⟨rfl,⟨nd,rfl⟩⟩;(try exact dW))))
    go_ret
    exact ⟨eE,by exact bw⟩


def bM.f (k:Nat) (a0_0:Int) (l0_1:List Int) (a1:Int):Option (Bool):=(ck.f k a0_0 l0_1).bind fun t2=>(if t2 = true then ((cv.f a1 0 (wrap64 ((l0_1.length:Int) - 1))).bind fun t3=>(some t3)) else (some false))
theorem bM.calls (k:Nat) (a0_0:Int) (A0_1:Option Addr) (c0_1:Nat) (l0_1:List Int) (a1:Int) (r:Bool) (w:World) (hr0_1:Kd.C (Kd.int .i64) w A0_1 l0_1.length l0_1) (hc0_1:l0_1.length ≤ c0_1) (h:bM.f k a0_0 l0_1 a1 = some r) :
  Calls Tryz.prog 48 #[.agg #[.int .i64 a0_0,.slice A0_1 l0_1.length c0_1],.int .i64 a1] w fun e w'=>e = .returned (.bool r) ∧ Below w.heap.size w w':=by
 have hu26:=Tryz.underlying26;have HR0_1:=aM hr0_1;have HC0_1:=aM hc0_1;clear hr0_1 hc0_1;have HB:=aM (Below.refl w.heap.size w);have H:((ck.f k a0_0 l0_1).bind fun t14=>(if t14 = true then ((cv.f a1 0 (wrap64 ((l0_1.length:Int) - 1))).bind fun t15=>(some t15)) else (some false))) = some r:=h;clear h;replace H:=oB H;obtain ⟨t14,A3,H⟩:=H;(try dsimp only at H)
 by_cases c4:t14 = true
 ·subst c4;rw [if_pos rfl] at H;replace H:=oB H;obtain ⟨t15,A5,H⟩:=H;(try dsimp only at H)
  obtain rfl:=Option.some.inj H;go_enter Tryz.func48,Tryz.ntmps48;go_wp2_with (first|((with_reducible refine aC (N:=2) rfl ?_);(try (refine cm (by rfl) ?_;dsimp only));refine bE 2 #[.int .i64 a0_0,.slice A0_1 l0_1.length c0_1] 26 ?_;intro gb13 hg w6 hbox hb;have BK13:=aM (hbox);have GW13:=aM (gS hg);have GE13:=aM (gS hg);replace HB:=aM (ae bw hb);clear hb hbox hg;have hcz7_0:=cz BK13.out 0;have hcz7_1:=cz BK13.out 1;have hfz7_0:=aa BK13.out 0;have hfz7_1:=aa BK13.out 1)|((with_reducible refine ah (f:=85) rfl ?_);refine gL 6 Tryz.func85 #[.agg #[.int .i64 a0_0,.slice A0_1 l0_1.length c0_1]] ?_;(with_reducible refine (ck.calls k a0_0 _ _ l0_1 true _ ?side1 ?side2 A3.out).mono ?_);(case side1=>exact qcs HR0_1.out HB.out);(case side2=>exact HC0_1.out);rintro e w8 ⟨rfl,hb⟩;refine ⟨_,rfl,?_⟩;replace BK13:=aM (bB BK13.out hb);replace HB:=aM (ae bw hb);(try clear hb);have hcz9_0:=cz BK13.out 0;have hcz9_1:=cz BK13.out 1;have hfz9_0:=aa BK13.out 0;have hfz9_1:=aa BK13.out 1)|(go_at_call 86;(with_reducible refine (cv.calls a1 0 (wrap64 ((l0_1.length:Int) - 1)) t15 _ A5.out).mono ?_);rintro e w' ⟨rfl,⟨nd,rfl⟩⟩))
  go_ret
  exact ⟨eE,by exact bw⟩
 ·replace c4:=Bool.eq_false_iff.mpr c4;subst c4;rw [if_neg (show ¬ (false = true) by decide)] at H;obtain rfl:=Option.some.inj H;go_enter Tryz.func48,Tryz.ntmps48;go_wp2_with (first|((with_reducible refine aC (N:=2) rfl ?_);(try (refine cm (by rfl) ?_;dsimp only));refine bE 2 #[.int .i64 a0_0,.slice A0_1 l0_1.length c0_1] 26 ?_;intro gb13 hg w10 hbox hb;have BK13:=aM (hbox);have GW13:=aM (gS hg);have GE13:=aM (gS hg);replace HB:=aM (ae bw hb);clear hb hbox hg;have hcz11_0:=cz BK13.out 0;have hcz11_1:=cz BK13.out 1;have hfz11_0:=aa BK13.out 0;have hfz11_1:=aa BK13.out 1)|((with_reducible refine ah (f:=85) rfl ?_);refine gL 6 Tryz.func85 #[.agg #[.int .i64 a0_0,.slice A0_1 l0_1.length c0_1]] ?_;(with_reducible refine (ck.calls k a0_0 _ _ l0_1 false _ ?side1 ?side2 A3.out).mono ?_);(case side1=>exact qcs HR0_1.out HB.out);(case side2=>exact HC0_1.out);rintro e w12 ⟨rfl,hb⟩;refine ⟨_,rfl,?_⟩;replace BK13:=aM (bB BK13.out hb);replace HB:=aM (ae bw hb);(try clear hb)))
  go_ret
  exact ⟨eE,by exact bw⟩


def dh.f (k:Nat) (a0_0:Int) (l0_1:List Int) (a1:Int) (a2:Int):Option (Bool):=(bM.f k a0_0 l0_1 a1).bind fun t3=>(if t3 = true then ((bM.f k a0_0 l0_1 a2).bind fun t4=>(if t4 = true then (some (a1 != a2)) else (some false))) else (some false))
theorem dh.calls (k:Nat) (a0_0:Int) (A0_1:Option Addr) (c0_1:Nat) (l0_1:List Int) (a1:Int) (a2:Int) (r:Bool) (w:World) (hr0_1:Kd.C (Kd.int .i64) w A0_1 l0_1.length l0_1) (hc0_1:l0_1.length ≤ c0_1) (h:dh.f k a0_0 l0_1 a1 a2 = some r) :
  Calls Tryz.prog 30 #[.agg #[.int .i64 a0_0,.slice A0_1 l0_1.length c0_1],.int .i64 a1,.int .i64 a2] w fun e w'=>e = .returned (.bool r) ∧ Below w.heap.size w w':=by
 have hu26:=Tryz.underlying26;have HR0_1:=aM hr0_1;have HC0_1:=aM hc0_1;clear hr0_1 hc0_1;have HB:=aM (Below.refl w.heap.size w);have H:((bM.f k a0_0 l0_1 a1).bind fun t21=>(if t21 = true then ((bM.f k a0_0 l0_1 a2).bind fun t22=>(if t22 = true then (some (a1 != a2)) else (some false))) else (some false))) = some r:=h;clear h;replace H:=oB H;obtain ⟨t21,A4,H⟩:=H;(try dsimp only at H)
 by_cases c5:t21 = true
 ·subst c5;rw [if_pos rfl] at H;replace H:=oB H;obtain ⟨t22,A6,H⟩:=H;(try dsimp only at H)
  by_cases c7:t22 = true
  ·subst c7;rw [if_pos rfl] at H;obtain rfl:=Option.some.inj H;go_enter Tryz.func30,Tryz.ntmps30;go_wp2_with (first|((with_reducible refine aC (N:=3) rfl ?_);refine bE 3 #[.int .i64 a0_0,.slice A0_1 l0_1.length c0_1] 26 ?_;intro gb3 hg w8 hbox hb;have BK3:=aM (hbox);have GW3:=aM (gS hg);have GE3:=aM (gS hg);replace HB:=aM (ae bw hb);clear hb hbox hg;have hcz9_0:=cz BK3.out 0;have hcz9_1:=cz BK3.out 1;have hfz9_0:=aa BK3.out 0;have hfz9_1:=aa BK3.out 1)|((with_reducible refine ah (f:=48) rfl ?_);refine gL 9 Tryz.func48 #[.agg #[.int .i64 a0_0,.slice A0_1 l0_1.length c0_1],.int .i64 a1] ?_;(with_reducible refine (bM.calls k a0_0 _ _ l0_1 a1 true _ ?side1 ?side2 A4.out).mono ?_);(case side1=>exact qcs HR0_1.out HB.out);(case side2=>exact HC0_1.out);rintro e w10 ⟨rfl,hb⟩;refine ⟨_,rfl,?_⟩;replace BK3:=aM (bB BK3.out hb);replace HB:=aM (ae bw hb);(try clear hb);have hcz11_0:=cz BK3.out 0;have hcz11_1:=cz BK3.out 1;have hfz11_0:=aa BK3.out 0;have hfz11_1:=aa BK3.out 1)|(go_at_call 48;(with_reducible refine (bM.calls k a0_0 _ _ l0_1 a2 true _ ?side1 ?side2 A6.out).mono ?_);(case side1=>exact qcs HR0_1.out HB.out);(case side2=>exact HC0_1.out);rintro e w12 ⟨rfl,hb⟩;replace BK3:=aM (bB BK3.out hb);replace HB:=aM (ae bw hb);(try clear hb)))
   go_ret
   exact ⟨eE,by exact bw⟩
  ·replace c7:=Bool.eq_false_iff.mpr c7;subst c7;rw [if_neg (show ¬ (false = true) by decide)] at H;obtain rfl:=Option.some.inj H;go_enter Tryz.func30,Tryz.ntmps30;go_wp2_with (first|((with_reducible refine aC (N:=3) rfl ?_);refine bE 3 #[.int .i64 a0_0,.slice A0_1 l0_1.length c0_1] 26 ?_;intro gb3 hg w13 hbox hb;have BK3:=aM (hbox);have GW3:=aM (gS hg);have GE3:=aM (gS hg);replace HB:=aM (ae bw hb);clear hb hbox hg;have hcz14_0:=cz BK3.out 0;have hcz14_1:=cz BK3.out 1;have hfz14_0:=aa BK3.out 0;have hfz14_1:=aa BK3.out 1)|((with_reducible refine ah (f:=48) rfl ?_);refine gL 9 Tryz.func48 #[.agg #[.int .i64 a0_0,.slice A0_1 l0_1.length c0_1],.int .i64 a1] ?_;(with_reducible refine (bM.calls k a0_0 _ _ l0_1 a1 true _ ?side1 ?side2 A4.out).mono ?_);(case side1=>exact qcs HR0_1.out HB.out);(case side2=>exact HC0_1.out);rintro e w15 ⟨rfl,hb⟩;refine ⟨_,rfl,?_⟩;replace BK3:=aM (bB BK3.out hb);replace HB:=aM (ae bw hb);(try clear hb);have hcz16_0:=cz BK3.out 0;have hcz16_1:=cz BK3.out 1;have hfz16_0:=aa BK3.out 0;have hfz16_1:=aa BK3.out 1)|(go_at_call 48;(with_reducible refine (bM.calls k a0_0 _ _ l0_1 a2 false _ ?side1 ?side2 A6.out).mono ?_);(case side1=>exact qcs HR0_1.out HB.out);(case side2=>exact HC0_1.out);rintro e w17 ⟨rfl,hb⟩;replace BK3:=aM (bB BK3.out hb);replace HB:=aM (ae bw hb);(try clear hb)))
   go_ret
   exact ⟨eE,by exact bw⟩
 ·replace c5:=Bool.eq_false_iff.mpr c5;subst c5;rw [if_neg (show ¬ (false = true) by decide)] at H;obtain rfl:=Option.some.inj H;go_enter Tryz.func30,Tryz.ntmps30;go_wp2_with (first|((with_reducible refine aC (N:=3) rfl ?_);refine bE 3 #[.int .i64 a0_0,.slice A0_1 l0_1.length c0_1] 26 ?_;intro gb3 hg w18 hbox hb;have BK3:=aM (hbox);have GW3:=aM (gS hg);have GE3:=aM (gS hg);replace HB:=aM (ae bw hb);clear hb hbox hg;have hcz19_0:=cz BK3.out 0;have hcz19_1:=cz BK3.out 1;have hfz19_0:=aa BK3.out 0;have hfz19_1:=aa BK3.out 1)|((with_reducible refine ah (f:=48) rfl ?_);refine gL 9 Tryz.func48 #[.agg #[.int .i64 a0_0,.slice A0_1 l0_1.length c0_1],.int .i64 a1] ?_;(with_reducible refine (bM.calls k a0_0 _ _ l0_1 a1 false _ ?side1 ?side2 A4.out).mono ?_);(case side1=>exact qcs HR0_1.out HB.out);(case side2=>exact HC0_1.out);rintro e w20 ⟨rfl,hb⟩;refine ⟨_,rfl,?_⟩;replace BK3:=aM (bB BK3.out hb);replace HB:=aM (ae bw hb);(try clear hb)))
  go_ret
  exact ⟨eE,by exact bw⟩


def cQ.l0:Nat → Int → List Bool → Int → Int → Option (Int)
 | 0,_,_,_,_=>none
 | k + 1,x3,x6,x7,x8=>if x8 < x7 then (if 0 ≤ x8 then (if x8 < (x6.length:Int) then (if iQ false x6 x8 = true then (cQ.l0 k (wrap64 (x3 + 1)) x6 x7 (wrap64 (x8 + 1))) else (cQ.l0 k x3 x6 x7 (wrap64 (x8 + 1)))) else (none)) else (none)) else (some x3)
def cQ.f (k:Nat) (l0:List Bool):Option (Int):=cQ.l0 k 0 l0 (l0.length:Int) 0
theorem cQ.calls (k:Nat) (A0:Option Addr) (c0:Nat) (l0:List Bool) (r:Int) (w:World) (hr0:Kd.C Kd.bool w A0 l0.length l0) (hc0:l0.length ≤ c0) (h:cQ.f k l0 = some r) :
  Calls Tryz.prog 31 #[.slice A0 l0.length c0] w fun e w'=>e = .returned (.int .i64 r) ∧ bo w w':=by
 have HR0:=aM hr0;have HC0:=aM hc0;clear hr0 hc0;have H:(cQ.l0 k 0 l0 (l0.length:Int) 0) = some r:=h;clear h;have H':=aM H;clear H;go_enter Tryz.func31,Tryz.ntmps31;go_wp2
 go_loopg [3,8] k (fun kq v3 v8 w'=>∃ (x3_1:Int) (x8_1:Int),v3 = .int .i64 x3_1 ∧ v8 = .int .i64 x8_1 ∧ ak (cQ.l0 kq x3_1 l0 (l0.length:Int) x8_1 = some r) ∧ ak (kq ≤ k) ∧ bo w w')
 case atStart=>exact ⟨(0),(0),qrs,qrs,H',⟨Nat.le_refl _⟩,by repeat (first|exact bo.refl _|apply bo.step)⟩
 case round =>
  clear H';obtain ⟨x3_1,x8_1,rfl,rfl,HA,HK1,⟨m1,rfl⟩⟩:=hrel
  cases gk with
  | zero=>exact absurd HA.out (by simp [cQ.l0])
  | succ k1 =>
   have H:=HA.out;clear HA;simp only [cQ.l0] at H;by_cases c2:x8_1 < (l0.length:Int)
   ·rw [if_pos c2] at H;have c2b0:=decide_eq_true c2;clear c2;replace H:=iN H;obtain ⟨c3,H⟩:=H;have c3b0:decide (0 ≤ x8_1) = true:=decide_eq_true c3;clear c3;replace H:=iN H;obtain ⟨c4,H⟩:=H;have c4b0:decide (x8_1 < (l0.length:Int)) = true:=decide_eq_true c4;clear c4;obtain ⟨bq5,hbq5⟩:∃ b_:Bool,b_ = (iQ false l0 x8_1):=⟨_,rfl⟩;rw [← hbq5] at H;have Nbq5:=aM hbq5;clear hbq5;by_cases c6:bq5 = true
    ·subst c6;rw [if_pos rfl] at H;have H':=aM H;clear H;have p7:0 ≤ (x8_1:Int):=of_decide_eq_true ab;have q7:x8_1 < (l0.length:Int):=of_decide_eq_true ab;obtain ⟨ad7,e7,hx7_0⟩:=Kd.dS HR0.out x8_1 p7 q7;(try rw [← Nbq5.out] at hx7_0)
     cases e7
     replace p7:=eq_true p7;replace q7:=eq_true q7;go_wp2
     go_roundg k1
     case measure=>have:=HK1.out;omega
     case rel=>exact ⟨(wrap64 (x3_1 + 1)),(wrap64 (x8_1 + 1)),qrs,qrs,H',⟨by have:=HK1.out;omega⟩,by repeat (first|exact bo.refl _|apply bo.step)⟩
    ·replace c6:=Bool.eq_false_iff.mpr c6;subst c6;rw [if_neg (show ¬ (false = true) by decide)] at H;have H':=aM H;clear H;have p7:0 ≤ (x8_1:Int):=of_decide_eq_true ab;have q7:x8_1 < (l0.length:Int):=of_decide_eq_true ab;obtain ⟨ad7,e7,hx7_0⟩:=Kd.dS HR0.out x8_1 p7 q7;(try rw [← Nbq5.out] at hx7_0)
     cases e7
     replace p7:=eq_true p7;replace q7:=eq_true q7;go_wp2
     go_roundg k1
     case measure=>have:=HK1.out;omega
     case rel=>exact ⟨(x3_1),(wrap64 (x8_1 + 1)),qrs,qrs,H',⟨by have:=HK1.out;omega⟩,by repeat (first|exact bo.refl _|apply bo.step)⟩
   ·rw [if_neg c2] at H;have c2b0:=decide_eq_false c2;clear c2;obtain rfl:=Option.some.inj H;go_wp2
    go_ret
    exact ⟨qrs,dR⟩


def eL.f (a0:Int):Option (Int):=if 0 ≤ a0 then (some (wrap64 ((shl .i64 1 a0) - 1))) else (none)
theorem eL.calls (a0:Int) (r:Int) (w:World) (h:eL.f a0 = some r) :
  Calls Tryz.prog 77 #[.int .i64 a0] w fun e w'=>e = .returned (.int .i64 r) ∧ bo w w':=by
 have H:(if 0 ≤ a0 then (some (wrap64 ((shl .i64 1 a0) - 1))) else (none)) = some r:=h;clear h;replace H:=iN H;obtain ⟨c2,H⟩:=H;have c2b0:=eq_true c2;have c2b1:decide (0 ≤ a0) = true:=decide_eq_true c2;clear c2;obtain ⟨ji3,hji3⟩:∃ j_:Int,(shl .i64 1 a0) = j_:=⟨_,rfl⟩;(first|rw [hji3] at H|simp only [hji3] at H)
 have hji3_:(IntKind.i64.wrap (1 * 2 ^ min a0.toNat 64)) = ji3:=hji3;have hji3z:a0 ≤ 64 → (IntKind.i64.wrap (1 * 2 ^ a0.toNat)) = ji3:=fX hji3;have hji3u:(IntKind.i64.wrap (2 ^ min a0.toNat 64)) = ji3:=by have h_:=hji3_;rw [Int.one_mul] at h_;exact h_
 have hji3v:a0 ≤ 64 → (IntKind.i64.wrap (2 ^ a0.toNat)) = ji3:=fun hle_=>by have h_:=hji3z hle_;rw [Int.one_mul] at h_;exact h_
 have hji3y:(wrap64 (1 * 2 ^ min a0.toNat 64)) = ji3:=(dl _).symm.trans hji3_;have hji3x:a0 ≤ 64 → (wrap64 (1 * 2 ^ a0.toNat)) = ji3:=fun h_=>(dl _).symm.trans (hji3z h_)
 obtain rfl:=Option.some.inj H;go_enter Tryz.func77,Tryz.ntmps77;go_wp2
 go_ret
 exact ⟨by first|rfl|(simp;done)|(simp only [← hji3] <;> (first|rfl|simp))|(simp [*];done),by repeat (first|exact bo.refl _|apply bo.step)⟩


def cx.l0:Nat → Int → Int → List Int → Int → Int → Option (Int)
 | 0,_,_,_,_,_=>none
 | k + 1,x1,x5,x9,x10,x11=>if x11 < x10 then (if 0 ≤ x11 then (if x11 < (x9.length:Int) then (if (Int.tmod (shr .i64 x1 x11) 2) = 1 then (cx.l0 k x1 (wrap64 (x5 + (rd x9 x11))) x9 x10 (wrap64 (x11 + 1))) else (cx.l0 k x1 x5 x9 x10 (wrap64 (x11 + 1)))) else (none)) else (none)) else (some x5)
def cx.f (k:Nat) (a0_0:Int) (l0_1:List Int) (a1:Int):Option (Int):=cx.l0 k a1 0 l0_1 (l0_1.length:Int) 0
theorem cx.calls (k:Nat) (a0_0:Int) (A0_1:Option Addr) (c0_1:Nat) (l0_1:List Int) (a1:Int) (r:Int) (w:World) (hr0_1:Kd.C (Kd.int .i64) w A0_1 l0_1.length l0_1) (hc0_1:l0_1.length ≤ c0_1) (h:cx.f k a0_0 l0_1 a1 = some r) :
  Calls Tryz.prog 78 #[.agg #[.int .i64 a0_0,.slice A0_1 l0_1.length c0_1],.int .i64 a1] w fun e w'=>e = .returned (.int .i64 r) ∧ Below w.heap.size w w':=by
 have hu26:=Tryz.underlying26;have HR0_1:=aM hr0_1;have HC0_1:=aM hc0_1;clear hr0_1 hc0_1;have HB:=aM (Below.refl w.heap.size w);have H:(cx.l0 k a1 0 l0_1 (l0_1.length:Int) 0) = some r:=h;clear h;have H':=aM H;clear H;go_enter Tryz.func78,Tryz.ntmps78;go_wp2_with (first|((with_reducible refine aC (N:=2) rfl ?_);refine bE 2 #[.int .i64 a0_0,.slice A0_1 l0_1.length c0_1] 26 ?_;intro gb12 hg w3 hbox hb;have BK12:=aM (hbox);have GW12:=aM (gS hg);have GE12:=aM (gS hg);replace HB:=aM (ae bw hb);clear hb hbox hg;have hcz4_0:=cz BK12.out 0;have hcz4_1:=cz BK12.out 1;have hfz4_0:=aa BK12.out 0;have hfz4_1:=aa BK12.out 1))
 go_loopg [5,11] k (fun kq v5 v11 w'=>∃ (x5_1:Int) (x11_1:Int),v5 = .int .i64 x5_1 ∧ v11 = .int .i64 x11_1 ∧ ak (cx.l0 kq a1 x5_1 l0_1 (l0_1.length:Int) x11_1 = some r) ∧ ak (kq ≤ k) ∧ ak (w'.heap[gb12]? = some (.cells #[.int .i64 a0_0,(.slice A0_1 l0_1.length c0_1)] 26 (0,0))) ∧ ak (Below w.heap.size w w'))
 case atStart=>exact ⟨(0),(0),qrs,qrs,H',⟨Nat.le_refl _⟩,⟨bk1 BK12.out⟩,⟨by exact bw⟩⟩
 case round =>
  clear H';(try clear hcz4_0);(try clear hcz4_1);(try clear hfz4_0);(try clear hfz4_1)
  obtain ⟨x5_1,x11_1,rfl,rfl,HA,HK1,BK12,HB⟩:=hrel
  cases gk with
  | zero=>exact absurd HA.out (by simp [cx.l0])
  | succ k1 =>
   have H:=HA.out;clear HA;simp only [cx.l0] at H;by_cases c5:x11_1 < (l0_1.length:Int)
   ·rw [if_pos c5] at H;have c5b0:=decide_eq_true c5;clear c5;replace H:=iN H;obtain ⟨c6,H⟩:=H;have c6b0:decide (0 ≤ x11_1) = true:=decide_eq_true c6;clear c6;replace H:=iN H;obtain ⟨c7,H⟩:=H;have c7b0:decide (x11_1 < (l0_1.length:Int)) = true:=decide_eq_true c7;clear c7;have c8b0:=eq_true (of_decide_eq_true ab:0 ≤ x11_1);obtain ⟨ji9,hji9⟩:∃ j_:Int,(shr .i64 a1 x11_1) = j_:=⟨_,rfl⟩;(first|rw [hji9] at H|simp only [hji9] at H)
    have hji9_:(a1 / 2 ^ min x11_1.toNat 64) = ji9:=hji9;have hji9z:x11_1 ≤ 64 → (a1 / 2 ^ x11_1.toNat) = ji9:=fu hji9;by_cases c10:(Int.tmod (ji9) 2) = 1
    ·rw [if_pos c10] at H;have c10b0:((Int.tmod (ji9) 2) == 1) = true:=beq_iff_eq.mpr c10;have c10b1:((Int.tmod (ji9) 2) != 1) = false:=bne_eq_false_iff_eq.mpr c10;clear c10;have H':=aM H;clear H;have p13:0 ≤ (x11_1:Int):=of_decide_eq_true ab;have q13:x11_1 < (l0_1.length:Int):=of_decide_eq_true ab;obtain ⟨ad13,e13,hx13_0⟩:=Kd.bK HR0_1.out x11_1 p13 q13;cases e13
     replace hx13_0:=(HB.out.cell (World.block_lt_of_cell? w _ hx13_0)).trans hx13_0;replace p13:=eq_true p13;replace q13:=eq_true q13;go_wp2
     go_roundg k1
     case measure=>have:=HK1.out;omega
     case rel=>exact ⟨(wrap64 (x5_1 + (rd l0_1 x11_1))),(wrap64 (x11_1 + 1)),qrs,qrs,H',⟨by have:=HK1.out;omega⟩,⟨bk1 BK12.out⟩,⟨by exact bw⟩⟩
    ·rw [if_neg c10] at H;have c10b0:((Int.tmod (ji9) 2) == 1) = false:=beq_eq_false_iff_ne.mpr c10;have c10b1:((Int.tmod (ji9) 2) != 1) = true:=bne_iff_ne.mpr c10;have H':=aM H;clear H;have p13:0 ≤ (x11_1:Int):=of_decide_eq_true ab;have q13:x11_1 < (l0_1.length:Int):=of_decide_eq_true ab;obtain ⟨ad13,e13,hx13_0⟩:=Kd.bK HR0_1.out x11_1 p13 q13;cases e13
     replace hx13_0:=(HB.out.cell (World.block_lt_of_cell? w _ hx13_0)).trans hx13_0;replace p13:=eq_true p13;replace q13:=eq_true q13;go_wp2
     go_roundg k1
     case measure=>have:=HK1.out;omega
     case rel=>exact ⟨(x5_1),(wrap64 (x11_1 + 1)),qrs,qrs,H',⟨by have:=HK1.out;omega⟩,⟨bk1 BK12.out⟩,⟨by exact bw⟩⟩
   ·rw [if_neg c5] at H;have c5b0:=decide_eq_false c5;clear c5;obtain rfl:=Option.some.inj H;go_wp2
    go_ret
    exact ⟨eE,by exact bw⟩


def bN.l0:Nat → List Bool → Int → Int → List Int → Option (List Bool)
 | 0,_,_,_,_=>none
 | k + 1,x3,x4,x5,x6=>(eL.f (x6.length:Int)).bind fun t1=>(if x4 ≤ t1 then ((cx.f k x5 x6 x4).bind fun t2=>(if x3.length < 140737488355328 then (bN.l0 k (x3 ++ [decide (t2 ≥ x5)]) (wrap64 (x4 + 1)) x5 x6) else (none))) else (some x3))
def bN.f (k:Nat) (a0_0:Int) (l0_1:List Int):Option (List Bool):=bN.l0 k ([]:List Bool) 0 a0_0 l0_1
def bN.T5:Bool × List (List Nat × List Nat):=(true,[([],[]),([],[]),([],[]),([1,2],[1,2]),([],[]),([4],[4]),([3,5],[3,5]),([6],[6]),([0,7,3],[0,7]),([8,8,0,1,2,3,4,5,6,7,8],[0,8])])
def bN.B5:List Nat:=[0,0,0,6,0,16,62,126,255,511]
theorem bN.tab5:fM .any (opsOf Tryz.f38 5) = bN.T5:=by kernel_rfl
theorem bN.bits5:dB bN.T5.2 bN.B5 = true:=by kernel_rfl
theorem bN.calls (k:Nat) (a0_0:Int) (A0_1:Option Addr) (c0_1:Nat) (l0_1:List Int) (r:List Bool) (w:World) (hr0_1:Kd.C (Kd.int .i64) w A0_1 l0_1.length l0_1) (hc0_1:l0_1.length ≤ c0_1) (h:bN.f k a0_0 l0_1 = some r) :
  Calls Tryz.prog 38 #[.agg #[.int .i64 a0_0,.slice A0_1 l0_1.length c0_1]] w fun e w'=>∃ v0_:Value,e = .returned (v0_) ∧ Kd.R Kd.bool 4 w' w.heap.size (fun _=>True) v0_ r ∧ Below w.heap.size w w':=by
 have hu26:=Tryz.underlying26;have HR0_1:=aM hr0_1;have HC0_1:=aM hc0_1;clear hr0_1 hc0_1;have HB:=aM (Below.refl w.heap.size w);have H:(bN.l0 k ([]:List Bool) 0 a0_0 l0_1) = some r:=h;clear h;have H':=aM H;clear H;go_enter Tryz.func38,Tryz.ntmps38;go_wp2_with (first|((with_reducible refine aC (N:=1) rfl ?_);refine bE 1 #[.int .i64 a0_0,.slice A0_1 l0_1.length c0_1] 26 ?_;intro gb12 hg w2 hbox hb;have BK12:=aM (hbox);have GW12:=aM (gS hg);have GE12:=aM (gS hg);replace HB:=aM (ae bw hb);clear hb hbox hg))
 go_loopg [3,4] k (fun kq v3 v4 w'=>∃ (x3_1:List Bool) (x4_1:Int),v4 = .int .i64 x4_1 ∧ ak (bN.l0 kq x3_1 x4_1 a0_0 l0_1 = some r) ∧ ak (kq ≤ k) ∧ ak (Kd.R Kd.bool 4 w' w.heap.size (fun _=>True) v3 x3_1) ∧ ak (w'.heap[gb12]? = some (.cells #[.int .i64 a0_0,(.slice A0_1 l0_1.length c0_1)] 26 (0,0))) ∧ ak (Below w.heap.size w w'))
 case atStart=>exact ⟨(([]:List Bool)),(0),qrs,H',⟨Nat.le_refl _⟩,⟨by first|exact Kd.eD _ _ _ _ _|exact Kd.eU _ _ _ _ _|exact Kd.eW _ _ _ _ _|exact Kd.eV _ _ _ _ _|exact Kd.eS _ _ _ _ _⟩,⟨bk1 BK12.out⟩,⟨by exact bw⟩⟩
 case round =>
  clear H'
  try clear p2
  obtain ⟨x3_1,x4_1,rfl,HA,HK1,HO_3,BK12,HB⟩:=hrel
  cases gk with
  | zero=>exact absurd HA.out (by simp [bN.l0])
  | succ k1 =>
   have H:=HA.out;clear HA;simp only [bN.l0] at H;replace H:=oB H;obtain ⟨t13,A3,H⟩:=H;(try dsimp only at H)
   by_cases c4:x4_1 ≤ t13
   ·rw [if_pos c4] at H;have c4b0:=decide_eq_true c4;clear c4;replace H:=oB H;obtain ⟨t14,A5,H⟩:=H;(try dsimp only at H)
    replace H:=iN H;obtain ⟨c6,H⟩:=H;have LMc6:=aM c6;clear c6;obtain ⟨y15,hy15⟩:∃ y_:List Bool,y_ = (x3_1 ++ [decide (t14 ≥ a0_0)]):=⟨_,rfl⟩;replace H:(bN.l0 k1 y15 (wrap64 (x4_1 + 1)) a0_0 l0_1) = some r:=yR hy15 H;have Ny15:=aM hy15;clear hy15;have H':=aM H;clear H;have hcz7_0:=cz BK12.out 0;have hcz7_1:=cz BK12.out 1;have hfz7_0:=aa BK12.out 0;have hfz7_1:=aa BK12.out 1
    try go_wp2_with (first|((with_reducible refine ah (f:=77) rfl ?_);refine gL 9 Tryz.func77 #[.int .i64 (l0_1.length:Int)] ?_;(with_reducible refine (eL.calls (l0_1.length:Int) t13 _ A3.out).mono ?_);rintro e w' ⟨rfl,⟨nd,rfl⟩⟩;refine ⟨_,rfl,?_⟩))
    (try (rw [eb wr];generalize hq_:World.drewN wr _ = wr;have n0_:ak (Kd.R Kd.bool 4 wr w.heap.size (fun _=>True) u3 x3_1):=⟨by rw [← hq_];exact (qra HO_3.out)⟩;have n1_:ak (wr.heap[gb12]? = some (.cells #[.int .i64 a0_0,.slice A0_1 l0_1.length c0_1] 26 (0,0))):=⟨by rw [← hq_];exact (bk1 BK12.out)⟩;have n2_:ak (Below w.heap.size w wr):=⟨by rw [← hq_];exact bw⟩;clear HO_3 BK12 HB hq_;have HO_3:=n0_;have BK12:=n1_;have HB:=n2_;clear n0_ n1_ n2_))
    replace HO_3:=aM (Kd.aE HO_3.out);replace BK12:=aM (al BK12.out);replace HB:=aM (av HB.out);refine dx (n:=10) (S:=fun w'=>w'.cell? ⟨gb12,0,none⟩ = some (.int .i64 a0_0) ∧ w'.cell? ⟨gb12,1,none⟩ = some (.slice A0_1 l0_1.length c0_1)) (ds:=[]) (mA 10 0) kR rfl rfl ⟨(ai BK12.out 0).trans rfl,(ai BK12.out 1).trans rfl⟩ (fun hHeld=>?_);refine cu bN.tab5 bN.bits5 (fun HT_ HW_=>?_)
    generalize wr.drew = w8 at HO_3 BK12 HB hHeld ⊢
    refine pT 0 13 HT_.out ?_;refine pT 2 15 HT_.out ?_;refine pT 4 17 HT_.out ?_;refine pK 1 14 HT_.out HW_.out hHeld ?_;refine pK 5 18 HT_.out HW_.out hHeld ?_;refine oN 3 (some 16) HT_.out fun K hK=>?_
    refine gC Tryz.func78 #[.agg #[.int .i64 a0_0,.slice A0_1 l0_1.length c0_1],.int .i64 x4_1] ?_
    with_reducible refine (cx.calls k1 a0_0 _ _ l0_1 x4_1 t14 _ ?side1 ?side2 A5.out).mono ?_
    (case side1=>exact qcs HR0_1.out HB.out)
    (case side2=>exact HC0_1.out)
    rintro e w9 ⟨rfl,hb⟩
    refine ⟨_,rfl,?_⟩;replace HO_3:=aM (Kd.aG (qra HO_3.out) hb);replace BK12:=aM (bB BK12.out hb);replace HB:=aM (ae bw hb);(try clear hb)
    refine hK.out _ _ ⟨(ai BK12.out 0).trans rfl,(ai BK12.out 1).trans rfl⟩ (fun hHeld=>?_);clear hK K;refine nM 16 ?_;refine pT 6 19 HT_.out ?_;refine oN 7 (some 20) HT_.out fun K hK=>?_
    refine lw (w1:=?_) (v:=?_) (by rfl) rfl ?_ ?_;rotate_left 2
    ·go_simp
     constructor
     ·rfl
     ·rfl
    refine hK.out _ _ ⟨(ai (an BK12.out _) 0).trans rfl,(ai (an BK12.out _) 1).trans rfl⟩ (fun hHeld=>?_);clear hK K;refine nM 20 ?_;refine oN 8 (some 21) HT_.out fun K hK=>?_
    refine Kd.fT Kd.bool (w0:=w) w.heap.size (by rfl) (.tmp 13) (.tmp 20) 49 4 (.bool false) 1 rfl Tryz.underlying49 info4 rfl (by decide) (by omega) u3 x3_1 (decide (t14 ≥ a0_0)) [.bool (decide (t14 ≥ a0_0))] (fun _=>True) (fun _=>False) rfl rfl ?aP (fun _ hk=>hk.elim) ?aF ?aO ?aB ?aS ?aL ?_;(case aP=>exact rfl)
    (case aB=>exact bw)
    (case aF=>exact (fun _ _=>trivial))
    (case aO=>exact (qra HO_3.out))
    (case aS=>exact (au bw))
    (case aL=>have:=LMc6.out;omega)
    intro v16 w10 ho hb hg hat;rw [← Ny15.out] at ho;replace BK12:=aM (bH BK12.out hg (Kd.fe HO_3.out BK12.out (by decide)));replace HB:=aM (hb);have HO17:=aM (ho);clear HO_3;clear ho hb hg hat;refine hK.out _ _ ⟨(ai BK12.out 0).trans rfl,(ai BK12.out 1).trans rfl⟩ (fun hHeld=>?_);clear hK K;refine nM 21 ?_;refine pT 9 3 HT_.out ?_;refine d9 (dp HT_.out kR) ?_
    try go_wp2
    go_roundg k1
    case measure=>have:=HK1.out;omega
    case rel=>exact ⟨(y15),(wrap64 (x4_1 + 1)),qrs,H',⟨by have:=HK1.out;omega⟩,⟨qra HO17.out⟩,⟨bk1 BK12.out⟩,⟨by exact bw⟩⟩
   ·rw [if_neg c4] at H;have c4b0:=decide_eq_false c4;clear c4;obtain rfl:=Option.some.inj H;have hcz11_0:=cz BK12.out 0;have hcz11_1:=cz BK12.out 1;have hfz11_0:=aa BK12.out 0;have hfz11_1:=aa BK12.out 1;go_wp2_with (first|((with_reducible refine ah (f:=77) rfl ?_);refine gL 9 Tryz.func77 #[.int .i64 (l0_1.length:Int)] ?_;(with_reducible refine (eL.calls (l0_1.length:Int) t13 _ A3.out).mono ?_);rintro e w' ⟨rfl,⟨nd,rfl⟩⟩;refine ⟨_,rfl,?_⟩))
    go_ret
    exact ⟨_,eE,by (with_reducible repeat (first|apply Kd.aN|apply Kd.aK|apply Kd.aE));exact HO_3.out,by exact bw⟩


def bA.l0:Nat → Int → Int → List Bool → Int → Int → Option (List Bool)
 | 0,_,_,_,_,_=>none
 | k + 1,x1,x2,x7,x12,x13=>if x13 < x12 then (if 0 ≤ x13 then (if x13 < (x7.length:Int) then (if iQ false x7 x13 = true then (if 0 ≤ x1 then (if (Int.tmod (shr .i64 x13 x1) 2) = 0 then (bA.l0 k x1 x2 (x7.set (x13:Int).toNat true) x12 (wrap64 (x13 + 1))) else (if 0 ≤ x2 then (bA.l0 k x1 x2 (x7.set (x13:Int).toNat ((Int.tmod (shr .i64 x13 x2) 2) == 0)) x12 (wrap64 (x13 + 1))) else (none))) else (none)) else (bA.l0 k x1 x2 (x7.set (x13:Int).toNat false) x12 (wrap64 (x13 + 1)))) else (none)) else (none)) else (some x7)
def bA.f (k:Nat) (a0_0:Int) (l0_1:List Int) (a1:Int) (a2:Int):Option (List Bool):=(bN.f k a0_0 l0_1).bind fun t3=>(bA.l0 k a1 a2 t3 (t3.length:Int) 0)
theorem bA.calls (k:Nat) (a0_0:Int) (A0_1:Option Addr) (c0_1:Nat) (l0_1:List Int) (a1:Int) (a2:Int) (r:List Bool) (w:World) (hr0_1:Kd.C (Kd.int .i64) w A0_1 l0_1.length l0_1) (hc0_1:l0_1.length ≤ c0_1) (h:bA.f k a0_0 l0_1 a1 a2 = some r) :
  Calls Tryz.prog 32 #[.agg #[.int .i64 a0_0,.slice A0_1 l0_1.length c0_1],.int .i64 a1,.int .i64 a2] w fun e w'=>∃ v0_:Value,e = .returned (v0_) ∧ Kd.R Kd.bool 4 w' w.heap.size (fun _=>True) v0_ r ∧ Below w.heap.size w w':=by
 have hu26:=Tryz.underlying26;have HR0_1:=aM hr0_1;have HC0_1:=aM hc0_1;clear hr0_1 hc0_1;have HB:=aM (Below.refl w.heap.size w);have H:((bN.f k a0_0 l0_1).bind fun t28=>(bA.l0 k a1 a2 t28 (t28.length:Int) 0)) = some r:=h;clear h;replace H:=oB H;obtain ⟨t28,A4,H⟩:=H;(try dsimp only at H)
 have H':=aM H;clear H;go_enter Tryz.func32,Tryz.ntmps32;go_wp2_with (first|((with_reducible refine aC (N:=3) rfl ?_);refine bE 3 #[.int .i64 a0_0,.slice A0_1 l0_1.length c0_1] 26 ?_;intro gb3 hg w5 hbox hb;have BK3:=aM (hbox);have GW3:=aM (gS hg);have GE3:=aM (gS hg);replace HB:=aM (ae bw hb);clear hb hbox hg;have hcz6_0:=cz BK3.out 0;have hcz6_1:=cz BK3.out 1;have hfz6_0:=aa BK3.out 0;have hfz6_1:=aa BK3.out 1)|((with_reducible refine ah (f:=38) rfl ?_);refine gL 10 Tryz.func38 #[.agg #[.int .i64 a0_0,.slice A0_1 l0_1.length c0_1]] ?_;(with_reducible refine (bN.calls k a0_0 _ _ l0_1 t28 _ ?side1 ?side2 A4.out).mono ?_);(case side1=>exact qcs HR0_1.out HB.out);(case side2=>exact HC0_1.out);rintro e w7 ⟨v29,rfl,ho0,hb⟩;refine ⟨_,rfl,?_⟩;have HO30:=aM (Kd.bg ho0 (au bw));replace BK3:=aM (bB BK3.out hb);replace HB:=aM (ae bw hb);(try clear hb);(try clear ho0);obtain ⟨Ao8,co8,eo8⟩:=Kd.aX HO30.out;subst eo8))
 go_loopg [13] k (fun kq v13 w'=>∃ (x7_1:List Bool) (x13_1:Int),v13 = .int .i64 x13_1 ∧ ak (bA.l0 kq a1 a2 x7_1 (t28.length:Int) x13_1 = some r) ∧ ak (kq ≤ k) ∧ ak (Kd.R Kd.bool 4 w' w.heap.size (fun _=>True) (.slice Ao8 t28.length co8) x7_1) ∧ ak (w'.heap[gb3]? = some (.cells #[.int .i64 a0_0,(.slice A0_1 l0_1.length c0_1)] 26 (0,0))) ∧ ak (Below w.heap.size w w'))
 case atStart=>exact ⟨(t28),(0),qrs,H',⟨Nat.le_refl _⟩,⟨qra HO30.out⟩,⟨bk1 BK3.out⟩,⟨by exact bw⟩⟩
 case round =>
  clear H';(try clear hcz6_0);(try clear hcz6_1);(try clear hfz6_0);(try clear hfz6_1)
  obtain ⟨x7_1,x13_1,rfl,HA,HK1,HO_7,BK3,HB⟩:=hrel;have hl7_1:=(Kd.aj HO_7.out).1;rw [hl7_1] at HO_7;(try simp only [hl7_1])
  (try simp only [hl7_1] at BK3)
  cases gk with
  | zero=>exact absurd HA.out (by simp [bA.l0])
  | succ k1 =>
   have H:=HA.out;clear HA;simp only [bA.l0] at H;by_cases c9:x13_1 < (t28.length:Int)
   ·rw [if_pos c9] at H;have c9b0:=decide_eq_true c9;(try simp only [hl7_1] at c9b0)
    clear c9;replace H:=iN H;obtain ⟨c10,H⟩:=H;have c10b0:decide (0 ≤ x13_1) = true:=decide_eq_true c10;clear c10;replace H:=iN H;obtain ⟨c11,H⟩:=H;have c11b0:decide (x13_1 < (x7_1.length:Int)) = true:=decide_eq_true c11;(try simp only [hl7_1] at c11b0)
    clear c11;obtain ⟨bq12,hbq12⟩:∃ b_:Bool,b_ = (iQ false x7_1 x13_1):=⟨_,rfl⟩;rw [← hbq12] at H;have Nbq12:=aM hbq12;clear hbq12;by_cases c13:bq12 = true
    ·subst c13;rw [if_pos rfl] at H;replace H:=iN H;obtain ⟨c14,H⟩:=H;have c14b0:=eq_true c14;have c14b1:decide (0 ≤ a1) = true:=decide_eq_true c14;clear c14;obtain ⟨ji15,hji15⟩:∃ j_:Int,(shr .i64 x13_1 a1) = j_:=⟨_,rfl⟩;(first|rw [hji15] at H|simp only [hji15] at H)
     have hji15_:(x13_1 / 2 ^ min a1.toNat 64) = ji15:=hji15;have hji15z:a1 ≤ 64 → (x13_1 / 2 ^ a1.toNat) = ji15:=fu hji15;by_cases c16:(Int.tmod (ji15) 2) = 0
     ·rw [if_pos c16] at H;have c16b0:((Int.tmod (ji15) 2) == 0) = true:=beq_iff_eq.mpr c16;have c16b1:((Int.tmod (ji15) 2) != 0) = false:=bne_eq_false_iff_eq.mpr c16;clear c16;obtain ⟨y33,hy33⟩:∃ y_:List Bool,y_ = (x7_1.set (x13_1:Int).toNat true):=⟨_,rfl⟩;replace H:(bA.l0 k1 a1 a2 y33 (t28.length:Int) (wrap64 (x13_1 + 1))) = some r:=yR hy33 H;have Ny33:=aM hy33;clear hy33;have H':=aM H;clear H;have p31:0 ≤ (x13_1:Int):=of_decide_eq_true ab;have q31:x13_1 < (x7_1.length:Int):=of_decide_eq_true ab;obtain ⟨ad31,e31,hx31_0⟩:=Kd.dS (Kd.aj HO_7.out).2.2 x13_1 p31 q31;(try rw [← Nbq12.out] at hx31_0)
      cases e31
      replace p31:=eq_true p31;replace q31:=eq_true q31;have p17:0 ≤ (x13_1:Int):=of_decide_eq_true ab;have q17:(x13_1:Int) < ((x7_1.length:Int):Int):=of_decide_eq_true ab;obtain ⟨go17,co17,eo17,gb17,gl17,cl17,HG17⟩:=Kd.gQ HO_7.out (by omega);(first|cases eo17|(injection eo17 with ea_ en_ ec_;(first|subst ea_|(injection ea_ with ea_;subst ea_));subst ec_;clear en_))
      have GB17:=aM gb17;have GG17:=aM HG17;clear gb17 gl17 HG17;(first|simp only [add_plain] at hx31_0|skip)
      obtain ⟨hx17_0,hf17_0⟩:=Kd.fO false HO_7.out (x13_1:Int) p17 q17;replace p17:=eq_true p17;replace q17:=eq_true q17;have HP18:=Kd.je HO_7.out (x13_1:Int) true;go_wp2_with (first|((with_reducible refine ft (t:=4) (p:=36) rfl ?_);refine eP (t:=4) (p:=36) (v:=?vo_w19) (w1:=(wr.setCell ⟨go17,(x13_1:Int).toNat,none⟩ (.bool true))) ?hg ?ho ?hn ?hr ?_;(case ho=>rfl);(case hg=>rfl);(case hn=>rfl);(case hr=>first|(go_simp;done)|(go_simp;rfl));intro w19 hw;have hg:wr.grownBy w19 (some go17):=(by rw [hw];exact HP18.2);have hp_:Kd.R Kd.bool 4 w19 w.heap.size (fun _=>True) (.slice (some ⟨go17,0,none⟩) x7_1.length co8) y33:=(by rw [hw,Ny33.out];exact HP18.1);clear HP18;replace BK3:=aM (bH BK3.out hg (Kd.fe HO_7.out BK3.out (by decide)));replace HO_7:=aM (hp_);replace HB:=aM ((by rw [hw];exact ap (HB.out) GB17.out:Below w.heap.size w w19));clear hg hw hp_))
      (try simp only [← hl7_1])
      go_roundg k1
      case measure=>have:=HK1.out;omega
      case rel=>exact ⟨(y33),(wrap64 (x13_1 + 1)),qrs,H',⟨by have:=HK1.out;omega⟩,⟨by (try simp only [hl7_1]);(with_reducible repeat (first|apply Kd.aN|apply Kd.aK|apply Kd.aE));exact HO_7.out⟩,⟨by (try simp only [hl7_1]);(with_reducible repeat (first|refine ar ?_ _|refine al ?_|refine an ?_ _));exact BK3.out⟩,⟨by exact bw⟩⟩
     ·rw [if_neg c16] at H;have c16b0:((Int.tmod (ji15) 2) == 0) = false:=beq_eq_false_iff_ne.mpr c16;have c16b1:((Int.tmod (ji15) 2) != 0) = true:=bne_iff_ne.mpr c16;replace H:=iN H;obtain ⟨c20,H⟩:=H;have c20b0:=eq_true c20;have c20b1:decide (0 ≤ a2) = true:=decide_eq_true c20;clear c20;obtain ⟨ji21,hji21⟩:∃ j_:Int,(shr .i64 x13_1 a2) = j_:=⟨_,rfl⟩;(first|rw [hji21] at H|simp only [hji21] at H)
      have hji21_:(x13_1 / 2 ^ min a2.toNat 64) = ji21:=hji21;have hji21z:a2 ≤ 64 → (x13_1 / 2 ^ a2.toNat) = ji21:=fu hji21;obtain ⟨y34,hy34⟩:∃ y_:List Bool,y_ = (x7_1.set (x13_1:Int).toNat ((Int.tmod (ji21) 2) == 0)):=⟨_,rfl⟩;replace H:(bA.l0 k1 a1 a2 y34 (t28.length:Int) (wrap64 (x13_1 + 1))) = some r:=yR hy34 H;have Ny34:=aM hy34;clear hy34;have H':=aM H;clear H;have p31:0 ≤ (x13_1:Int):=of_decide_eq_true ab;have q31:x13_1 < (x7_1.length:Int):=of_decide_eq_true ab;obtain ⟨ad31,e31,hx31_0⟩:=Kd.dS (Kd.aj HO_7.out).2.2 x13_1 p31 q31;(try rw [← Nbq12.out] at hx31_0)
      cases e31
      replace p31:=eq_true p31;replace q31:=eq_true q31;have p22:0 ≤ (x13_1:Int):=of_decide_eq_true ab;have q22:(x13_1:Int) < ((x7_1.length:Int):Int):=of_decide_eq_true ab;obtain ⟨go22,co22,eo22,gb22,gl22,cl22,HG22⟩:=Kd.gQ HO_7.out (by omega);(first|cases eo22|(injection eo22 with ea_ en_ ec_;(first|subst ea_|(injection ea_ with ea_;subst ea_));subst ec_;clear en_))
      have GB22:=aM gb22;have GG22:=aM HG22;clear gb22 gl22 HG22;(first|simp only [add_plain] at hx31_0|skip)
      obtain ⟨hx22_0,hf22_0⟩:=Kd.fO false HO_7.out (x13_1:Int) p22 q22;replace p22:=eq_true p22;replace q22:=eq_true q22;have HP23:=Kd.je HO_7.out (x13_1:Int) ((Int.tmod (ji21) 2) == 0);go_wp2_with (first|((with_reducible refine ft (t:=4) (p:=36) rfl ?_);refine eP (t:=4) (p:=36) (v:=?vo_w24) (w1:=(wr.setCell ⟨go22,(x13_1:Int).toNat,none⟩ (.bool ((Int.tmod (ji21) 2) == 0)))) ?hg ?ho ?hn ?hr ?_;(case ho=>rfl);(case hg=>rfl);(case hn=>rfl);(case hr=>first|(go_simp;done)|(go_simp;rfl));intro w24 hw;have hg:wr.grownBy w24 (some go22):=(by rw [hw];exact HP23.2);have hp_:Kd.R Kd.bool 4 w24 w.heap.size (fun _=>True) (.slice (some ⟨go22,0,none⟩) x7_1.length co8) y34:=(by rw [hw,Ny34.out];exact HP23.1);clear HP23;replace BK3:=aM (bH BK3.out hg (Kd.fe HO_7.out BK3.out (by decide)));replace HO_7:=aM (hp_);replace HB:=aM ((by rw [hw];exact ap (HB.out) GB22.out:Below w.heap.size w w24));clear hg hw hp_))
      (try simp only [← hl7_1])
      go_roundg k1
      case measure=>have:=HK1.out;omega
      case rel=>exact ⟨(y34),(wrap64 (x13_1 + 1)),qrs,H',⟨by have:=HK1.out;omega⟩,⟨by (try simp only [hl7_1]);(with_reducible repeat (first|apply Kd.aN|apply Kd.aK|apply Kd.aE));exact HO_7.out⟩,⟨by (try simp only [hl7_1]);(with_reducible repeat (first|refine ar ?_ _|refine al ?_|refine an ?_ _));exact BK3.out⟩,⟨by exact bw⟩⟩
    ·replace c13:=Bool.eq_false_iff.mpr c13;subst c13;rw [if_neg (show ¬ (false = true) by decide)] at H;obtain ⟨y35,hy35⟩:∃ y_:List Bool,y_ = (x7_1.set (x13_1:Int).toNat false):=⟨_,rfl⟩;replace H:(bA.l0 k1 a1 a2 y35 (t28.length:Int) (wrap64 (x13_1 + 1))) = some r:=yR hy35 H;have Ny35:=aM hy35;clear hy35;have H':=aM H;clear H;have p31:0 ≤ (x13_1:Int):=of_decide_eq_true ab;have q31:x13_1 < (x7_1.length:Int):=of_decide_eq_true ab;obtain ⟨ad31,e31,hx31_0⟩:=Kd.dS (Kd.aj HO_7.out).2.2 x13_1 p31 q31;(try rw [← Nbq12.out] at hx31_0)
     cases e31
     replace p31:=eq_true p31;replace q31:=eq_true q31;have p25:0 ≤ (x13_1:Int):=of_decide_eq_true ab;have q25:(x13_1:Int) < ((x7_1.length:Int):Int):=of_decide_eq_true ab;obtain ⟨go25,co25,eo25,gb25,gl25,cl25,HG25⟩:=Kd.gQ HO_7.out (by omega);(first|cases eo25|(injection eo25 with ea_ en_ ec_;(first|subst ea_|(injection ea_ with ea_;subst ea_));subst ec_;clear en_))
     have GB25:=aM gb25;have GG25:=aM HG25;clear gb25 gl25 HG25;(first|simp only [add_plain] at hx31_0|skip)
     obtain ⟨hx25_0,hf25_0⟩:=Kd.fO false HO_7.out (x13_1:Int) p25 q25;replace p25:=eq_true p25;replace q25:=eq_true q25;have HP26:=Kd.je HO_7.out (x13_1:Int) false;go_wp2_with (first|((with_reducible refine ft (t:=4) (p:=36) rfl ?_);refine eP (t:=4) (p:=36) (v:=?vo_w27) (w1:=(wr.setCell ⟨go25,(x13_1:Int).toNat,none⟩ (.bool false))) ?hg ?ho ?hn ?hr ?_;(case ho=>rfl);(case hg=>rfl);(case hn=>rfl);(case hr=>first|(go_simp;done)|(go_simp;rfl));intro w27 hw;have hg:wr.grownBy w27 (some go25):=(by rw [hw];exact HP26.2);have hp_:Kd.R Kd.bool 4 w27 w.heap.size (fun _=>True) (.slice (some ⟨go25,0,none⟩) x7_1.length co8) y35:=(by rw [hw,Ny35.out];exact HP26.1);clear HP26;replace BK3:=aM (bH BK3.out hg (Kd.fe HO_7.out BK3.out (by decide)));replace HO_7:=aM (hp_);replace HB:=aM ((by rw [hw];exact ap (HB.out) GB25.out:Below w.heap.size w w27));clear hg hw hp_))
     (try simp only [← hl7_1])
     go_roundg k1
     case measure=>have:=HK1.out;omega
     case rel=>exact ⟨(y35),(wrap64 (x13_1 + 1)),qrs,H',⟨by have:=HK1.out;omega⟩,⟨by (try simp only [hl7_1]);(with_reducible repeat (first|apply Kd.aN|apply Kd.aK|apply Kd.aE));exact HO_7.out⟩,⟨by (try simp only [hl7_1]);(with_reducible repeat (first|refine ar ?_ _|refine al ?_|refine an ?_ _));exact BK3.out⟩,⟨by exact bw⟩⟩
   ·rw [if_neg c9] at H;have c9b0:=decide_eq_false c9;(try simp only [hl7_1] at c9b0)
    clear c9;obtain rfl:=Option.some.inj H;go_wp2
    go_ret
    exact ⟨_,eE,by (with_reducible repeat (first|apply Kd.aN|apply Kd.aK|apply Kd.aE));exact HO_7.out,by exact bw⟩


def cX.f (k:Nat) (a0_0:Int) (l0_1:List Int) (a1:Int) (a2:Int):Option (Int × Bool):=(dh.f k a0_0 l0_1 a1 a2).bind fun t3=>(if t3 = true then ((bA.f k a0_0 l0_1 a1 a2).bind fun t4=>((cQ.f k t4).bind fun t5=>(some (t5,true)))) else (some (0,false)))
theorem cX.calls (k:Nat) (a0_0:Int) (A0_1:Option Addr) (c0_1:Nat) (l0_1:List Int) (a1:Int) (a2:Int) (r1:Int) (r2:Bool) (w:World) (hr0_1:Kd.C (Kd.int .i64) w A0_1 l0_1.length l0_1) (hc0_1:l0_1.length ≤ c0_1) (h:cX.f k a0_0 l0_1 a1 a2 = some (r1,r2)) :
  Calls Tryz.prog 7 #[.agg #[.int .i64 a0_0,.slice A0_1 l0_1.length c0_1],.int .i64 a1,.int .i64 a2] w fun e w'=>e = .returned (.tuple #[.int .i64 r1,.bool r2]) ∧ Below w.heap.size w w':=by
 have hu26:=Tryz.underlying26;have HR0_1:=aM hr0_1;have HC0_1:=aM hc0_1;clear hr0_1 hc0_1;have HB:=aM (Below.refl w.heap.size w);have H:((dh.f k a0_0 l0_1 a1 a2).bind fun t17=>(if t17 = true then ((bA.f k a0_0 l0_1 a1 a2).bind fun t18=>((cQ.f k t18).bind fun t21=>(some (t21,true)))) else (some (0,false)))) = some (r1,r2):=h;clear h;replace H:=oB H;obtain ⟨t17,A4,H⟩:=H;(try dsimp only at H)
 by_cases c5:t17 = true
 ·subst c5;rw [if_pos rfl] at H;replace H:=oB H;obtain ⟨t18,A6,H⟩:=H;(try dsimp only at H)
  replace H:=oB H;obtain ⟨t21,A7,H⟩:=H;(try dsimp only at H)
  simp only [Option.some.injEq,Prod.mk.injEq] at H;obtain ⟨rfl,rfl⟩:=H;go_enter Tryz.func7,Tryz.ntmps7;go_wp2_with (first|((with_reducible refine aC (N:=3) rfl ?_);refine bE 3 #[.int .i64 a0_0,.slice A0_1 l0_1.length c0_1] 26 ?_;intro gb3 hg w8 hbox hb;have BK3:=aM (hbox);have GW3:=aM (gS hg);have GE3:=aM (gS hg);replace HB:=aM (ae bw hb);clear hb hbox hg;have hcz9_0:=cz BK3.out 0;have hcz9_1:=cz BK3.out 1;have hfz9_0:=aa BK3.out 0;have hfz9_1:=aa BK3.out 1)|((with_reducible refine ah (f:=30) rfl ?_);refine gL 11 Tryz.func30 #[.agg #[.int .i64 a0_0,.slice A0_1 l0_1.length c0_1],.int .i64 a1,.int .i64 a2] ?_;(with_reducible refine (dh.calls k a0_0 _ _ l0_1 a1 a2 true _ ?side1 ?side2 A4.out).mono ?_);(case side1=>exact qcs HR0_1.out HB.out);(case side2=>exact HC0_1.out);rintro e w10 ⟨rfl,hb⟩;refine ⟨_,rfl,?_⟩;replace BK3:=aM (bB BK3.out hb);replace HB:=aM (ae bw hb);(try clear hb);have hcz11_0:=cz BK3.out 0;have hcz11_1:=cz BK3.out 1;have hfz11_0:=aa BK3.out 0;have hfz11_1:=aa BK3.out 1)|((with_reducible refine ah (f:=32) rfl ?_);refine gL 16 Tryz.func32 #[.agg #[.int .i64 a0_0,.slice A0_1 l0_1.length c0_1],.int .i64 a1,.int .i64 a2] ?_;(with_reducible refine (bA.calls k a0_0 _ _ l0_1 a1 a2 t18 _ ?side1 ?side2 A6.out).mono ?_);(case side1=>exact qcs HR0_1.out HB.out);(case side2=>exact HC0_1.out);rintro e w12 ⟨v19,rfl,ho0,hb⟩;refine ⟨_,rfl,?_⟩;have HO20:=aM (Kd.bg ho0 (au bw));replace BK3:=aM (bB BK3.out hb);replace HB:=aM (ae bw hb);(try clear hb);(try clear ho0);obtain ⟨Ao13,co13,eo13⟩:=Kd.aX HO20.out;subst eo13)|((with_reducible refine ah (f:=31) rfl ?_);refine gL 17 Tryz.func31 #[.slice Ao13 t18.length co13] ?_;(with_reducible refine (cQ.calls k _ _ t18 t21 _ ?side1 ?side2 A7.out).mono ?_);(case side1=>exact qc (Kd.aj HO20.out).2.2);(case side2=>exact (Kd.aj HO20.out).2.1);rintro e w' ⟨rfl,⟨nd,rfl⟩⟩;refine ⟨_,rfl,?_⟩))
  go_ret2
  exact ⟨eE,by exact bw⟩
 ·replace c5:=Bool.eq_false_iff.mpr c5;subst c5;rw [if_neg (show ¬ (false = true) by decide)] at H;simp only [Option.some.injEq,Prod.mk.injEq] at H;obtain ⟨rfl,rfl⟩:=H;go_enter Tryz.func7,Tryz.ntmps7;go_wp2_with (first|((with_reducible refine aC (N:=3) rfl ?_);refine bE 3 #[.int .i64 a0_0,.slice A0_1 l0_1.length c0_1] 26 ?_;intro gb3 hg w14 hbox hb;have BK3:=aM (hbox);have GW3:=aM (gS hg);have GE3:=aM (gS hg);replace HB:=aM (ae bw hb);clear hb hbox hg;have hcz15_0:=cz BK3.out 0;have hcz15_1:=cz BK3.out 1;have hfz15_0:=aa BK3.out 0;have hfz15_1:=aa BK3.out 1)|((with_reducible refine ah (f:=30) rfl ?_);refine gL 11 Tryz.func30 #[.agg #[.int .i64 a0_0,.slice A0_1 l0_1.length c0_1],.int .i64 a1,.int .i64 a2] ?_;(with_reducible refine (dh.calls k a0_0 _ _ l0_1 a1 a2 false _ ?side1 ?side2 A4.out).mono ?_);(case side1=>exact qcs HR0_1.out HB.out);(case side2=>exact HC0_1.out);rintro e w16 ⟨rfl,hb⟩;refine ⟨_,rfl,?_⟩;replace BK3:=aM (bB BK3.out hb);replace HB:=aM (ae bw hb);(try clear hb)))
  go_ret2
  exact ⟨eE,by exact bw⟩


def cC.f (a0_0:Int) (l0_1:List Bool) (a1:Int) (a2:Int):Option (Bool):=(dr.f a1 a2).bind fun t3=>(if t3 = true then (some false) else (if 0 ≤ a1 then (if a1 < (l0_1.length:Int) then (if iQ false l0_1 a1 = true then (some false) else (if 0 ≤ a2 then (if 0 ≤ (Go.bits .or .i64 a1 (shl .i64 1 a2)) then (if (Go.bits .or .i64 a1 (shl .i64 1 a2)) < (l0_1.length:Int) then (some (iQ false l0_1 (Go.bits .or .i64 a1 (shl .i64 1 a2)))) else (none)) else (none)) else (none))) else (none)) else (none)))
theorem cC.calls (a0_0:Int) (A0_1:Option Addr) (c0_1:Nat) (l0_1:List Bool) (a1:Int) (a2:Int) (r:Bool) (w:World) (hr0_1:Kd.C Kd.bool w A0_1 l0_1.length l0_1) (hc0_1:l0_1.length ≤ c0_1) (h:cC.f a0_0 l0_1 a1 a2 = some r) :
  Calls Tryz.prog 74 #[.agg #[.int .i64 a0_0,.slice A0_1 l0_1.length c0_1],.int .i64 a1,.int .i64 a2] w fun e w'=>e = .returned (.bool r) ∧ Below w.heap.size w w':=by
 have hu51:=Tryz.underlying51;have HR0_1:=aM hr0_1;have HC0_1:=aM hc0_1;clear hr0_1 hc0_1;have HB:=aM (Below.refl w.heap.size w);have H:((dr.f a1 a2).bind fun t19=>(if t19 = true then (some false) else (if 0 ≤ a1 then (if a1 < (l0_1.length:Int) then (if iQ false l0_1 a1 = true then (some false) else (if 0 ≤ a2 then (if 0 ≤ (Go.bits .or .i64 a1 (shl .i64 1 a2)) then (if (Go.bits .or .i64 a1 (shl .i64 1 a2)) < (l0_1.length:Int) then (some (iQ false l0_1 (Go.bits .or .i64 a1 (shl .i64 1 a2)))) else (none)) else (none)) else (none))) else (none)) else (none)))) = some r:=h;clear h;replace H:=oB H;obtain ⟨t19,A4,H⟩:=H;(try dsimp only at H)
 by_cases c5:t19 = true
 ·subst c5;rw [if_pos rfl] at H;obtain rfl:=Option.some.inj H;go_enter Tryz.func74,Tryz.ntmps74;go_wp2_with (first|((with_reducible refine aC (N:=3) rfl ?_);refine bE 3 #[.int .i64 a0_0,.slice A0_1 l0_1.length c0_1] 51 ?_;intro gb3 hg w6 hbox hb;have BK3:=aM (hbox);have GW3:=aM (gS hg);have GE3:=aM (gS hg);replace HB:=aM (ae bw hb);clear hb hbox hg)|(go_at_call 73;(with_reducible refine (dr.calls a1 a2 true _ A4.out).mono ?_);rintro e w' ⟨rfl,⟨nd,rfl⟩⟩;(try exact dW)))
  repeat (go_quiet (first|((with_reducible refine aC (N:=3) rfl ?_);refine bE 3 #[.int .i64 a0_0,.slice A0_1 l0_1.length c0_1] 51 ?_;intro gb3 hg w6 hbox hb;have BK3:=aM (hbox);have GW3:=aM (gS hg);have GE3:=aM (gS hg);replace HB:=aM (ae bw hb);clear hb hbox hg)|(go_at_call 73;(with_reducible refine (dr.calls a1 a2 true _ A4.out).mono ?_);rintro e w' ⟨rfl,⟨nd,rfl⟩⟩;(try exact dW)));try go_wp2_with (first|((with_reducible refine aC (N:=3) rfl ?_);refine bE 3 #[.int .i64 a0_0,.slice A0_1 l0_1.length c0_1] 51 ?_;intro gb3 hg w6 hbox hb;have BK3:=aM (hbox);have GW3:=aM (gS hg);have GE3:=aM (gS hg);replace HB:=aM (ae bw hb);clear hb hbox hg)|(go_at_call 73;(with_reducible refine (dr.calls a1 a2 true _ A4.out).mono ?_);rintro e w' ⟨rfl,⟨nd,rfl⟩⟩;(try exact dW))))
  go_ret
  exact ⟨eE,by exact bw⟩
 ·replace c5:=Bool.eq_false_iff.mpr c5;subst c5;rw [if_neg (show ¬ (false = true) by decide)] at H;replace H:=iN H;obtain ⟨c7,H⟩:=H;have c7b0:decide (0 ≤ a1) = true:=decide_eq_true c7;clear c7;replace H:=iN H;obtain ⟨c8,H⟩:=H;have c8b0:decide (a1 < (l0_1.length:Int)) = true:=decide_eq_true c8;clear c8;obtain ⟨bq9,hbq9⟩:∃ b_:Bool,b_ = (iQ false l0_1 a1):=⟨_,rfl⟩;rw [← hbq9] at H;have Nbq9:=aM hbq9;clear hbq9;by_cases c10:bq9 = true
  ·subst c10;rw [if_pos rfl] at H;obtain rfl:=Option.some.inj H;go_enter Tryz.func74,Tryz.ntmps74;go_wp2_with (first|((with_reducible refine aC (N:=3) rfl ?_);refine bE 3 #[.int .i64 a0_0,.slice A0_1 l0_1.length c0_1] 51 ?_;intro gb3 hg w11 hbox hb;have BK3:=aM (hbox);have GW3:=aM (gS hg);have GE3:=aM (gS hg);replace HB:=aM (ae bw hb);clear hb hbox hg)|(go_at_call 73;(with_reducible refine (dr.calls a1 a2 false _ A4.out).mono ?_);rintro e w' ⟨rfl,⟨nd,rfl⟩⟩;(try exact dW);have hcz12_0:=cz BK3.out 0;have hcz12_1:=cz BK3.out 1;have hfz12_0:=aa BK3.out 0;have hfz12_1:=aa BK3.out 1;have p20:0 ≤ (a1:Int):=of_decide_eq_true ab;have q20:a1 < (l0_1.length:Int):=of_decide_eq_true ab;obtain ⟨ad20,e20,hx20_0⟩:=Kd.dS HR0_1.out a1 p20 q20;(try rw [← Nbq9.out] at hx20_0);cases e20;replace hx20_0:=(HB.out.cell (World.block_lt_of_cell? w _ hx20_0)).trans hx20_0;replace p20:=eq_true p20;replace q20:=eq_true q20))
   repeat (go_quiet (first|((with_reducible refine aC (N:=3) rfl ?_);refine bE 3 #[.int .i64 a0_0,.slice A0_1 l0_1.length c0_1] 51 ?_;intro gb3 hg w11 hbox hb;have BK3:=aM (hbox);have GW3:=aM (gS hg);have GE3:=aM (gS hg);replace HB:=aM (ae bw hb);clear hb hbox hg)|(go_at_call 73;(with_reducible refine (dr.calls a1 a2 false _ A4.out).mono ?_);rintro e w' ⟨rfl,⟨nd,rfl⟩⟩;(try exact dW);have hcz12_0:=cz BK3.out 0;have hcz12_1:=cz BK3.out 1;have hfz12_0:=aa BK3.out 0;have hfz12_1:=aa BK3.out 1;have p20:0 ≤ (a1:Int):=of_decide_eq_true ab;have q20:a1 < (l0_1.length:Int):=of_decide_eq_true ab;obtain ⟨ad20,e20,hx20_0⟩:=Kd.dS HR0_1.out a1 p20 q20;(try rw [← Nbq9.out] at hx20_0);cases e20;replace hx20_0:=(HB.out.cell (World.block_lt_of_cell? w _ hx20_0)).trans hx20_0;replace p20:=eq_true p20;replace q20:=eq_true q20));try go_wp2_with (first|((with_reducible refine aC (N:=3) rfl ?_);refine bE 3 #[.int .i64 a0_0,.slice A0_1 l0_1.length c0_1] 51 ?_;intro gb3 hg w11 hbox hb;have BK3:=aM (hbox);have GW3:=aM (gS hg);have GE3:=aM (gS hg);replace HB:=aM (ae bw hb);clear hb hbox hg)|(go_at_call 73;(with_reducible refine (dr.calls a1 a2 false _ A4.out).mono ?_);rintro e w' ⟨rfl,⟨nd,rfl⟩⟩;(try exact dW);have hcz12_0:=cz BK3.out 0;have hcz12_1:=cz BK3.out 1;have hfz12_0:=aa BK3.out 0;have hfz12_1:=aa BK3.out 1;have p20:0 ≤ (a1:Int):=of_decide_eq_true ab;have q20:a1 < (l0_1.length:Int):=of_decide_eq_true ab;obtain ⟨ad20,e20,hx20_0⟩:=Kd.dS HR0_1.out a1 p20 q20;(try rw [← Nbq9.out] at hx20_0);cases e20;replace hx20_0:=(HB.out.cell (World.block_lt_of_cell? w _ hx20_0)).trans hx20_0;replace p20:=eq_true p20;replace q20:=eq_true q20)))
   go_ret
   exact ⟨eE,by exact bw⟩
  ·replace c10:=Bool.eq_false_iff.mpr c10;subst c10;rw [if_neg (show ¬ (false = true) by decide)] at H;replace H:=iN H;obtain ⟨c13,H⟩:=H;have c13b0:=eq_true c13;have c13b1:decide (0 ≤ a2) = true:=decide_eq_true c13;clear c13;obtain ⟨ji14,hji14⟩:∃ j_:Int,(shl .i64 1 a2) = j_:=⟨_,rfl⟩;(first|rw [hji14] at H|simp only [hji14] at H)
   (try rw [hji14] at A4)
   have hji14_:(IntKind.i64.wrap (1 * 2 ^ min a2.toNat 64)) = ji14:=hji14;have hji14z:a2 ≤ 64 → (IntKind.i64.wrap (1 * 2 ^ a2.toNat)) = ji14:=fX hji14;have hji14u:(IntKind.i64.wrap (2 ^ min a2.toNat 64)) = ji14:=by have h_:=hji14_;rw [Int.one_mul] at h_;exact h_
   have hji14v:a2 ≤ 64 → (IntKind.i64.wrap (2 ^ a2.toNat)) = ji14:=fun hle_=>by have h_:=hji14z hle_;rw [Int.one_mul] at h_;exact h_
   have hji14y:(wrap64 (1 * 2 ^ min a2.toNat 64)) = ji14:=(dl _).symm.trans hji14_;have hji14x:a2 ≤ 64 → (wrap64 (1 * 2 ^ a2.toNat)) = ji14:=fun h_=>(dl _).symm.trans (hji14z h_)
   replace H:=iN H;obtain ⟨c15,H⟩:=H;have c15b0:decide (0 ≤ (Go.bits .or .i64 a1 (ji14))) = true:=decide_eq_true c15;clear c15;replace H:=iN H;obtain ⟨c16,H⟩:=H;have c16b0:decide ((Go.bits .or .i64 a1 (ji14)) < (l0_1.length:Int)) = true:=decide_eq_true c16;clear c16;obtain rfl:=Option.some.inj H;go_enter Tryz.func74,Tryz.ntmps74;go_wp2_with (first|((with_reducible refine aC (N:=3) rfl ?_);refine bE 3 #[.int .i64 a0_0,.slice A0_1 l0_1.length c0_1] 51 ?_;intro gb3 hg w17 hbox hb;have BK3:=aM (hbox);have GW3:=aM (gS hg);have GE3:=aM (gS hg);replace HB:=aM (ae bw hb);clear hb hbox hg)|(go_at_call 73;(with_reducible refine (dr.calls a1 a2 false _ A4.out).mono ?_);rintro e w' ⟨rfl,⟨nd,rfl⟩⟩;(try exact dW);have hcz18_0:=cz BK3.out 0;have hcz18_1:=cz BK3.out 1;have hfz18_0:=aa BK3.out 0;have hfz18_1:=aa BK3.out 1;have p20:0 ≤ (a1:Int):=of_decide_eq_true ab;have q20:a1 < (l0_1.length:Int):=of_decide_eq_true ab;obtain ⟨ad20,e20,hx20_0⟩:=Kd.dS HR0_1.out a1 p20 q20;(try rw [← Nbq9.out] at hx20_0);cases e20;replace hx20_0:=(HB.out.cell (World.block_lt_of_cell? w _ hx20_0)).trans hx20_0;replace p20:=eq_true p20;replace q20:=eq_true q20;have p21:0 ≤ ((Go.bits .or .i64 a1 (ji14)):Int):=of_decide_eq_true ab;have q21:(Go.bits .or .i64 a1 (ji14)) < (l0_1.length:Int):=of_decide_eq_true ab;obtain ⟨ad21,e21,hx21_0⟩:=Kd.dS HR0_1.out (Go.bits .or .i64 a1 (ji14)) p21 q21;(try rw [← Nbq9.out] at hx21_0);obtain rfl:ad20 = ad21:=(by injection e21);replace hx21_0:=(HB.out.cell (World.block_lt_of_cell? w _ hx21_0)).trans hx21_0;replace p21:=eq_true p21;replace q21:=eq_true q21))
   repeat (go_quiet (first|((with_reducible refine aC (N:=3) rfl ?_);refine bE 3 #[.int .i64 a0_0,.slice A0_1 l0_1.length c0_1] 51 ?_;intro gb3 hg w17 hbox hb;have BK3:=aM (hbox);have GW3:=aM (gS hg);have GE3:=aM (gS hg);replace HB:=aM (ae bw hb);clear hb hbox hg)|(go_at_call 73;(with_reducible refine (dr.calls a1 a2 false _ A4.out).mono ?_);rintro e w' ⟨rfl,⟨nd,rfl⟩⟩;(try exact dW);have hcz18_0:=cz BK3.out 0;have hcz18_1:=cz BK3.out 1;have hfz18_0:=aa BK3.out 0;have hfz18_1:=aa BK3.out 1;have p20:0 ≤ (a1:Int):=of_decide_eq_true ab;have q20:a1 < (l0_1.length:Int):=of_decide_eq_true ab;obtain ⟨ad20,e20,hx20_0⟩:=Kd.dS HR0_1.out a1 p20 q20;(try rw [← Nbq9.out] at hx20_0);cases e20;replace hx20_0:=(HB.out.cell (World.block_lt_of_cell? w _ hx20_0)).trans hx20_0;replace p20:=eq_true p20;replace q20:=eq_true q20;have p21:0 ≤ ((Go.bits .or .i64 a1 (ji14)):Int):=of_decide_eq_true ab;have q21:(Go.bits .or .i64 a1 (ji14)) < (l0_1.length:Int):=of_decide_eq_true ab;obtain ⟨ad21,e21,hx21_0⟩:=Kd.dS HR0_1.out (Go.bits .or .i64 a1 (ji14)) p21 q21;(try rw [← Nbq9.out] at hx21_0);obtain rfl:ad20 = ad21:=(by injection e21);replace hx21_0:=(HB.out.cell (World.block_lt_of_cell? w _ hx21_0)).trans hx21_0;replace p21:=eq_true p21;replace q21:=eq_true q21));try go_wp2_with (first|((with_reducible refine aC (N:=3) rfl ?_);refine bE 3 #[.int .i64 a0_0,.slice A0_1 l0_1.length c0_1] 51 ?_;intro gb3 hg w17 hbox hb;have BK3:=aM (hbox);have GW3:=aM (gS hg);have GE3:=aM (gS hg);replace HB:=aM (ae bw hb);clear hb hbox hg)|(go_at_call 73;(with_reducible refine (dr.calls a1 a2 false _ A4.out).mono ?_);rintro e w' ⟨rfl,⟨nd,rfl⟩⟩;(try exact dW);have hcz18_0:=cz BK3.out 0;have hcz18_1:=cz BK3.out 1;have hfz18_0:=aa BK3.out 0;have hfz18_1:=aa BK3.out 1;have p20:0 ≤ (a1:Int):=of_decide_eq_true ab;have q20:a1 < (l0_1.length:Int):=of_decide_eq_true ab;obtain ⟨ad20,e20,hx20_0⟩:=Kd.dS HR0_1.out a1 p20 q20;(try rw [← Nbq9.out] at hx20_0);cases e20;replace hx20_0:=(HB.out.cell (World.block_lt_of_cell? w _ hx20_0)).trans hx20_0;replace p20:=eq_true p20;replace q20:=eq_true q20;have p21:0 ≤ ((Go.bits .or .i64 a1 (ji14)):Int):=of_decide_eq_true ab;have q21:(Go.bits .or .i64 a1 (ji14)) < (l0_1.length:Int):=of_decide_eq_true ab;obtain ⟨ad21,e21,hx21_0⟩:=Kd.dS HR0_1.out (Go.bits .or .i64 a1 (ji14)) p21 q21;(try rw [← Nbq9.out] at hx21_0);obtain rfl:ad20 = ad21:=(by injection e21);replace hx21_0:=(HB.out.cell (World.block_lt_of_cell? w _ hx21_0)).trans hx21_0;replace p21:=eq_true p21;replace q21:=eq_true q21)))
   go_ret
   exact ⟨by first|rfl|(simp [dk,di] <;> rfl)|(simp only [← hji14];first|rfl|(simp [dk,di] <;> rfl))|(simp [*,dk,di] <;> rfl),by exact bw⟩


mutual
def aZ.l0:Nat → List Int → Int → Int → Int → List Bool → Option (List Int)
 | 0,_,_,_,_,_=>none
 | k + 1,x3,x10,x11,x5,x6=>if x11 < x10 then (aZ.l1 k x3 x11 x10 x11 (x6.length:Int) 0 x5 x6) else (some x3)
def aZ.l1:Nat → List Int → Int → Int → Int → Int → Int → Int → List Bool → Option (List Int)
 | 0,_,_,_,_,_,_,_,_=>none
 | k + 1,x3,x4,x10,x11,x16,x17,x5,x6=>if x17 < x16 then ((cC.f x5 x6 x17 x4).bind fun t2=>(if t2 = true then (if 0 ≤ x4 then (if x4 < (x3.length:Int) then (aZ.l1 k (x3.set (x4:Int).toNat (wrap64 ((rd x3 x4) + 1))) x4 x10 x11 x16 (wrap64 (x17 + 1)) x5 x6) else (none)) else (none)) else (aZ.l1 k x3 x4 x10 x11 x16 (wrap64 (x17 + 1)) x5 x6))) else (aZ.l0 k x3 x10 (wrap64 (x11 + 1)) x5 x6)
end
def aZ.f (k:Nat) (a0_0:Int) (l0_1:List Bool):Option (List Int):=if 0 ≤ a0_0 then (if (a0_0:Int).toNat ≤ 35184372088832 then ((some (List.replicate (a0_0:Int).toNat 0:List Int)).bind fun y2=>(aZ.l0 k y2 (y2.length:Int) 0 a0_0 l0_1)) else (none)) else (none)
theorem aZ.calls (k:Nat) (a0_0:Int) (A0_1:Option Addr) (c0_1:Nat) (l0_1:List Bool) (r:List Int) (w:World) (hr0_1:Kd.C Kd.bool w A0_1 l0_1.length l0_1) (hc0_1:l0_1.length ≤ c0_1) (h:aZ.f k a0_0 l0_1 = some r) :
  Calls Tryz.prog 33 #[.agg #[.int .i64 a0_0,.slice A0_1 l0_1.length c0_1]] w fun e w'=>∃ v0_:Value,e = .returned (v0_) ∧ Kd.R (Kd.int .i64) 3 w' w.heap.size (fun _=>True) v0_ r ∧ Below w.heap.size w w':=by
 have hu51:=Tryz.underlying51;have HR0_1:=aM hr0_1;have HC0_1:=aM hc0_1;clear hr0_1 hc0_1;have HB:=aM (Below.refl w.heap.size w);have H:(if 0 ≤ a0_0 then (if (a0_0:Int).toNat ≤ 35184372088832 then ((some (List.replicate (a0_0:Int).toNat 0:List Int)).bind fun y25=>(aZ.l0 k y25 (y25.length:Int) 0 a0_0 l0_1)) else (none)) else (none)) = some r:=h;clear h;replace H:=iN H;obtain ⟨c2,H⟩:=H;have c2b0:=eq_true c2;have c2b1:decide (0 ≤ a0_0) = true:=decide_eq_true c2;clear c2;replace H:=iN H;obtain ⟨c3,H⟩:=H;have c3b0:=eq_true c3;have c3b1:decide ((a0_0:Int).toNat ≤ 35184372088832) = true:=decide_eq_true c3;clear c3;obtain ⟨y25,hy25⟩:∃ y_:List Int,y_ = (List.replicate (a0_0:Int).toNat 0):=⟨_,rfl⟩;replace H:(aZ.l0 k y25 (y25.length:Int) 0 a0_0 l0_1) = some r:=yR hy25 H;have Ny25:=aM hy25;clear hy25;have H':=aM H;clear H;go_enter Tryz.func33,Tryz.ntmps33;go_wp2_with (first|((with_reducible refine aC (N:=1) rfl ?_);refine bE 1 #[.int .i64 a0_0,.slice A0_1 l0_1.length c0_1] 51 ?_;intro gb23 hg w4 hbox hb;have BK23:=aM (hbox);have GW23:=aM (gS hg);have GE23:=aM (gS hg);replace HB:=aM (ae bw hb);clear hb hbox hg;have hcz5_0:=cz BK23.out 0;have hcz5_1:=cz BK23.out 1;have hfz5_0:=aa BK23.out 0;have hfz5_1:=aa BK23.out 1)|((with_reducible refine aC (N:=8) rfl ?_);refine Kd.mB (Kd.int .i64) _ 3 rfl (N:=8) rfl 24 _ _ rfl a0_0 rfl rfl Tryz.underlying24 (.int .i64 0) 8 fp rfl (by decide) (by omega) 0 (ok:=fun _=>True) (okp:=fun _=>True) rfl (fun _ hk=>hk) trivial (of_decide_eq_true ab) (Nat.le_trans (Nat.mul_le_mul_right _ (of_decide_eq_true ab:a0_0.toNat ≤ 35184372088832)) (by omega)) (Below.refl _ _) (Nat.le_refl _) ?_;intro v26 w6 ho7 hb hg_ hnew_;clear hg_ hnew_;(first|rw [← Ny25.out] at ho7|(simp only [Int.reduceToNat] at ho7;rw [← Ny25.out] at ho7));have HO27:=aM (Kd.bg ho7 (au bw));replace BK23:=aM (bB BK23.out hb);replace HB:=aM (ae bw hb);clear hb ho7;obtain ⟨Ao8,co8,eo8⟩:=Kd.aX HO27.out;subst eo8))
 go_loopg [11] k (fun kq v11 w'=>∃ (x3_1:List Int) (x11_1:Int),v11 = .int .i64 x11_1 ∧ ak (aZ.l0 kq x3_1 (y25.length:Int) x11_1 a0_0 l0_1 = some r) ∧ ak (kq ≤ k) ∧ ak (Kd.R (Kd.int .i64) 3 w' w.heap.size (fun _=>True) (.slice Ao8 y25.length co8) x3_1) ∧ ak (w'.heap[gb23]? = some (.cells #[.int .i64 a0_0,(.slice A0_1 l0_1.length c0_1)] 51 (0,0))) ∧ ak (Below w.heap.size w w'))
 case atStart=>exact ⟨(y25),(0),qrs,H',⟨Nat.le_refl _⟩,⟨qra HO27.out⟩,⟨bk1 BK23.out⟩,⟨by exact bw⟩⟩
 case round =>
  clear H';(try clear c2);(try clear c2b0);(try clear c2b1);(try clear c3);(try clear c3b0);(try clear c3b1);(try clear hcz5_0);(try clear hcz5_1);(try clear hfz5_0);(try clear hfz5_1)
  obtain ⟨x3_1,x11_1,rfl,HA,HK1,HO_3,BK23,HB⟩:=hrel;have hl3_1:=(Kd.aj HO_3.out).1;rw [hl3_1] at HO_3;(try simp only [hl3_1])
  (try simp only [hl3_1] at BK23)
  cases gk with
  | zero=>exact absurd HA.out (by simp [aZ.l0])
  | succ k1 =>
   have H:=HA.out;clear HA;simp only [aZ.l0] at H;by_cases c9:x11_1 < (y25.length:Int)
   ·rw [if_pos c9] at H;have c9b0:=decide_eq_true c9;(try simp only [hl3_1] at c9b0)
    clear c9;have H':=aM H;clear H;have hcz10_0:=cz BK23.out 0;have hcz10_1:=cz BK23.out 1;have hfz10_0:=aa BK23.out 0;have hfz10_1:=aa BK23.out 1;go_wp2
    go_loopg [17] k1 (fun kq v17 w'=>∃ (x3_2:List Int) (x17_2:Int),v17 = .int .i64 x17_2 ∧ ak (aZ.l1 kq x3_2 x11_1 (y25.length:Int) x11_1 (l0_1.length:Int) x17_2 a0_0 l0_1 = some r) ∧ ak (kq ≤ k1) ∧ ak (Kd.R (Kd.int .i64) 3 w' w.heap.size (fun _=>True) (.slice Ao8 x3_1.length co8) x3_2) ∧ ak (w'.heap[gb23]? = some (.cells #[.int .i64 a0_0,(.slice A0_1 l0_1.length c0_1)] 51 (0,0))) ∧ ak (Below w.heap.size w w'))
    case atStart=>exact ⟨(x3_1),(0),qrs,H',⟨Nat.le_refl _⟩,⟨by (try simp only [hl3_1]);(with_reducible repeat (first|apply Kd.aN|apply Kd.aK|apply Kd.aE));exact HO_3.out⟩,⟨by (try simp only [hl3_1]);(with_reducible repeat (first|refine ar ?_ _|refine al ?_|refine an ?_ _));exact BK23.out⟩,⟨by exact bw⟩⟩
    case round =>
     clear H';(try clear c9);(try clear c9b0);(try clear hcz10_0);(try clear hcz10_1);(try clear hfz10_0);(try clear hfz10_1)
     obtain ⟨x3_2,x17_2,rfl,HA,HK2,HO_3,BK23,HB⟩:=hrel;have hl3_2:=(Kd.aj HO_3.out).1;rw [hl3_2] at HO_3;(try simp only [hl3_2])
     (try simp only [hl3_2] at BK23)
     cases gk with
     | zero=>exact absurd HA.out (by simp [aZ.l1])
     | succ k2 =>
      have H:=HA.out;clear HA;simp only [aZ.l1] at H;by_cases c11:x17_2 < (l0_1.length:Int)
      ·rw [if_pos c11] at H;have c11b0:=decide_eq_true c11;(try simp only [hl3_1,hl3_2] at c11b0)
       clear c11;replace H:=oB H;obtain ⟨t28,A12,H⟩:=H;(try dsimp only at H)
       by_cases c13:t28 = true
       ·subst c13;rw [if_pos rfl] at H;replace H:=iN H;obtain ⟨c14,H⟩:=H;have c14b0:decide (0 ≤ x11_1) = true:=decide_eq_true c14;clear c14;replace H:=iN H;obtain ⟨c15,H⟩:=H;have c15b0:decide (x11_1 < (x3_2.length:Int)) = true:=decide_eq_true c15;(try simp only [hl3_1,hl3_2] at c15b0)
        clear c15;obtain ⟨y30,hy30⟩:∃ y_:List Int,y_ = (x3_2.set (x11_1:Int).toNat (wrap64 ((rd x3_2 x11_1) + 1))):=⟨_,rfl⟩;replace H:(aZ.l1 k2 y30 x11_1 (y25.length:Int) x11_1 (l0_1.length:Int) (wrap64 (x17_2 + 1)) a0_0 l0_1) = some r:=yR hy30 H;have Ny30:=aM hy30;clear hy30;have H':=aM H;clear H;have hcz17_0:=cz BK23.out 0;have hcz17_1:=cz BK23.out 1;have hfz17_0:=aa BK23.out 0;have hfz17_1:=aa BK23.out 1;go_wp2_with (first|((with_reducible refine ah (f:=74) rfl ?_);refine gL 23 Tryz.func74 #[.agg #[.int .i64 a0_0,.slice A0_1 l0_1.length c0_1],.int .i64 x17_2,.int .i64 x11_1] ?_;(with_reducible refine (cC.calls a0_0 _ _ l0_1 x17_2 x11_1 true _ ?side1 ?side2 A12.out).mono ?_);(case side1=>exact qcs HR0_1.out HB.out);(case side2=>exact HC0_1.out);rintro e w18 ⟨rfl,hb⟩;refine ⟨_,rfl,?_⟩;replace HO_3:=aM (Kd.aG (qra HO_3.out) hb);replace BK23:=aM (bB BK23.out hb);replace HB:=aM (ae bw hb);(try clear hb);(try clear hk);have p29:0 ≤ (x11_1:Int):=of_decide_eq_true ab;have q29:x11_1 < (x3_2.length:Int):=of_decide_eq_true ab;obtain ⟨ad29,e29,hx29_0⟩:=Kd.bK (Kd.aj HO_3.out).2.2 x11_1 p29 q29;cases e29;replace p29:=eq_true p29;replace q29:=eq_true q29;have p16:0 ≤ (x11_1:Int):=of_decide_eq_true ab;have q16:(x11_1:Int) < ((x3_2.length:Int):Int):=of_decide_eq_true ab;obtain ⟨go16,co16,eo16,gb16,gl16,cl16,HG16⟩:=Kd.gQ HO_3.out (by omega);(first|cases eo16|(injection eo16 with ea_ en_ ec_;(first|subst ea_|(injection ea_ with ea_;subst ea_));subst ec_;clear en_));have GB16:=aM gb16;have GG16:=aM HG16;clear gb16 gl16 HG16;(first|simp only [add_plain] at hx29_0|skip);obtain ⟨hx16_0,hf16_0⟩:=Kd.fO 0 HO_3.out (x11_1:Int) p16 q16;replace p16:=eq_true p16;replace q16:=eq_true q16;obtain ⟨hy19_,hz19_⟩:=Kd.fO 0 HO_3.out (x11_1:Int) (of_decide_eq_true ab) (of_decide_eq_true ab);have HP19:=Kd.je HO_3.out (x11_1:Int) (wrap64 ((rd x3_2 x11_1) + 1)))|((with_reducible refine ft (t:=3) (p:=29) rfl ?_);refine eP (t:=3) (p:=29) (v:=?vo_w20) (w1:=(w18.setCell ⟨go16,(x11_1:Int).toNat,none⟩ (.int .i64 (wrap64 ((rd x3_2 x11_1) + 1))))) ?hg ?ho ?hn ?hr ?_;(case ho=>rfl);(case hg=>rfl);(case hn=>rfl);(case hr=>first|(go_simp;done)|(go_simp;rfl));intro w20 hw;have hg:w18.grownBy w20 (some go16):=(by rw [hw];exact HP19.2);have hp_:Kd.R (Kd.int .i64) 3 w20 w.heap.size (fun _=>True) (.slice (some ⟨go16,0,none⟩) x3_2.length co8) y30:=(by rw [hw,Ny30.out];exact HP19.1);clear HP19;replace BK23:=aM (bH BK23.out hg (Kd.fe HO_3.out BK23.out (by decide)));replace HO_3:=aM (hp_);replace HB:=aM ((by rw [hw];exact ap (HB.out) GB16.out:Below w.heap.size w w20));clear hg hw hp_))
        (try simp only [← hl3_2])
        go_roundg k2
        case measure=>have:=HK1.out;have:=HK2.out;omega
        case rel=>exact ⟨(y30),(wrap64 (x17_2 + 1)),qrs,H',⟨by have:=HK1.out;have:=HK2.out;omega⟩,⟨by (try simp only [hl3_1]);(try simp only [hl3_2]);(with_reducible repeat (first|apply Kd.aN|apply Kd.aK|apply Kd.aE));exact HO_3.out⟩,⟨by (try simp only [hl3_1]);(try simp only [hl3_2]);(with_reducible repeat (first|refine ar ?_ _|refine al ?_|refine an ?_ _));exact BK23.out⟩,⟨by exact bw⟩⟩
       ·replace c13:=Bool.eq_false_iff.mpr c13;subst c13;rw [if_neg (show ¬ (false = true) by decide)] at H;have H':=aM H;clear H;have hcz21_0:=cz BK23.out 0;have hcz21_1:=cz BK23.out 1;have hfz21_0:=aa BK23.out 0;have hfz21_1:=aa BK23.out 1;go_wp2_with (first|((with_reducible refine ah (f:=74) rfl ?_);refine gL 23 Tryz.func74 #[.agg #[.int .i64 a0_0,.slice A0_1 l0_1.length c0_1],.int .i64 x17_2,.int .i64 x11_1] ?_;(with_reducible refine (cC.calls a0_0 _ _ l0_1 x17_2 x11_1 false _ ?side1 ?side2 A12.out).mono ?_);(case side1=>exact qcs HR0_1.out HB.out);(case side2=>exact HC0_1.out);rintro e w22 ⟨rfl,hb⟩;refine ⟨_,rfl,?_⟩;replace HO_3:=aM (Kd.aG (qra HO_3.out) hb);replace BK23:=aM (bB BK23.out hb);replace HB:=aM (ae bw hb);(try clear hb)))
        (try simp only [← hl3_2])
        go_roundg k2
        case measure=>have:=HK1.out;have:=HK2.out;omega
        case rel=>exact ⟨(x3_2),(wrap64 (x17_2 + 1)),qrs,H',⟨by have:=HK1.out;have:=HK2.out;omega⟩,⟨by (try simp only [hl3_1]);(try simp only [hl3_2]);(with_reducible repeat (first|apply Kd.aN|apply Kd.aK|apply Kd.aE));exact HO_3.out⟩,⟨by (try simp only [hl3_1]);(try simp only [hl3_2]);(with_reducible repeat (first|refine ar ?_ _|refine al ?_|refine an ?_ _));exact BK23.out⟩,⟨by exact bw⟩⟩
      ·rw [if_neg c11] at H;have c11b0:=decide_eq_false c11;(try simp only [hl3_1,hl3_2] at c11b0)
       clear c11;have H':=aM H;clear H;go_wp2
       (try simp only [← hl3_1,← hl3_2])
       go_roundg k2
       case measure=>have:=HK1.out;have:=HK2.out;omega
       case rel=>exact ⟨(x3_2),(wrap64 (x11_1 + 1)),qrs,H',⟨by have:=HK1.out;have:=HK2.out;omega⟩,⟨by (try simp only [hl3_1]);(try simp only [hl3_2]);(with_reducible repeat (first|apply Kd.aN|apply Kd.aK|apply Kd.aE));exact HO_3.out⟩,⟨by (try simp only [hl3_1]);(try simp only [hl3_2]);(with_reducible repeat (first|refine ar ?_ _|refine al ?_|refine an ?_ _));exact BK23.out⟩,⟨by exact bw⟩⟩
   ·rw [if_neg c9] at H;have c9b0:=decide_eq_false c9;(try simp only [hl3_1] at c9b0)
    clear c9;obtain rfl:=Option.some.inj H;go_wp2
    go_ret
    exact ⟨_,eE,by (with_reducible repeat (first|apply Kd.aN|apply Kd.aK|apply Kd.aE));exact HO_3.out,by exact bw⟩


def cy.f (k:Nat) (a0_0:Int) (l0_1:List Int) (a1:Int) (a2:Int):Option (List Int × Bool):=(ca.f k a0_0 l0_1 a1 a2).bind fun bt3=>(if bt3.2.2 = true then ((aZ.f k bt3.1 bt3.2.1).bind fun t4=>(some (t4,true))) else (some (([]:List Int),false)))
theorem cy.calls (k:Nat) (a0_0:Int) (A0_1:Option Addr) (c0_1:Nat) (l0_1:List Int) (a1:Int) (a2:Int) (r1:List Int) (r2:Bool) (w:World) (hr0_1:Kd.C (Kd.int .i64) w A0_1 l0_1.length l0_1) (hc0_1:l0_1.length ≤ c0_1) (h:cy.f k a0_0 l0_1 a1 a2 = some (r1,r2)) :
  Calls Tryz.prog 8 #[.agg #[.int .i64 a0_0,.slice A0_1 l0_1.length c0_1],.int .i64 a1,.int .i64 a2] w fun e w'=>∃ v0_:Value,e = .returned (.tuple #[v0_,.bool r2]) ∧ Kd.R (Kd.int .i64) 3 w' w.heap.size (fun _=>True) v0_ r1 ∧ Below w.heap.size w w':=by
 have hu26:=Tryz.underlying26;have hu51:=Tryz.underlying51;have HR0_1:=aM hr0_1;have HC0_1:=aM hc0_1;clear hr0_1 hc0_1;have HB:=aM (Below.refl w.heap.size w);have H:((ca.f k a0_0 l0_1 a1 a2).bind fun bt22=>(if bt22.2.2 = true then ((aZ.f k bt22.1 bt22.2.1).bind fun t30=>(some (t30,true))) else (some (([]:List Int),false)))) = some (r1,r2):=h;clear h;replace H:=oB H;obtain ⟨⟨t22,t23,t27⟩,A4,H⟩:=H;(try dsimp only at H)
 by_cases c5:t27 = true
 ·subst c5;rw [if_pos rfl] at H;replace H:=oB H;obtain ⟨t30,A6,H⟩:=H;(try dsimp only at H)
  simp only [Option.some.injEq,Prod.mk.injEq] at H;obtain ⟨rfl,rfl⟩:=H;go_enter Tryz.func8,Tryz.ntmps8;go_wp2_with (first|((with_reducible refine aC (N:=3) rfl ?_);refine bE 3 #[.int .i64 a0_0,.slice A0_1 l0_1.length c0_1] 26 ?_;intro gb3 hg w7 hbox hb;have BK3:=aM (hbox);have GW3:=aM (gS hg);have GE3:=aM (gS hg);replace HB:=aM (ae bw hb);clear hb hbox hg;have hcz8_0:=cz BK3.out 0;have hcz8_1:=cz BK3.out 1;have hfz8_0:=aa BK3.out 0;have hfz8_1:=aa BK3.out 1)|((with_reducible refine ah (f:=28) rfl ?_);refine gL 14 Tryz.func28 #[.agg #[.int .i64 a0_0,.slice A0_1 l0_1.length c0_1],.int .i64 a1,.int .i64 a2] ?_;(with_reducible refine (ca.calls k a0_0 _ _ l0_1 a1 a2 t22 t23 true _ ?side1 ?side2 A4.out).mono ?_);(case side1=>exact qcs HR0_1.out HB.out);(case side2=>exact HC0_1.out);rintro e w9 ⟨v24,rfl,ho0,hb⟩;refine ⟨_,rfl,?_⟩;have HO25:=aM (Kd.bg ho0 (au bw));replace BK3:=aM (bB BK3.out hb);replace HB:=aM (ae bw hb);(try clear hb);(try clear ho0))|((with_reducible refine aC (N:=8) rfl ?_);refine bE 8 #[.int .i64 0,.slice none 0 0] 51 ?_;intro gb29 hg w10 hbox hb;replace HO25:=aM (Kd.aG (qra HO25.out) hb);have BK29:=aM (hbox);have GW29:=aM (gS hg);have GE29:=aM (gS hg);replace HB:=aM (ae bw hb);have NB3_29:=aM (nL BK3.out hg);have NB29_3:=aM (nR BK3.out hg);replace BK3:=aM (bB BK3.out hb);clear hb hbox hg;have hnb11:=NB29_3.out;have hnc11:=NB3_29.out;have hcz12_0:=cz BK29.out 0;have hcz12_1:=cz BK29.out 1;have hfz12_0:=aa BK29.out 0;have hfz12_1:=aa BK29.out 1;obtain ⟨Ao13,co13,eo13⟩:=Kd.aX HO25.out;subst eo13)|((with_reducible refine ah (f:=33) rfl ?_);refine gL 20 Tryz.func33 #[.agg #[.int .i64 t22,.slice Ao13 t23.length co13]] ?_;(with_reducible refine (aZ.calls k t22 _ _ t23 t30 _ ?side1 ?side2 A6.out).mono ?_);(case side1=>refine (Kd.aj (e:=4) (base:=w.heap.size) (ok:=fun k_=>True) (n:=t23.length) (c:=co13) ?_).2.2;exact (tR HO25.out BK29.out));(case side2=>exact (Kd.aj HO25.out).2.1);rintro e w14 ⟨v31,rfl,ho0,hb⟩;refine ⟨_,rfl,?_⟩;replace HO25:=aM (Kd.aG (tR HO25.out BK29.out) hb);have HO32:=aM (Kd.bg ho0 (au bw));replace BK3:=aM (bG BK3.out NB3_29.out hb);replace BK29:=aM (bP BK29.out hb);replace HB:=aM (ae bw hb);(try clear hb);(try clear hk);(try clear ho0)))
  go_ret2
  exact ⟨_,eE,by (with_reducible repeat (first|apply Kd.aN|apply Kd.aK|apply Kd.aE));exact HO32.out,by exact bw⟩
 ·replace c5:=Bool.eq_false_iff.mpr c5;subst c5;rw [if_neg (show ¬ (false = true) by decide)] at H;simp only [Option.some.injEq,Prod.mk.injEq] at H;obtain ⟨rfl,rfl⟩:=H;go_enter Tryz.func8,Tryz.ntmps8;go_wp2_with (first|((with_reducible refine aC (N:=3) rfl ?_);refine bE 3 #[.int .i64 a0_0,.slice A0_1 l0_1.length c0_1] 26 ?_;intro gb3 hg w15 hbox hb;have BK3:=aM (hbox);have GW3:=aM (gS hg);have GE3:=aM (gS hg);replace HB:=aM (ae bw hb);clear hb hbox hg;have hcz16_0:=cz BK3.out 0;have hcz16_1:=cz BK3.out 1;have hfz16_0:=aa BK3.out 0;have hfz16_1:=aa BK3.out 1)|((with_reducible refine ah (f:=28) rfl ?_);refine gL 14 Tryz.func28 #[.agg #[.int .i64 a0_0,.slice A0_1 l0_1.length c0_1],.int .i64 a1,.int .i64 a2] ?_;(with_reducible refine (ca.calls k a0_0 _ _ l0_1 a1 a2 t22 t23 false _ ?side1 ?side2 A4.out).mono ?_);(case side1=>exact qcs HR0_1.out HB.out);(case side2=>exact HC0_1.out);rintro e w17 ⟨v24,rfl,ho0,hb⟩;refine ⟨_,rfl,?_⟩;have HO25:=aM (Kd.bg ho0 (au bw));replace BK3:=aM (bB BK3.out hb);replace HB:=aM (ae bw hb);(try clear hb);(try clear ho0))|((with_reducible refine aC (N:=8) rfl ?_);refine bE 8 #[.int .i64 0,.slice none 0 0] 51 ?_;intro gb29 hg w18 hbox hb;replace HO25:=aM (Kd.aG (qra HO25.out) hb);have BK29:=aM (hbox);have GW29:=aM (gS hg);have GE29:=aM (gS hg);replace HB:=aM (ae bw hb);have NB3_29:=aM (nL BK3.out hg);have NB29_3:=aM (nR BK3.out hg);replace BK3:=aM (bB BK3.out hb);clear hb hbox hg;have hnb19:=NB29_3.out;have hnc19:=NB3_29.out;have hcz20_0:=cz BK29.out 0;have hcz20_1:=cz BK29.out 1;have hfz20_0:=aa BK29.out 0;have hfz20_1:=aa BK29.out 1;obtain ⟨Ao21,co21,eo21⟩:=Kd.aX HO25.out;subst eo21))
  go_ret2
  exact ⟨_,eE,by first|exact Kd.eD _ _ _ _ _|exact Kd.eU _ _ _ _ _|exact Kd.eW _ _ _ _ _|exact Kd.eV _ _ _ _ _|exact Kd.eS _ _ _ _ _,by exact bw⟩


def b9.l0:Nat → List Bool → Int → List Int → List Bool → Int → Int → Option (List Int)
 | 0,_,_,_,_,_,_=>none
 | k + 1,x0,x1,x5,x8,x9,x10=>if x10 < x9 then (if 0 ≤ x10 then (if x10 < (x8.length:Int) then (if 0 ≤ x1 then (if (Int.tmod (shr .i64 x10 x1) 2) = 0 then (if iQ false x8 x10 = true then (b9.l0 k x0 x1 x5 x8 x9 (wrap64 (x10 + 1))) else (if 0 ≤ (wrap64 (x10 + (shl .i64 1 x1))) then (if (wrap64 (x10 + (shl .i64 1 x1))) < (x0.length:Int) then (if iQ false x0 (wrap64 (x10 + (shl .i64 1 x1))) = true then (if x5.length < 17592186044416 then (b9.l0 k x0 x1 (x5 ++ [x10]) x8 x9 (wrap64 (x10 + 1))) else (none)) else (b9.l0 k x0 x1 x5 x8 x9 (wrap64 (x10 + 1)))) else (none)) else (none))) else (b9.l0 k x0 x1 x5 x8 x9 (wrap64 (x10 + 1)))) else (none)) else (none)) else (none)) else (some x5)
def b9.f (k:Nat) (l0:List Bool) (a1:Int):Option (List Int):=b9.l0 k l0 a1 ([]:List Int) l0 (l0.length:Int) 0
theorem b9.calls (k:Nat) (A0:Option Addr) (c0:Nat) (l0:List Bool) (a1:Int) (r:List Int) (w:World) (hr0:Kd.C Kd.bool w A0 l0.length l0) (hc0:l0.length ≤ c0) (h:b9.f k l0 a1 = some r) :
  Calls Tryz.prog 75 #[.slice A0 l0.length c0,.int .i64 a1] w fun e w'=>∃ v0_:Value,e = .returned (v0_) ∧ Kd.R (Kd.int .i64) 3 w' w.heap.size (fun _=>True) v0_ r ∧ Below w.heap.size w w':=by
 have HR0:=aM hr0;have HC0:=aM hc0;clear hr0 hc0;have HB:=aM (Below.refl w.heap.size w);have H:(b9.l0 k l0 a1 ([]:List Int) l0 (l0.length:Int) 0) = some r:=h;clear h;have H':=aM H;clear H;go_enter Tryz.func75,Tryz.ntmps75;go_wp2
 go_loopg [5,10] k (fun kq v5 v10 w'=>∃ (x5_1:List Int) (x10_1:Int),v10 = .int .i64 x10_1 ∧ ak (b9.l0 kq l0 a1 x5_1 l0 (l0.length:Int) x10_1 = some r) ∧ ak (kq ≤ k) ∧ ak (Kd.R (Kd.int .i64) 3 w' w.heap.size (fun _=>True) v5 x5_1) ∧ ak (Below w.heap.size w w'))
 case atStart=>exact ⟨(([]:List Int)),(0),qrs,H',⟨Nat.le_refl _⟩,⟨by first|exact Kd.eD _ _ _ _ _|exact Kd.eU _ _ _ _ _|exact Kd.eW _ _ _ _ _|exact Kd.eV _ _ _ _ _|exact Kd.eS _ _ _ _ _⟩,⟨by exact bw⟩⟩
 case round =>
  clear H'
  try clear p2
  obtain ⟨x5_1,x10_1,rfl,HA,HK1,HO_5,HB⟩:=hrel
  cases gk with
  | zero=>exact absurd HA.out (by simp [b9.l0])
  | succ k1 =>
   have H:=HA.out;clear HA;simp only [b9.l0] at H;by_cases c3:x10_1 < (l0.length:Int)
   ·rw [if_pos c3] at H;have c3b0:=decide_eq_true c3;clear c3;replace H:=iN H;obtain ⟨c4,H⟩:=H;have c4b0:decide (0 ≤ x10_1) = true:=decide_eq_true c4;clear c4;replace H:=iN H;obtain ⟨c5,H⟩:=H;have c5b0:decide (x10_1 < (l0.length:Int)) = true:=decide_eq_true c5;clear c5;replace H:=iN H;obtain ⟨c6,H⟩:=H;have c6b0:=eq_true c6;have c6b1:decide (0 ≤ a1) = true:=decide_eq_true c6;clear c6;obtain ⟨ji7,hji7⟩:∃ j_:Int,(shr .i64 x10_1 a1) = j_:=⟨_,rfl⟩;(first|rw [hji7] at H|simp only [hji7] at H)
    have hji7_:(x10_1 / 2 ^ min a1.toNat 64) = ji7:=hji7;have hji7z:a1 ≤ 64 → (x10_1 / 2 ^ a1.toNat) = ji7:=fu hji7;by_cases c8:(Int.tmod (ji7) 2) = 0
    ·rw [if_pos c8] at H;have c8b0:((Int.tmod (ji7) 2) == 0) = true:=beq_iff_eq.mpr c8;have c8b1:((Int.tmod (ji7) 2) != 0) = false:=bne_eq_false_iff_eq.mpr c8;clear c8;obtain ⟨bq9,hbq9⟩:∃ b_:Bool,b_ = (iQ false l0 x10_1):=⟨_,rfl⟩;rw [← hbq9] at H;have Nbq9:=aM hbq9;clear hbq9;by_cases c10:bq9 = true
     ·subst c10;rw [if_pos rfl] at H;have H':=aM H;clear H;have p20:0 ≤ (x10_1:Int):=of_decide_eq_true ab;have q20:x10_1 < (l0.length:Int):=of_decide_eq_true ab;obtain ⟨ad20,e20,hx20_0⟩:=Kd.dS HR0.out x10_1 p20 q20;(try rw [← Nbq9.out] at hx20_0)
      cases e20
      replace hx20_0:=(HB.out.cell (World.block_lt_of_cell? w _ hx20_0)).trans hx20_0;replace p20:=eq_true p20;replace q20:=eq_true q20;go_wp2
      go_roundg k1
      case measure=>have:=HK1.out;omega
      case rel=>exact ⟨(x5_1),(wrap64 (x10_1 + 1)),qrs,H',⟨by have:=HK1.out;omega⟩,⟨qra HO_5.out⟩,⟨by exact bw⟩⟩
     ·replace c10:=Bool.eq_false_iff.mpr c10;subst c10;rw [if_neg (show ¬ (false = true) by decide)] at H;have c11b0:=eq_true (of_decide_eq_true ab:0 ≤ a1);obtain ⟨ji12,hji12⟩:∃ j_:Int,(shl .i64 1 a1) = j_:=⟨_,rfl⟩;(first|rw [hji12] at H|simp only [hji12] at H)
      have hji12_:(IntKind.i64.wrap (1 * 2 ^ min a1.toNat 64)) = ji12:=hji12;have hji12z:a1 ≤ 64 → (IntKind.i64.wrap (1 * 2 ^ a1.toNat)) = ji12:=fX hji12;have hji12u:(IntKind.i64.wrap (2 ^ min a1.toNat 64)) = ji12:=by have h_:=hji12_;rw [Int.one_mul] at h_;exact h_
      have hji12v:a1 ≤ 64 → (IntKind.i64.wrap (2 ^ a1.toNat)) = ji12:=fun hle_=>by have h_:=hji12z hle_;rw [Int.one_mul] at h_;exact h_
      have hji12y:(wrap64 (1 * 2 ^ min a1.toNat 64)) = ji12:=(dl _).symm.trans hji12_;have hji12x:a1 ≤ 64 → (wrap64 (1 * 2 ^ a1.toNat)) = ji12:=fun h_=>(dl _).symm.trans (hji12z h_)
      obtain ⟨ji13,hji13⟩:∃ j_:Int,(wrap64 (x10_1 + (ji12))) = j_:=⟨_,rfl⟩;(first|rw [hji13] at H|simp only [hji13] at H)
      have hji13w:(IntKind.i64.wrap (x10_1 + (ji12))) = ji13:=(dl _).trans hji13;replace H:=iN H;obtain ⟨c14,H⟩:=H;have c14b0:decide (0 ≤ (ji13)) = true:=decide_eq_true c14;clear c14;replace H:=iN H;obtain ⟨c15,H⟩:=H;have c15b0:decide ((ji13) < (l0.length:Int)) = true:=decide_eq_true c15;clear c15;obtain ⟨bq16,hbq16⟩:∃ b_:Bool,b_ = (iQ false l0 (ji13)):=⟨_,rfl⟩;rw [← hbq16] at H;have Nbq16:=aM hbq16;clear hbq16;by_cases c17:bq16 = true
      ·subst c17;rw [if_pos rfl] at H;replace H:=iN H;obtain ⟨c18,H⟩:=H;have LMc18:=aM c18;clear c18;obtain ⟨y22,hy22⟩:∃ y_:List Int,y_ = (x5_1 ++ [x10_1]):=⟨_,rfl⟩;replace H:(b9.l0 k1 l0 a1 y22 l0 (l0.length:Int) (wrap64 (x10_1 + 1))) = some r:=yR hy22 H;have Ny22:=aM hy22;clear hy22;have H':=aM H;clear H;have p20:0 ≤ (x10_1:Int):=of_decide_eq_true ab;have q20:x10_1 < (l0.length:Int):=of_decide_eq_true ab;obtain ⟨ad20,e20,hx20_0⟩:=Kd.dS HR0.out x10_1 p20 q20;(try rw [← Nbq9.out] at hx20_0)
       (try rw [← Nbq16.out] at hx20_0)
       cases e20
       replace hx20_0:=(HB.out.cell (World.block_lt_of_cell? w _ hx20_0)).trans hx20_0;replace p20:=eq_true p20;replace q20:=eq_true q20;have p21:0 ≤ ((ji13):Int):=of_decide_eq_true ab;have q21:(ji13) < (l0.length:Int):=of_decide_eq_true ab;obtain ⟨ad21,e21,hx21_0⟩:=Kd.dS HR0.out (ji13) p21 q21;(try rw [← Nbq9.out] at hx21_0)
       (try rw [← Nbq16.out] at hx21_0)
       obtain rfl:ad20 = ad21:=(by injection e21);replace hx21_0:=(HB.out.cell (World.block_lt_of_cell? w _ hx21_0)).trans hx21_0;replace p21:=eq_true p21;replace q21:=eq_true q21;go_wp2_with (first|((with_reducible refine cN (b:=.append) (xs:=#[.tmp 33,.tmp 35]) rfl ?_);at_builtin;refine Kd.dY (Kd.int .i64) (w0:=w) w.heap.size rfl (.tmp 33) (.tmp 35) 24 3 (.int .i64 0) 8 rfl Tryz.underlying24 fp rfl (by decide) (by omega) u5 x5_1 x10_1 [.int .i64 x10_1] (fun _=>True) (fun _=>False) rfl rfl ?aP (fun _ hk=>hk.elim) ?aF ?aO ?aB ?aS ?aL ?_;(case aP=>exact rfl);(case aB=>exact bw);(case aF=>exact (fun _ _=>trivial));(case aO=>exact (qra HO_5.out));(case aS=>exact (au bw));(case aL=>have:=LMc18.out;omega);intro v23 w19 ho hb hg hat;rw [← Ny22.out] at ho;replace HB:=aM (hb);have HO25:=aM (ho);clear HO_5;clear ho hb hg hat))
       go_roundg k1
       case measure=>have:=HK1.out;omega
       case rel=>exact ⟨(y22),(wrap64 (x10_1 + 1)),qrs,H',⟨by have:=HK1.out;omega⟩,⟨qra HO25.out⟩,⟨by exact bw⟩⟩
      ·replace c17:=Bool.eq_false_iff.mpr c17;subst c17;rw [if_neg (show ¬ (false = true) by decide)] at H;have H':=aM H;clear H;have p20:0 ≤ (x10_1:Int):=of_decide_eq_true ab;have q20:x10_1 < (l0.length:Int):=of_decide_eq_true ab;obtain ⟨ad20,e20,hx20_0⟩:=Kd.dS HR0.out x10_1 p20 q20;(try rw [← Nbq9.out] at hx20_0)
       (try rw [← Nbq16.out] at hx20_0)
       cases e20
       replace hx20_0:=(HB.out.cell (World.block_lt_of_cell? w _ hx20_0)).trans hx20_0;replace p20:=eq_true p20;replace q20:=eq_true q20;have p21:0 ≤ ((ji13):Int):=of_decide_eq_true ab;have q21:(ji13) < (l0.length:Int):=of_decide_eq_true ab;obtain ⟨ad21,e21,hx21_0⟩:=Kd.dS HR0.out (ji13) p21 q21;(try rw [← Nbq9.out] at hx21_0)
       (try rw [← Nbq16.out] at hx21_0)
       obtain rfl:ad20 = ad21:=(by injection e21);replace hx21_0:=(HB.out.cell (World.block_lt_of_cell? w _ hx21_0)).trans hx21_0;replace p21:=eq_true p21;replace q21:=eq_true q21;go_wp2
       go_roundg k1
       case measure=>have:=HK1.out;omega
       case rel=>exact ⟨(x5_1),(wrap64 (x10_1 + 1)),qrs,H',⟨by have:=HK1.out;omega⟩,⟨qra HO_5.out⟩,⟨by exact bw⟩⟩
    ·rw [if_neg c8] at H;have c8b0:((Int.tmod (ji7) 2) == 0) = false:=beq_eq_false_iff_ne.mpr c8;have c8b1:((Int.tmod (ji7) 2) != 0) = true:=bne_iff_ne.mpr c8;have H':=aM H;clear H;have p20:0 ≤ (x10_1:Int):=of_decide_eq_true ab;have q20:x10_1 < (l0.length:Int):=of_decide_eq_true ab;obtain ⟨ad20,e20,hx20_0⟩:=Kd.dS HR0.out x10_1 p20 q20;cases e20
     replace hx20_0:=(HB.out.cell (World.block_lt_of_cell? w _ hx20_0)).trans hx20_0;replace p20:=eq_true p20;replace q20:=eq_true q20;go_wp2
     go_roundg k1
     case measure=>have:=HK1.out;omega
     case rel=>exact ⟨(x5_1),(wrap64 (x10_1 + 1)),qrs,H',⟨by have:=HK1.out;omega⟩,⟨qra HO_5.out⟩,⟨by exact bw⟩⟩
   ·rw [if_neg c3] at H;have c3b0:=decide_eq_false c3;clear c3;obtain rfl:=Option.some.inj H;go_wp2
    go_ret
    exact ⟨_,eE,by (with_reducible repeat (first|apply Kd.aN|apply Kd.aK|apply Kd.aE));exact HO_5.out,by exact bw⟩


def bR.l0:Nat → List Bool → Int → List Int → Int → Option (List Int)
 | 0,_,_,_,_=>none
 | k + 1,x0,x1,x5,x6=>if x6 < x1 then ((b9.f k x0 x6).bind fun t2=>(if x5.length < 17592186044416 then (bR.l0 k x0 x1 (x5 ++ [(t2.length:Int)]) (wrap64 (x6 + 1))) else (none))) else (some x5)
def bR.f (k:Nat) (l0:List Bool) (a1:Int):Option (List Int):=bR.l0 k l0 a1 ([]:List Int) 0
theorem bR.calls (k:Nat) (A0:Option Addr) (c0:Nat) (l0:List Bool) (a1:Int) (r:List Int) (w:World) (hr0:Kd.C Kd.bool w A0 l0.length l0) (hc0:l0.length ≤ c0) (h:bR.f k l0 a1 = some r) :
  Calls Tryz.prog 34 #[.slice A0 l0.length c0,.int .i64 a1] w fun e w'=>∃ v0_:Value,e = .returned (v0_) ∧ Kd.R (Kd.int .i64) 3 w' w.heap.size (fun _=>True) v0_ r ∧ Below w.heap.size w w':=by
 have HR0:=aM hr0;have HC0:=aM hc0;clear hr0 hc0;have HB:=aM (Below.refl w.heap.size w);have H:(bR.l0 k l0 a1 ([]:List Int) 0) = some r:=h;clear h;have H':=aM H;clear H;go_enter Tryz.func34,Tryz.ntmps34;go_wp2
 go_loopg [5,6] k (fun kq v5 v6 w'=>∃ (x5_1:List Int) (x6_1:Int),v6 = .int .i64 x6_1 ∧ ak (bR.l0 kq l0 a1 x5_1 x6_1 = some r) ∧ ak (kq ≤ k) ∧ ak (Kd.R (Kd.int .i64) 3 w' w.heap.size (fun _=>True) v5 x5_1) ∧ ak (Below w.heap.size w w'))
 case atStart=>exact ⟨(([]:List Int)),(0),qrs,H',⟨Nat.le_refl _⟩,⟨by first|exact Kd.eD _ _ _ _ _|exact Kd.eU _ _ _ _ _|exact Kd.eW _ _ _ _ _|exact Kd.eV _ _ _ _ _|exact Kd.eS _ _ _ _ _⟩,⟨by exact bw⟩⟩
 case round =>
  clear H'
  try clear p2
  obtain ⟨x5_1,x6_1,rfl,HA,HK1,HO_5,HB⟩:=hrel
  cases gk with
  | zero=>exact absurd HA.out (by simp [bR.l0])
  | succ k1 =>
   have H:=HA.out;clear HA;simp only [bR.l0] at H;by_cases c3:x6_1 < a1
   ·rw [if_pos c3] at H;have c3b0:=decide_eq_true c3;clear c3;replace H:=oB H;obtain ⟨t9,A4,H⟩:=H;(try dsimp only at H)
    replace H:=iN H;obtain ⟨c5,H⟩:=H;have LMc5:=aM c5;clear c5;obtain ⟨y12,hy12⟩:∃ y_:List Int,y_ = (x5_1 ++ [(t9.length:Int)]):=⟨_,rfl⟩;replace H:(bR.l0 k1 l0 a1 y12 (wrap64 (x6_1 + 1))) = some r:=yR hy12 H;have Ny12:=aM hy12;clear hy12;have H':=aM H;clear H;go_wp2_with (first|((with_reducible refine ah (f:=75) rfl ?_);refine gL 15 Tryz.func75 #[.slice A0 l0.length c0,.int .i64 x6_1] ?_;(with_reducible refine (b9.calls k1 _ _ l0 x6_1 t9 _ ?side1 ?side2 A4.out).mono ?_);(case side1=>exact qcs HR0.out HB.out);(case side2=>exact HC0.out);rintro e w6 ⟨v10,rfl,ho0,hb⟩;refine ⟨_,rfl,?_⟩;have HO11:=aM (Kd.bg (Kd.bj ho0 (Kd.dd (qra HO_5.out))) (au bw));replace HO_5:=aM (Kd.aH (qra HO_5.out) (Kd.bi ho0) hb);replace HB:=aM (ae bw hb);(try clear hb);(try clear ho0);obtain ⟨Ao7,co7,eo7⟩:=Kd.aX HO11.out;subst eo7)|((with_reducible refine cN (b:=.append) (xs:=#[.tmp 12,.tmp 17]) rfl ?_);at_builtin;refine Kd.dY (Kd.int .i64) (w0:=w) w.heap.size rfl (.tmp 12) (.tmp 17) 24 3 (.int .i64 0) 8 rfl Tryz.underlying24 fp rfl (by decide) (by omega) u5 x5_1 (t9.length:Int) [.int .i64 (t9.length:Int)] (fun k_=>some k_ ≠ (.slice Ao7 t9.length co7:Value).ownBlock) (fun _=>False) rfl rfl ?aP (fun _ hk=>hk.elim) ?aF ?aO ?aB ?aS ?aL ?_;(case aP=>exact rfl);(case aB=>exact bw);(case aF=>exact (fun k_ hk=>Kd.gm (Kd.dd (qra HO11.out)) k_ hk));(case aO=>exact (by (with_reducible repeat (first|apply Kd.aN|apply Kd.aK|apply Kd.aE));exact Kd.bf HO_5.out (fun _ hk=>hk.2)));(case aS=>exact (au bw));(case aL=>have:=LMc5.out;omega);intro v13 w8 ho hb hg hat;rw [← Ny12.out] at ho;replace HO11:=aM (Kd.fG (ok:=(fun _=>True)) (qra HO11.out) hg hat);replace HB:=aM (hb);have HO14:=aM (ho);clear HO_5;clear ho hb hg hat))
    go_roundg k1
    case measure=>have:=HK1.out;omega
    case rel=>exact ⟨(y12),(wrap64 (x6_1 + 1)),qrs,H',⟨by have:=HK1.out;omega⟩,⟨by (with_reducible repeat (first|apply Kd.aN|apply Kd.aK|apply Kd.aE));exact Kd.bf HO14.out (fun _ hk=>trivial)⟩,⟨by exact bw⟩⟩
   ·rw [if_neg c3] at H;have c3b0:=decide_eq_false c3;clear c3;obtain rfl:=Option.some.inj H;go_wp2
    go_ret
    exact ⟨_,eE,by (with_reducible repeat (first|apply Kd.aN|apply Kd.aK|apply Kd.aE));exact HO_5.out,by exact bw⟩


def bZ.f (k:Nat) (a0_0:Int) (l0_1:List Int) (a1:Int) (a2:Int):Option (List Int × Bool):=(dh.f k a0_0 l0_1 a1 a2).bind fun t3=>(if t3 = true then ((bA.f k a0_0 l0_1 a1 a2).bind fun t4=>((bR.f k t4 (l0_1.length:Int)).bind fun t5=>(some (t5,true)))) else (some (([]:List Int),false)))
def bZ.T3:Bool × List (List Nat × List Nat):=(true,[([],[]),([],[]),([],[]),([0,1,2],[0,1,2]),([],[]),([4],[4]),([5],[5]),([3,6,3],[3,6]),([7,7,0,1,2,3,4,5,6,7],[7]),([8,0,1,2,3,4,5,6,7,8],[])])
def bZ.B3:List Nat:=[0,0,0,7,0,16,48,127,255,511]
theorem bZ.tab3:fM .any (opsOf Tryz.f9 3) = bZ.T3:=by kernel_rfl
theorem bZ.bits3:dB bZ.T3.2 bZ.B3 = true:=by kernel_rfl
theorem bZ.calls (k:Nat) (a0_0:Int) (A0_1:Option Addr) (c0_1:Nat) (l0_1:List Int) (a1:Int) (a2:Int) (r1:List Int) (r2:Bool) (w:World) (hr0_1:Kd.C (Kd.int .i64) w A0_1 l0_1.length l0_1) (hc0_1:l0_1.length ≤ c0_1) (h:bZ.f k a0_0 l0_1 a1 a2 = some (r1,r2)) :
  Calls Tryz.prog 9 #[.agg #[.int .i64 a0_0,.slice A0_1 l0_1.length c0_1],.int .i64 a1,.int .i64 a2] w fun e w'=>∃ v0_:Value,e = .returned (.tuple #[v0_,.bool r2]) ∧ Kd.R (Kd.int .i64) 3 w' w.heap.size (fun _=>True) v0_ r1 ∧ Below w.heap.size w w':=by
 have hu26:=Tryz.underlying26;have HR0_1:=aM hr0_1;have HC0_1:=aM hc0_1;clear hr0_1 hc0_1;have HB:=aM (Below.refl w.heap.size w);have H:((dh.f k a0_0 l0_1 a1 a2).bind fun t19=>(if t19 = true then ((bA.f k a0_0 l0_1 a1 a2).bind fun t20=>((bR.f k t20 (l0_1.length:Int)).bind fun t23=>(some (t23,true)))) else (some (([]:List Int),false)))) = some (r1,r2):=h;clear h;replace H:=oB H;obtain ⟨t19,A4,H⟩:=H;(try dsimp only at H)
 by_cases c5:t19 = true
 ·subst c5;rw [if_pos rfl] at H;replace H:=oB H;obtain ⟨t20,A6,H⟩:=H;(try dsimp only at H)
  replace H:=oB H;obtain ⟨t23,A7,H⟩:=H;(try dsimp only at H)
  simp only [Option.some.injEq,Prod.mk.injEq] at H;obtain ⟨rfl,rfl⟩:=H;go_enter Tryz.func9,Tryz.ntmps9
  try go_wp2_with (first|((with_reducible refine aC (N:=3) rfl ?_);refine bE 3 #[.int .i64 a0_0,.slice A0_1 l0_1.length c0_1] 26 ?_;intro gb18 hg w8 hbox hb;have BK18:=aM (hbox);have GW18:=aM (gS hg);have GE18:=aM (gS hg);replace HB:=aM (ae bw hb);clear hb hbox hg;have hcz9_0:=cz BK18.out 0;have hcz9_1:=cz BK18.out 1;have hfz9_0:=aa BK18.out 0;have hfz9_1:=aa BK18.out 1)|((with_reducible refine ah (f:=30) rfl ?_);refine gL 11 Tryz.func30 #[.agg #[.int .i64 a0_0,.slice A0_1 l0_1.length c0_1],.int .i64 a1,.int .i64 a2] ?_;(with_reducible refine (dh.calls k a0_0 _ _ l0_1 a1 a2 true _ ?side1 ?side2 A4.out).mono ?_);(case side1=>exact qcs HR0_1.out HB.out);(case side2=>exact HC0_1.out);rintro e w10 ⟨rfl,hb⟩;refine ⟨_,rfl,?_⟩;replace BK18:=aM (bB BK18.out hb);replace HB:=aM (ae bw hb);(try clear hb)))
  replace BK18:=aM (al BK18.out);replace HB:=aM (av HB.out);refine dx (n:=10) (S:=fun w'=>w'.cell? ⟨gb18,0,none⟩ = some (.int .i64 a0_0) ∧ w'.cell? ⟨gb18,1,none⟩ = some (.slice A0_1 l0_1.length c0_1)) (ds:=[]) (mA 10 0) kR rfl rfl ⟨(ai BK18.out 0).trans rfl,(ai BK18.out 1).trans rfl⟩ (fun hHeld=>?_);refine cu bZ.tab3 bZ.bits3 (fun HT_ HW_=>?_)
  generalize w10.drew = w11 at BK18 HB hHeld ⊢
  refine pT 1 14 HT_.out ?_;refine pT 2 15 HT_.out ?_;refine pT 4 17 HT_.out ?_;refine pK 0 13 HT_.out HW_.out hHeld ?_;refine pK 5 18 HT_.out HW_.out hHeld ?_;refine pT 6 19 HT_.out ?_;refine oN 3 (some 16) HT_.out fun K hK=>?_
  refine gC Tryz.func32 #[.agg #[.int .i64 a0_0,.slice A0_1 l0_1.length c0_1],.int .i64 a1,.int .i64 a2] ?_
  with_reducible refine (bA.calls k a0_0 _ _ l0_1 a1 a2 t20 _ ?side1 ?side2 A6.out).mono ?_
  (case side1=>exact qcs HR0_1.out HB.out)
  (case side2=>exact HC0_1.out)
  rintro e w12 ⟨v21,rfl,ho0,hb⟩
  refine ⟨_,rfl,?_⟩;have HO22:=aM (Kd.bg ho0 (au bw));replace BK18:=aM (bB BK18.out hb);replace HB:=aM (ae bw hb);(try clear hb)
  (try clear ho0)
  obtain ⟨Ao13,co13,eo13⟩:=Kd.aX HO22.out;(first|subst eo13|(injection eo13 with f1_ f2_ f3_;have f4_:=f1_.symm;have f5_:=f3_.symm;clear f1_ f2_ f3_;subst f4_;subst f5_))
  refine hK.out _ _ ⟨(ai BK18.out 0).trans rfl,(ai BK18.out 1).trans rfl⟩ (fun hHeld=>?_);clear hK K;refine nM 16 ?_;refine oN 7 (some 20) HT_.out fun K hK=>?_
  refine gC Tryz.func34 #[.slice Ao13 t20.length co13,.int .i64 (l0_1.length:Int)] ?_
  with_reducible refine (bR.calls k _ _ t20 (l0_1.length:Int) t23 _ ?side1 ?side2 A7.out).mono ?_
  (case side1=>exact qc (Kd.aj HO22.out).2.2)
  (case side2=>exact (Kd.aj HO22.out).2.1)
  rintro e w14 ⟨v24,rfl,ho0,hb⟩
  refine ⟨_,rfl,?_⟩;replace HO22:=aM (Kd.aG (qra HO22.out) hb);have HO25:=aM (Kd.bg ho0 (au bw));replace BK18:=aM (bB BK18.out hb);replace HB:=aM (ae bw hb);(try clear hb)
  (try clear ho0)
  refine hK.out _ _ ⟨(ai BK18.out 0).trans rfl,(ai BK18.out 1).trans rfl⟩ (fun hHeld=>?_);clear hK K;refine nM 20 ?_;refine pT 8 6 HT_.out ?_;refine pT 9 7 HT_.out ?_;refine d9 (dp HT_.out kR) ?_
  try go_wp2
  go_ret2
  exact ⟨_,eE,by (with_reducible repeat (first|apply Kd.aN|apply Kd.aK|apply Kd.aE));exact HO25.out,by exact bw⟩
 ·replace c5:=Bool.eq_false_iff.mpr c5;subst c5;rw [if_neg (show ¬ (false = true) by decide)] at H;simp only [Option.some.injEq,Prod.mk.injEq] at H;obtain ⟨rfl,rfl⟩:=H;go_enter Tryz.func9,Tryz.ntmps9;go_wp2_with (first|((with_reducible refine aC (N:=3) rfl ?_);refine bE 3 #[.int .i64 a0_0,.slice A0_1 l0_1.length c0_1] 26 ?_;intro gb18 hg w15 hbox hb;have BK18:=aM (hbox);have GW18:=aM (gS hg);have GE18:=aM (gS hg);replace HB:=aM (ae bw hb);clear hb hbox hg;have hcz16_0:=cz BK18.out 0;have hcz16_1:=cz BK18.out 1;have hfz16_0:=aa BK18.out 0;have hfz16_1:=aa BK18.out 1)|((with_reducible refine ah (f:=30) rfl ?_);refine gL 11 Tryz.func30 #[.agg #[.int .i64 a0_0,.slice A0_1 l0_1.length c0_1],.int .i64 a1,.int .i64 a2] ?_;(with_reducible refine (dh.calls k a0_0 _ _ l0_1 a1 a2 false _ ?side1 ?side2 A4.out).mono ?_);(case side1=>exact qcs HR0_1.out HB.out);(case side2=>exact HC0_1.out);rintro e w17 ⟨rfl,hb⟩;refine ⟨_,rfl,?_⟩;replace BK18:=aM (bB BK18.out hb);replace HB:=aM (ae bw hb);(try clear hb)))
  go_ret2
  exact ⟨_,eE,by first|exact Kd.eD _ _ _ _ _|exact Kd.eU _ _ _ _ _|exact Kd.eW _ _ _ _ _|exact Kd.eV _ _ _ _ _|exact Kd.eS _ _ _ _ _,by exact bw⟩


def cJ.l0:Nat → (Int → Option (Bool)) → List Int → Int → Int → Option (List Int)
 | 0,_,_,_,_=>none
 | k + 1,x1,x5,x8,x9=>if x9 < x8 then ((x1 x9).bind fun t2=>(if t2 = true then (if x5.length < 17592186044416 then (cJ.l0 k x1 (x5 ++ [x9]) x8 (wrap64 (x9 + 1))) else (none)) else (cJ.l0 k x1 x5 x8 (wrap64 (x9 + 1))))) else (some x5)
def cJ.f (k:Nat) (a0:Int) (a1:(Int → Option (Bool))):Option (List Int):=cJ.l0 k a1 (([]:List Int)) a0 0
theorem cJ.calls (k:Nat) (a0:Int) (a1:(Int → Option (Bool))) (g1_:Nat) (lb1_:Array Value) (eg1_:∀ (args:Array Value) (w:World),(callFunc g1_ args).run Tryz.prog w = .ok (.enter g1_ args) w) (r:List Int) (w:World) (hp1:∀ (W:World) (b0_:Int) (r0_:Bool),a1 b0_ = some r0_ → Below w.heap.size w W → Calls Tryz.prog g1_ (#[.int .i64 b0_] ++ lb1_) W fun e w'=>e = .returned (.bool r0_) ∧ Below W.heap.size W w') (h:cJ.f k a0 a1 = some r) :
  Calls Tryz.prog 36 #[.int .i64 a0,.func (.func g1_) #[] lb1_] w fun e w'=>∃ v0_:Value,e = .returned (v0_) ∧ Kd.R (Kd.int .i64) 3 w' w.heap.size (fun _=>True) v0_ r ∧ Below w.heap.size w w':=by
 have HP1:=aM hp1;clear hp1;have HB:=aM (Below.refl w.heap.size w);have H:(cJ.l0 k a1 (([]:List Int)) a0 0) = some r:=h;clear h;obtain ⟨y12,hy12⟩:∃ y_:List Int,y_ = (([]:List Int)):=⟨_,rfl⟩;replace H:(cJ.l0 k a1 y12 a0 0) = some r:=yR hy12 H;have Ny12:=aM hy12;clear hy12;have H':=aM H;clear H;go_enter Tryz.func36,Tryz.ntmps36;go_wp2_with (first|((with_reducible refine aC (N:=7) rfl ?_);refine Kd.fV (Kd.int .i64) _ 3 ?hg (N:=7) ?hd (xs:=([]:List Int)) (inner:=[]) (ok:=fun _=>True) (okp:=fun _=>True) ?hr ?hp (fun _ hk=>hk) trivial (Below.refl _ _) (Nat.le_refl _) (by simp) ?_;(case hd=>rfl);(case hg=>rfl);(case hr=>first|(go_simp;done)|(go_simp;rfl));(case hp=>exact (dv.none _ _));intro v13 w3 ho4 hb hg_ hnew_;clear hg_ hnew_;(first|rw [← Ny12.out] at ho4|(simp only [Int.reduceToNat] at ho4;rw [← Ny12.out] at ho4));have HO14:=aM (Kd.bg ho4 (au bw));replace HB:=aM (ae bw hb);clear hb ho4))
 go_loopg [5,9] k (fun kq v5 v9 w'=>∃ (x5_1:List Int) (x9_1:Int),v9 = .int .i64 x9_1 ∧ ak (cJ.l0 kq a1 x5_1 a0 x9_1 = some r) ∧ ak (kq ≤ k) ∧ ak (Kd.R (Kd.int .i64) 3 w' w.heap.size (fun _=>True) v5 x5_1) ∧ ak (Below w.heap.size w w'))
 case atStart=>exact ⟨(y12),(0),qrs,H',⟨Nat.le_refl _⟩,⟨qra HO14.out⟩,⟨by exact bw⟩⟩
 case round =>
  clear H';obtain ⟨x5_1,x9_1,rfl,HA,HK1,HO_5,HB⟩:=hrel
  cases gk with
  | zero=>exact absurd HA.out (by simp [cJ.l0])
  | succ k1 =>
   have H:=HA.out;clear HA;simp only [cJ.l0] at H;by_cases c5:x9_1 < a0
   ·rw [if_pos c5] at H;have c5b0:=decide_eq_true c5;clear c5;replace H:=oB H;obtain ⟨t15,A6,H⟩:=H;(try dsimp only at H)
    by_cases c7:t15 = true
    ·subst c7;rw [if_pos rfl] at H;replace H:=iN H;obtain ⟨c8,H⟩:=H;have LMc8:=aM c8;clear c8;obtain ⟨y16,hy16⟩:∃ y_:List Int,y_ = (x5_1 ++ [x9_1]):=⟨_,rfl⟩;replace H:(cJ.l0 k1 a1 y16 a0 (wrap64 (x9_1 + 1))) = some r:=yR hy16 H;have Ny16:=aM hy16;clear hy16;have H':=aM H;clear H;go_wp2_with (first|((with_reducible refine i6 (t:=12) rfl ?_);refine jl (some 14) rfl rfl eg1_ #[.int .i64 x9_1] rfl rfl mq ?_;(with_reducible refine (HP1.out _ x9_1 true A6.out ?side1).mono ?_);(case side1=>exact bw);rintro e w9 ⟨rfl,hb⟩;refine ⟨_,rfl,?_⟩;replace HO_5:=aM (Kd.aG (qra HO_5.out) hb);replace HB:=aM (ae bw hb);(try clear hb);(try clear hk))|((with_reducible refine cN (b:=.append) (xs:=#[.tmp 15,.tmp 17]) rfl ?_);at_builtin;refine Kd.dY (Kd.int .i64) (w0:=w) w.heap.size rfl (.tmp 15) (.tmp 17) 24 3 (.int .i64 0) 8 rfl Tryz.underlying24 fp rfl (by decide) (by omega) u5 x5_1 x9_1 [.int .i64 x9_1] (fun _=>True) (fun _=>False) rfl rfl ?aP (fun _ hk=>hk.elim) ?aF ?aO ?aB ?aS ?aL ?_;(case aP=>exact rfl);(case aB=>exact bw);(case aF=>exact (fun _ _=>trivial));(case aO=>exact (qra HO_5.out));(case aS=>exact (au bw));(case aL=>have:=LMc8.out;omega);intro v17 w10 ho hb hg hat;rw [← Ny16.out] at ho;replace HB:=aM (hb);have HO18:=aM (ho);clear HO_5;clear ho hb hg hat))
     go_roundg k1
     case measure=>have:=HK1.out;omega
     case rel=>exact ⟨(y16),(wrap64 (x9_1 + 1)),qrs,H',⟨by have:=HK1.out;omega⟩,⟨qra HO18.out⟩,⟨by exact bw⟩⟩
    ·replace c7:=Bool.eq_false_iff.mpr c7;subst c7;rw [if_neg (show ¬ (false = true) by decide)] at H;have H':=aM H;clear H;go_wp2_with (first|((with_reducible refine i6 (t:=12) rfl ?_);refine jl (some 14) rfl rfl eg1_ #[.int .i64 x9_1] rfl rfl mq ?_;(with_reducible refine (HP1.out _ x9_1 false A6.out ?side1).mono ?_);(case side1=>exact bw);rintro e w11 ⟨rfl,hb⟩;refine ⟨_,rfl,?_⟩;replace HO_5:=aM (Kd.aG (qra HO_5.out) hb);replace HB:=aM (ae bw hb);(try clear hb);(try clear hk)))
     go_roundg k1
     case measure=>have:=HK1.out;omega
     case rel=>exact ⟨(x5_1),(wrap64 (x9_1 + 1)),qrs,H',⟨by have:=HK1.out;omega⟩,⟨qra HO_5.out⟩,⟨by exact bw⟩⟩
   ·rw [if_neg c5] at H;have c5b0:=decide_eq_false c5;clear c5;obtain rfl:=Option.some.inj H;go_wp2
    go_ret
    exact ⟨_,eE,by (with_reducible repeat (first|apply Kd.aN|apply Kd.aK|apply Kd.aE));exact HO_5.out,by exact bw⟩


def cZ.f (a0:Int) (l1:List Int) (l2:List Int):Option (Bool):=if 0 ≤ a0 then (if a0 < (l1.length:Int) then (if a0 < (l2.length:Int) then (some (decide ((rd l1 a0) > (rd l2 a0)))) else (none)) else (none)) else (none)
theorem cZ.calls (a0:Int) (gc1:Nat) (A1:Option Addr) (c1:Nat) (l1:List Int) (gc2:Nat) (A2:Option Addr) (c2:Nat) (l2:List Int) (r:Bool) (w:World) (hr1:Kd.C (Kd.int .i64) w A1 l1.length l1) (hc1:l1.length ≤ c1) (hr2:Kd.C (Kd.int .i64) w A2 l2.length l2) (hc2:l2.length ≤ c2) (hb1:w.heap[gc1]? = some (.cells #[.slice A1 l1.length c1] 24 (0,0))) (hb2:w.heap[gc2]? = some (.cells #[.slice A2 l2.length c2] 24 (0,0))) (hn1_2:gc1 ≠ gc2) (h:cZ.f a0 l1 l2 = some r) :
  Calls Tryz.prog 37 #[.int .i64 a0,.pointer (some ⟨gc1,0,none⟩),.pointer (some ⟨gc2,0,none⟩)] w fun e w'=>e = .returned (.bool r) ∧ bo w w':=by
 have HR1:=aM hr1;have HC1:=aM hc1;clear hr1 hc1;have HR2:=aM hr2;have HC2:=aM hc2;clear hr2 hc2;have BK1:=aM hb1;clear hb1;have BK2:=aM hb2;clear hb2;have NB1_2:=aM hn1_2;have NB2_1:=aM (Ne.symm hn1_2);clear hn1_2;have H:(if 0 ≤ a0 then (if a0 < (l1.length:Int) then (if a0 < (l2.length:Int) then (some (decide ((rd l1 a0) > (rd l2 a0)))) else (none)) else (none)) else (none)) = some r:=h;clear h;replace H:=iN H;obtain ⟨c4,H⟩:=H;have c4b0:decide (0 ≤ a0) = true:=decide_eq_true c4;clear c4;replace H:=iN H;obtain ⟨c5,H⟩:=H;have c5b0:decide (a0 < (l1.length:Int)) = true:=decide_eq_true c5;clear c5;replace H:=iN H;obtain ⟨c6,H⟩:=H;have c6b0:decide (a0 < (l2.length:Int)) = true:=decide_eq_true c6;clear c6;obtain rfl:=Option.some.inj H;have hnb7:=NB1_2.out;have hnc7:=NB2_1.out;have hcz8_0:=cz BK1.out 0;have hfz8_0:=aa BK1.out 0;have p3:0 ≤ (a0:Int):=of_decide_eq_true ab;have q3:a0 < (l1.length:Int):=of_decide_eq_true ab;obtain ⟨ad3,e3,hx3_0⟩:=Kd.bK HR1.out a0 p3 q3;cases e3
 replace p3:=eq_true p3;replace q3:=eq_true q3;have hcz9_0:=cz BK2.out 0;have hfz9_0:=aa BK2.out 0;have p10:0 ≤ (a0:Int):=of_decide_eq_true ab;have q10:a0 < (l2.length:Int):=of_decide_eq_true ab;obtain ⟨ad10,e10,hx10_0⟩:=Kd.bK HR2.out a0 p10 q10;cases e10
 replace p10:=eq_true p10;replace q10:=eq_true q10;go_enter Tryz.func37,Tryz.ntmps37;go_wp2
 repeat (go_quiet (fail);try go_wp2)
 go_ret
 exact ⟨qrs,dR⟩
theorem cZ.enters:∀ (args:Array Value) (w:World),(callFunc 37 args).run Tryz.prog w = .ok (.enter 37 args) w:=enters_of Tryz.func37 kR rfl


def dy.f (k:Nat) (a0_0:Int) (l0_1:List Int) (a1:Int) (a2:Int):Option (List Int × Bool):=(cy.f k a0_0 l0_1 a1 a2).bind fun bt3=>(if bt3.2 = true then ((bb.f k a0_0 l0_1).bind fun bt4=>((aZ.f k bt4.1 bt4.2).bind fun t5=>((cJ.f k (t5.length:Int) (fun y0_=>cZ.f y0_ bt3.1 t5)).bind fun t6=>(some (t6,true))))) else (some (([]:List Int),false)))
theorem dy.calls (k:Nat) (a0_0:Int) (A0_1:Option Addr) (c0_1:Nat) (l0_1:List Int) (a1:Int) (a2:Int) (r1:List Int) (r2:Bool) (w:World) (hr0_1:Kd.C (Kd.int .i64) w A0_1 l0_1.length l0_1) (hc0_1:l0_1.length ≤ c0_1) (h:dy.f k a0_0 l0_1 a1 a2 = some (r1,r2)) :
  Calls Tryz.prog 10 #[.agg #[.int .i64 a0_0,.slice A0_1 l0_1.length c0_1],.int .i64 a1,.int .i64 a2] w fun e w'=>∃ v0_:Value,e = .returned (.tuple #[v0_,.bool r2]) ∧ Kd.R (Kd.int .i64) 3 w' w.heap.size (fun _=>True) v0_ r1 ∧ Below w.heap.size w w':=by
 have hmf:∀ (fn:Fn) (first cap:Array Value) (w:World),(Instr.makeFunc fn first cap).run Tryz.prog w = .ok (.func fn first cap) w:=fun _ _ _ _=>rfl
 have hu26:=Tryz.underlying26;have HR0_1:=aM hr0_1;have HC0_1:=aM hc0_1;clear hr0_1 hc0_1;have HB:=aM (Below.refl w.heap.size w);have H:((cy.f k a0_0 l0_1 a1 a2).bind fun bt34=>(if bt34.2 = true then ((bb.f k a0_0 l0_1).bind fun bt41=>((aZ.f k bt41.1 bt41.2).bind fun t45=>((cJ.f k (t45.length:Int) (fun y0_=>cZ.f y0_ bt34.1 t45)).bind fun t49=>(some (t49,true))))) else (some (([]:List Int),false)))) = some (r1,r2):=h;clear h;replace H:=oB H;obtain ⟨⟨t34,t39⟩,A4,H⟩:=H;(try dsimp only at H)
 by_cases c5:t39 = true
 ·subst c5;rw [if_pos rfl] at H;replace H:=oB H;obtain ⟨⟨t41,t42⟩,A6,H⟩:=H;(try dsimp only at H)
  replace H:=oB H;obtain ⟨t45,A7,H⟩:=H;(try dsimp only at H)
  replace H:=oB H;obtain ⟨t49,A8,H⟩:=H;(try dsimp only at H)
  simp only [Option.some.injEq,Prod.mk.injEq] at H;obtain ⟨rfl,rfl⟩:=H;go_enter Tryz.func10,Tryz.ntmps10;go_wp2_with (first|((with_reducible refine aC (N:=3) rfl ?_);refine bE 3 #[.int .i64 a0_0,.slice A0_1 l0_1.length c0_1] 26 ?_;intro gb3 hg w9 hbox hb;have BK3:=aM (hbox);have GW3:=aM (gS hg);have GE3:=aM (gS hg);replace HB:=aM (ae bw hb);clear hb hbox hg;have hcz10_0:=cz BK3.out 0;have hcz10_1:=cz BK3.out 1;have hfz10_0:=aa BK3.out 0;have hfz10_1:=aa BK3.out 1)|((with_reducible refine ah (f:=8) rfl ?_);refine gL 15 Tryz.func8 #[.agg #[.int .i64 a0_0,.slice A0_1 l0_1.length c0_1],.int .i64 a1,.int .i64 a2] ?_;(with_reducible refine (cy.calls k a0_0 _ _ l0_1 a1 a2 t34 true _ ?side1 ?side2 A4.out).mono ?_);(case side1=>exact qcs HR0_1.out HB.out);(case side2=>exact HC0_1.out);rintro e w11 ⟨v37,rfl,ho0,hb⟩;refine ⟨_,rfl,?_⟩;have HO38:=aM (Kd.bg ho0 (au bw));replace BK3:=aM (bB BK3.out hb);replace HB:=aM (ae bw hb);(try clear hb);(try clear ho0))|((with_reducible refine aC (N:=8) rfl ?_);refine bE 8 #[.slice none 0 0] 24 ?_;intro gb40 hg w12 hbox hb;replace HO38:=aM (Kd.aG (qra HO38.out) hb);have BK40:=aM (hbox);have GW40:=aM (gS hg);have GE40:=aM (gS hg);replace HB:=aM (ae bw hb);have NB3_40:=aM (nL BK3.out hg);have NB40_3:=aM (nR BK3.out hg);replace BK3:=aM (bB BK3.out hb);clear hb hbox hg;obtain ⟨Ao13,co13,eo13⟩:=Kd.aX HO38.out;subst eo13;have hnb14:=NB40_3.out;have hnc14:=NB3_40.out;have hcz15_0:=cz BK40.out 0;have hfz15_0:=aa BK40.out 0;have hcz16_0:=cz BK3.out 0;have hcz16_1:=cz BK3.out 1;have hfz16_0:=aa BK3.out 0;have hfz16_1:=aa BK3.out 1)|((with_reducible refine ah (f:=35) rfl ?_);refine gL 21 Tryz.func35 #[.agg #[.int .i64 a0_0,.slice A0_1 l0_1.length c0_1]] ?_;(with_reducible refine (bb.calls k a0_0 _ _ l0_1 t41 t42 _ ?side1 ?side2 A6.out).mono ?_);(case side1=>exact Kd.dF HR0_1.out bw);(case side2=>exact HC0_1.out);rintro e w17 ⟨v43,rfl,ho0,hb⟩;refine ⟨_,rfl,?_⟩;replace HO38:=aM (Kd.aG (by (with_reducible repeat (first|apply Kd.aN|apply Kd.aK|apply Kd.aE));exact (Kd.bf (Kd.da (p:=⟨gb40,0,none⟩) (Kd.cA HO38.out BK40.out (by decide)) (fun _ hk=>hk.2) (.slice Ao13 t34.length co13)) (fun _ h_=>h_.1))) hb);have HO44:=aM (Kd.bg ho0 (au bw));replace BK3:=aM (bG BK3.out NB3_40.out hb);replace BK40:=aM (ee (g:=gb40) (o:=.cells #[.slice Ao13 t34.length co13] 24 (0,0)) (by (with_reducible repeat (first|refine ar ?_ _|refine al ?_|refine an ?_ _));refine bp (cs:=#[.slice none 0 0]) ?_ 0 _ rfl;(with_reducible repeat (first|refine ar ?_ _|refine al ?_|refine an ?_ _));exact BK40.out) hb);replace HB:=aM (ae bw hb);(try clear hb);(try clear hk);(try clear ho0);obtain ⟨Ao18,co18,eo18⟩:=Kd.aX HO44.out;subst eo18)|((with_reducible refine ah (f:=33) rfl ?_);refine gL 22 Tryz.func33 #[.agg #[.int .i64 t41,.slice Ao18 t42.length co18]] ?_;(with_reducible refine (aZ.calls k t41 _ _ t42 t45 _ ?side1 ?side2 A7.out).mono ?_);(case side1=>exact qc (Kd.aj HO44.out).2.2);(case side2=>exact (Kd.aj HO44.out).2.1);rintro e w19 ⟨v46,rfl,ho0,hb⟩;refine ⟨_,rfl,?_⟩;replace HO44:=aM (Kd.aG (qra HO44.out) hb);have HO47:=aM (Kd.bg (Kd.bj ho0 (Kd.dd (qra HO38.out))) (au bw));replace HO38:=aM (Kd.aH (qra HO38.out) (Kd.bi ho0) hb);replace BK3:=aM (bB BK3.out hb);replace BK40:=aM (bB BK40.out hb);replace HB:=aM (ae bw hb);(try clear hb);(try clear ho0))|((with_reducible refine aC (N:=10) rfl ?_);refine bE 10 #[.slice none 0 0] 24 ?_;intro gb48 hg w20 hbox hb;replace HO38:=aM (Kd.aG (qra HO38.out) hb);replace HO44:=aM (Kd.aG (qra HO44.out) hb);replace HO47:=aM (Kd.aG (qra HO47.out) hb);have BK48:=aM (hbox);have GW48:=aM (gS hg);have GE48:=aM (gS hg);replace HB:=aM (ae bw hb);have NB3_48:=aM (nL BK3.out hg);have NB48_3:=aM (nR BK3.out hg);replace BK3:=aM (bB BK3.out hb);have NB40_48:=aM (nL BK40.out hg);have NB48_40:=aM (nR BK40.out hg);replace BK40:=aM (bB BK40.out hb);clear hb hbox hg;obtain ⟨Ao21,co21,eo21⟩:=Kd.aX HO47.out;subst eo21;have hnb22:=NB48_3.out;have hnc22:=NB3_48.out;have hnb23:=NB48_40.out;have hnc23:=NB40_48.out;have hcz24_0:=cz BK48.out 0;have hfz24_0:=aa BK48.out 0)|((with_reducible refine ah (f:=36) rfl ?_);refine gL 26 Tryz.func36 #[.int .i64 (t45.length:Int),.func (.func 37) #[] #[.pointer (some ⟨gb40,0,none⟩),.pointer (some ⟨gb48,0,none⟩)]] ?_;(with_reducible refine (cJ.calls k (t45.length:Int) (fun y0_=>cZ.f y0_ t34 t45) 37 #[.pointer (some ⟨gb40,0,none⟩),.pointer (some ⟨gb48,0,none⟩)] cZ.enters t49 _ ?side1 A8.out).mono ?_);(case side1=>exact (fun W_ a0_ r0_ hx_ hb_ =>(cZ.calls a0_ gb40 _ _ t34 gb48 _ _ t45 r0_ W_  (Kd.dF (by refine (Kd.aj (e:=3) (base:=w.heap.size) (ok:=fun k_=>(True ∧ some k_ ≠ (.slice Ao21 t45.length co21:Value).ownBlock)) (n:=t34.length) (c:=co13) ?_).2.2;exact (by (with_reducible repeat (first|apply Kd.aN|apply Kd.aK|apply Kd.aE));exact (Kd.bf (Kd.da (p:=⟨gb48,0,none⟩) (Kd.cA HO38.out BK48.out (by decide)) (fun _ hk=>hk.2) (.slice Ao21 t45.length co21)) (fun _ h_=>h_.1)))) hb_) (by exact (Kd.aj HO38.out).2.1) (Kd.dF (by refine (Kd.aj (e:=3) (base:=w.heap.size) (ok:=fun k_=>(True ∧ some k_ ≠ (.slice Ao13 t34.length co13:Value).ownBlock)) (n:=t45.length) (c:=co21) ?_).2.2;exact (by (with_reducible repeat (first|apply Kd.aN|apply Kd.aK|apply Kd.aE));exact (Kd.bf (Kd.da (p:=⟨gb48,0,none⟩) (Kd.cA HO47.out BK48.out (by decide)) (fun _ hk=>hk.2) (.slice Ao21 t45.length co21)) (fun _ h_=>h_.1)))) hb_) (by exact (Kd.aj HO47.out).2.1) (dT (bF BK40.out NB40_48.out) hb_) (dT (by (with_reducible repeat (first|refine ar ?_ _|refine al ?_|refine an ?_ _));refine bp (cs:=#[.slice none 0 0]) ?_ 0 _ rfl;(with_reducible repeat (first|refine ar ?_ _|refine al ?_|refine an ?_ _));exact BK48.out) hb_) NB40_48.out hx_).mono (fun _ _ h_=>⟨h_.1,h_.2.below⟩)));rintro e w25 ⟨v50,rfl,ho0,hb⟩;refine ⟨_,rfl,?_⟩;replace HO44:=aM (Kd.aG (by (with_reducible repeat (first|apply Kd.aN|apply Kd.aK|apply Kd.aE));exact (Kd.bf (Kd.da (p:=⟨gb48,0,none⟩) (Kd.cA HO44.out BK48.out (by decide)) (fun _ hk=>hk.2) (.slice Ao21 t45.length co21)) (fun _ h_=>h_.1))) hb);have HO51:=aM (Kd.bg (Kd.bj (Kd.bj ho0 (Kd.dd (by (with_reducible repeat (first|apply Kd.aN|apply Kd.aK|apply Kd.aE));exact (Kd.bf (Kd.da (p:=⟨gb48,0,none⟩) (Kd.cA HO38.out BK48.out (by decide)) (fun _ hk=>hk.2) (.slice Ao21 t45.length co21)) (fun _ h_=>h_.1))))) (Kd.dd (by (with_reducible repeat (first|apply Kd.aN|apply Kd.aK|apply Kd.aE));exact (Kd.bf (Kd.da (p:=⟨gb48,0,none⟩) (Kd.cA HO47.out BK48.out (by decide)) (fun _ hk=>hk.2) (.slice Ao21 t45.length co21)) (fun _ h_=>h_.1))))) (au bw));replace HO38:=aM (Kd.aH (by (with_reducible repeat (first|apply Kd.aN|apply Kd.aK|apply Kd.aE));exact (Kd.bf (Kd.da (p:=⟨gb48,0,none⟩) (Kd.cA HO38.out BK48.out (by decide)) (fun _ hk=>hk.2) (.slice Ao21 t45.length co21)) (fun _ h_=>h_.1))) (Kd.bi ho0) hb);replace HO47:=aM (Kd.aH (by (with_reducible repeat (first|apply Kd.aN|apply Kd.aK|apply Kd.aE));exact (Kd.bf (Kd.da (p:=⟨gb48,0,none⟩) (Kd.cA HO47.out BK48.out (by decide)) (fun _ hk=>hk.2) (.slice Ao21 t45.length co21)) (fun _ h_=>h_.1))) (Kd.bi ho0) hb);replace BK3:=aM (bG BK3.out NB3_48.out hb);replace BK40:=aM (bG BK40.out NB40_48.out hb);replace BK48:=aM (ee (g:=gb48) (o:=.cells #[.slice Ao21 t45.length co21] 24 (0,0)) (by (with_reducible repeat (first|refine ar ?_ _|refine al ?_|refine an ?_ _));refine bp (cs:=#[.slice none 0 0]) ?_ 0 _ rfl;(with_reducible repeat (first|refine ar ?_ _|refine al ?_|refine an ?_ _));exact BK48.out) hb);replace HB:=aM (ae bw hb);(try clear hb);(try clear hk);(try clear ho0)))
  go_ret2
  exact ⟨_,eE,by (with_reducible repeat (first|apply Kd.aN|apply Kd.aK|apply Kd.aE));exact Kd.bf HO51.out (fun _ hk=>trivial),by exact bw⟩
 ·replace c5:=Bool.eq_false_iff.mpr c5;subst c5;rw [if_neg (show ¬ (false = true) by decide)] at H;simp only [Option.some.injEq,Prod.mk.injEq] at H;obtain ⟨rfl,rfl⟩:=H;go_enter Tryz.func10,Tryz.ntmps10;go_wp2_with (first|((with_reducible refine aC (N:=3) rfl ?_);refine bE 3 #[.int .i64 a0_0,.slice A0_1 l0_1.length c0_1] 26 ?_;intro gb3 hg w26 hbox hb;have BK3:=aM (hbox);have GW3:=aM (gS hg);have GE3:=aM (gS hg);replace HB:=aM (ae bw hb);clear hb hbox hg;have hcz27_0:=cz BK3.out 0;have hcz27_1:=cz BK3.out 1;have hfz27_0:=aa BK3.out 0;have hfz27_1:=aa BK3.out 1)|((with_reducible refine ah (f:=8) rfl ?_);refine gL 15 Tryz.func8 #[.agg #[.int .i64 a0_0,.slice A0_1 l0_1.length c0_1],.int .i64 a1,.int .i64 a2] ?_;(with_reducible refine (cy.calls k a0_0 _ _ l0_1 a1 a2 t34 false _ ?side1 ?side2 A4.out).mono ?_);(case side1=>exact qcs HR0_1.out HB.out);(case side2=>exact HC0_1.out);rintro e w28 ⟨v37,rfl,ho0,hb⟩;refine ⟨_,rfl,?_⟩;have HO38:=aM (Kd.bg ho0 (au bw));replace BK3:=aM (bB BK3.out hb);replace HB:=aM (ae bw hb);(try clear hb);(try clear hk);(try clear ho0))|((with_reducible refine aC (N:=8) rfl ?_);refine bE 8 #[.slice none 0 0] 24 ?_;intro gb40 hg w29 hbox hb;replace HO38:=aM (Kd.aG (qra HO38.out) hb);have BK40:=aM (hbox);have GW40:=aM (gS hg);have GE40:=aM (gS hg);replace HB:=aM (ae bw hb);have NB3_40:=aM (nL BK3.out hg);have NB40_3:=aM (nR BK3.out hg);replace BK3:=aM (bB BK3.out hb);clear hb hbox hg;obtain ⟨Ao30,co30,eo30⟩:=Kd.aX HO38.out;subst eo30;have hnb31:=NB40_3.out;have hnc31:=NB3_40.out;have hcz32_0:=cz BK40.out 0;have hfz32_0:=aa BK40.out 0))
  go_ret2
  exact ⟨_,eE,by first|exact Kd.eD _ _ _ _ _|exact Kd.eU _ _ _ _ _|exact Kd.eW _ _ _ _ _|exact Kd.eV _ _ _ _ _|exact Kd.eS _ _ _ _ _,by exact bw⟩


def ba.l0:Nat → List Int → List Int → List Int → Int → Int → Option (List Int × Bool)
 | 0,_,_,_,_,_=>none
 | k + 1,x8,x9,x10,x33,x34=>if x34 < x33 then (if 0 ≤ x34 then (if x34 < (x9.length:Int) then (if x34 < (x8.length:Int) then (if (rd x9 x34) > (rd x8 x34) then (if x10.length < 17592186044416 then (ba.l0 k x8 x9 (x10 ++ [x34]) x33 (wrap64 (x34 + 1))) else (none)) else (ba.l0 k x8 x9 x10 x33 (wrap64 (x34 + 1)))) else (none)) else (none)) else (none)) else (some (x10,true))
def ba.f (k:Nat) (a0_0:Int) (l0_1:List Int) (a1:Int) (a2:Int):Option (List Int × Bool):=(dh.f k a0_0 l0_1 a1 a2).bind fun t3=>(if t3 = true then ((bN.f k a0_0 l0_1).bind fun t4=>((bR.f k t4 (l0_1.length:Int)).bind fun t5=>((bA.f k a0_0 l0_1 a1 a2).bind fun t6=>((bR.f k t6 (l0_1.length:Int)).bind fun t7=>(ba.l0 k t5 t7 ([]:List Int) (l0_1.length:Int) 0))))) else (some (([]:List Int),false)))
def ba.T3:Bool × List (List Nat × List Nat):=(true,[([],[]),([0],[0]),([],[]),([2],[2]),([3],[3]),([1,4,1],[1,4]),([],[]),([],[]),([],[]),([6,7,8,5],[6,7,8]),([],[]),([10],[10]),([11],[11]),([9,12,9],[9,12]),([5,13,0,1,2,3,4,5],[5]),([13,14,0,1,2,3,4,5,6,7,8,9,10,11,12,13,14],[13])])
def ba.B3:List Nat:=[0,1,0,4,12,31,0,0,0,511,0,1024,3072,8191,16383,32767]
theorem ba.tab3:fM .any (opsOf Tryz.f11 3) = ba.T3:=by kernel_rfl
theorem ba.bits3:dB ba.T3.2 ba.B3 = true:=by kernel_rfl
def ba.T8:Bool × List (List Nat × List Nat):=(true,[([],[]),([],[]),([0,1],[0,1]),([2],[2]),([],[]),([],[]),([4,5],[4,5]),([6],[6]),([3,7],[3,7])])
def ba.B8:List Nat:=[0,0,3,7,0,0,48,112,255]
theorem ba.tab8:fM .any (opsOf Tryz.f11 8) = ba.T8:=by kernel_rfl
theorem ba.bits8:dB ba.T8.2 ba.B8 = true:=by kernel_rfl
theorem ba.calls (k:Nat) (a0_0:Int) (A0_1:Option Addr) (c0_1:Nat) (l0_1:List Int) (a1:Int) (a2:Int) (r1:List Int) (r2:Bool) (w:World) (hr0_1:Kd.C (Kd.int .i64) w A0_1 l0_1.length l0_1) (hc0_1:l0_1.length ≤ c0_1) (h:ba.f k a0_0 l0_1 a1 a2 = some (r1,r2)) :
  Calls Tryz.prog 11 #[.agg #[.int .i64 a0_0,.slice A0_1 l0_1.length c0_1],.int .i64 a1,.int .i64 a2] w fun e w'=>∃ v0_:Value,e = .returned (.tuple #[v0_,.bool r2]) ∧ Kd.R (Kd.int .i64) 3 w' w.heap.size (fun _=>True) v0_ r1 ∧ Below w.heap.size w w':=by
 have hu26:=Tryz.underlying26;have HR0_1:=aM hr0_1;have HC0_1:=aM hc0_1;clear hr0_1 hc0_1;have HB:=aM (Below.refl w.heap.size w);have H:((dh.f k a0_0 l0_1 a1 a2).bind fun t39=>(if t39 = true then ((bN.f k a0_0 l0_1).bind fun t40=>((bR.f k t40 (l0_1.length:Int)).bind fun t43=>((bA.f k a0_0 l0_1 a1 a2).bind fun t46=>((bR.f k t46 (l0_1.length:Int)).bind fun t49=>(ba.l0 k t43 t49 ([]:List Int) (l0_1.length:Int) 0))))) else (some (([]:List Int),false)))) = some (r1,r2):=h;clear h;replace H:=oB H;obtain ⟨t39,A4,H⟩:=H;(try dsimp only at H)
 by_cases c5:t39 = true
 ·subst c5;rw [if_pos rfl] at H;replace H:=oB H;obtain ⟨t40,A6,H⟩:=H;(try dsimp only at H)
  replace H:=oB H;obtain ⟨t43,A7,H⟩:=H;(try dsimp only at H)
  replace H:=oB H;obtain ⟨t46,A8,H⟩:=H;(try dsimp only at H)
  replace H:=oB H;obtain ⟨t49,A9,H⟩:=H;(try dsimp only at H)
  have H':=aM H;clear H;go_enter Tryz.func11,Tryz.ntmps11
  try go_wp2_with (first|((with_reducible refine aC (N:=3) rfl ?_);refine bE 3 #[.int .i64 a0_0,.slice A0_1 l0_1.length c0_1] 26 ?_;intro gb37 hg w10 hbox hb;have BK37:=aM (hbox);have GW37:=aM (gS hg);have GE37:=aM (gS hg);replace HB:=aM (ae bw hb);clear hb hbox hg;have hcz11_0:=cz BK37.out 0;have hcz11_1:=cz BK37.out 1;have hfz11_0:=aa BK37.out 0;have hfz11_1:=aa BK37.out 1)|((with_reducible refine ah (f:=30) rfl ?_);refine gL 15 Tryz.func30 #[.agg #[.int .i64 a0_0,.slice A0_1 l0_1.length c0_1],.int .i64 a1,.int .i64 a2] ?_;(with_reducible refine (dh.calls k a0_0 _ _ l0_1 a1 a2 true _ ?side1 ?side2 A4.out).mono ?_);(case side1=>exact qcs HR0_1.out HB.out);(case side2=>exact HC0_1.out);rintro e w12 ⟨rfl,hb⟩;refine ⟨_,rfl,?_⟩;replace BK37:=aM (bB BK37.out hb);replace HB:=aM (ae bw hb);(try clear hb)))
  replace BK37:=aM (al BK37.out);replace HB:=aM (av HB.out);refine dx (n:=16) (S:=fun w'=>w'.cell? ⟨gb37,0,none⟩ = some (.int .i64 a0_0) ∧ w'.cell? ⟨gb37,1,none⟩ = some (.slice A0_1 l0_1.length c0_1)) (ds:=[]) (mA 16 0) kR rfl rfl ⟨(ai BK37.out 0).trans rfl,(ai BK37.out 1).trans rfl⟩ (fun hHeld=>?_);refine cu ba.tab3 ba.bits3 (fun HT_ HW_=>?_)
  generalize w12.drew = w13 at BK37 HB hHeld ⊢
  refine pT 2 19 HT_.out ?_;refine pT 7 24 HT_.out ?_;refine pT 8 25 HT_.out ?_;refine pT 10 27 HT_.out ?_;refine pK 0 17 HT_.out HW_.out hHeld ?_;refine pK 3 20 HT_.out HW_.out hHeld ?_;refine pT 4 21 HT_.out ?_;refine pK 6 23 HT_.out HW_.out hHeld ?_;refine pK 11 28 HT_.out HW_.out hHeld ?_;refine pT 12 29 HT_.out ?_;refine oN 1 (some 18) HT_.out fun K hK=>?_
  refine gC Tryz.func38 #[.agg #[.int .i64 a0_0,.slice A0_1 l0_1.length c0_1]] ?_
  with_reducible refine (bN.calls k a0_0 _ _ l0_1 t40 _ ?side1 ?side2 A6.out).mono ?_
  (case side1=>exact qcs HR0_1.out HB.out)
  (case side2=>exact HC0_1.out)
  rintro e w14 ⟨v41,rfl,ho0,hb⟩
  refine ⟨_,rfl,?_⟩;have HO42:=aM (Kd.bg ho0 (au bw));replace BK37:=aM (bB BK37.out hb);replace HB:=aM (ae bw hb);(try clear hb)
  (try clear ho0)
  obtain ⟨Ao15,co15,eo15⟩:=Kd.aX HO42.out;(first|subst eo15|(injection eo15 with f1_ f2_ f3_;have f4_:=f1_.symm;have f5_:=f3_.symm;clear f1_ f2_ f3_;subst f4_;subst f5_))
  refine hK.out _ _ ⟨(ai BK37.out 0).trans rfl,(ai BK37.out 1).trans rfl⟩ (fun hHeld=>?_);clear hK K;refine nM 18 ?_;refine oN 5 (some 22) HT_.out fun K hK=>?_
  refine gC Tryz.func34 #[.slice Ao15 t40.length co15,.int .i64 (l0_1.length:Int)] ?_
  with_reducible refine (bR.calls k _ _ t40 (l0_1.length:Int) t43 _ ?side1 ?side2 A7.out).mono ?_
  (case side1=>exact qc (Kd.aj HO42.out).2.2)
  (case side2=>exact (Kd.aj HO42.out).2.1)
  rintro e w16 ⟨v44,rfl,ho0,hb⟩
  refine ⟨_,rfl,?_⟩;replace HO42:=aM (Kd.aG (qra HO42.out) hb);have HO45:=aM (Kd.bg ho0 (au bw));replace BK37:=aM (bB BK37.out hb);replace HB:=aM (ae bw hb);(try clear hb)
  (try clear ho0)
  refine hK.out _ _ ⟨(ai BK37.out 0).trans rfl,(ai BK37.out 1).trans rfl⟩ (fun hHeld=>?_);clear hK K;refine nM 22 ?_;refine oN 9 (some 26) HT_.out fun K hK=>?_
  refine gC Tryz.func32 #[.agg #[.int .i64 a0_0,.slice A0_1 l0_1.length c0_1],.int .i64 a1,.int .i64 a2] ?_
  with_reducible refine (bA.calls k a0_0 _ _ l0_1 a1 a2 t46 _ ?side1 ?side2 A8.out).mono ?_
  (case side1=>exact qcs HR0_1.out HB.out)
  (case side2=>exact HC0_1.out)
  rintro e w17 ⟨v47,rfl,ho0,hb⟩
  refine ⟨_,rfl,?_⟩;replace HO45:=aM (Kd.aG (qra HO45.out) hb);have HO48:=aM (Kd.bg (Kd.bj ho0 (Kd.dd (qra HO42.out))) (au bw));replace HO42:=aM (Kd.aH (qra HO42.out) (Kd.bi ho0) hb);replace BK37:=aM (bB BK37.out hb);replace HB:=aM (ae bw hb);(try clear hb)
  (try clear ho0)
  obtain ⟨Ao18,co18,eo18⟩:=Kd.aX HO48.out;(first|subst eo18|(injection eo18 with f1_ f2_ f3_;have f4_:=f1_.symm;have f5_:=f3_.symm;clear f1_ f2_ f3_;subst f4_;subst f5_))
  refine hK.out _ _ ⟨(ai BK37.out 0).trans rfl,(ai BK37.out 1).trans rfl⟩ (fun hHeld=>?_);clear hK K;refine nM 26 ?_;refine oN 13 (some 30) HT_.out fun K hK=>?_
  refine gC Tryz.func34 #[.slice Ao18 t46.length co18,.int .i64 (l0_1.length:Int)] ?_
  with_reducible refine (bR.calls k _ _ t46 (l0_1.length:Int) t49 _ ?side1 ?side2 A9.out).mono ?_
  (case side1=>exact qc (Kd.aj HO48.out).2.2)
  (case side2=>exact (Kd.aj HO48.out).2.1)
  rintro e w19 ⟨v50,rfl,ho0,hb⟩
  refine ⟨_,rfl,?_⟩;replace HO42:=aM (Kd.aG (qra HO42.out) hb);replace HO48:=aM (Kd.aG (qra HO48.out) hb);have HO51:=aM (Kd.bg (Kd.bj ho0 (Kd.dd (qra HO45.out))) (au bw));replace HO45:=aM (Kd.aH (qra HO45.out) (Kd.bi ho0) hb);replace BK37:=aM (bB BK37.out hb);replace HB:=aM (ae bw hb);(try clear hb)
  (try clear ho0)
  refine hK.out _ _ ⟨(ai BK37.out 0).trans rfl,(ai BK37.out 1).trans rfl⟩ (fun hHeld=>?_);clear hK K;refine nM 30 ?_;refine pT 14 8 HT_.out ?_;refine pT 15 9 HT_.out ?_;refine d9 (dp HT_.out kR) ?_;have hcz20_0:=cz BK37.out 0;have hcz20_1:=cz BK37.out 1;have hfz20_0:=aa BK37.out 0;have hfz20_1:=aa BK37.out 1
  try go_wp2
  go_loopg [10,34] k (fun kq v10 v34 w'=>∃ (x10_1:List Int) (x34_1:Int),v34 = .int .i64 x34_1 ∧ ak (ba.l0 kq t43 t49 x10_1 (l0_1.length:Int) x34_1 = some (r1,r2)) ∧ ak (kq ≤ k) ∧ ak (Kd.R (Kd.int .i64) 3 w' w.heap.size (fun k_=>some k_ ≠ (v50:Value).ownBlock ∧ some k_ ≠ (v10:Value).ownBlock) v44 t43) ∧ ak (Kd.R (Kd.int .i64) 3 w' w.heap.size (fun k_=>some k_ ≠ (v44:Value).ownBlock ∧ some k_ ≠ (v10:Value).ownBlock) v50 t49) ∧ ak (Kd.R (Kd.int .i64) 3 w' w.heap.size (fun k_=>some k_ ≠ (v44:Value).ownBlock ∧ some k_ ≠ (v50:Value).ownBlock) v10 x10_1) ∧ ak (w'.heap[gb37]? = some (.cells #[.int .i64 a0_0,(.slice A0_1 l0_1.length c0_1)] 26 (0,0))) ∧ ak (Below w.heap.size w w'))
  case atStart=>exact ⟨(([]:List Int)),(0),qrs,H',⟨Nat.le_refl _⟩,⟨by (with_reducible repeat (first|apply Kd.aN|apply Kd.aK|apply Kd.aE));exact Kd.bf HO45.out (fun _ hk=>⟨hk.2,(by simp [Value.ownBlock])⟩)⟩,⟨by (with_reducible repeat (first|apply Kd.aN|apply Kd.aK|apply Kd.aE));exact Kd.bf HO51.out (fun _ hk=>⟨hk.2,(by simp [Value.ownBlock])⟩)⟩,⟨by first|exact Kd.eD _ _ _ _ _|exact Kd.eU _ _ _ _ _|exact Kd.eW _ _ _ _ _|exact Kd.eV _ _ _ _ _|exact Kd.eS _ _ _ _ _⟩,⟨bk1 BK37.out⟩,⟨by exact bw⟩⟩
  case round =>
   clear H';(try clear c5);(try clear hcz11_0);(try clear hcz11_1);(try clear hcz20_0);(try clear hcz20_1);(try clear hfz11_0);(try clear hfz11_1);(try clear hfz20_0);(try clear hfz20_1)
   obtain ⟨x10_1,x34_1,rfl,HA,HK1,HO_8,HO_9,HO_10,BK37,HB⟩:=hrel
   cases gk with
   | zero=>exact absurd HA.out (by simp [ba.l0])
   | succ k1 =>
    have H:=HA.out;clear HA;simp only [ba.l0] at H;by_cases c21:x34_1 < (l0_1.length:Int)
    ·rw [if_pos c21] at H;have c21b0:=decide_eq_true c21;clear c21;replace H:=iN H;obtain ⟨c22,H⟩:=H;have c22b0:decide (0 ≤ x34_1) = true:=decide_eq_true c22;clear c22;replace H:=iN H;obtain ⟨c23,H⟩:=H;have c23b0:decide (x34_1 < (t49.length:Int)) = true:=decide_eq_true c23;clear c23;replace H:=iN H;obtain ⟨c24,H⟩:=H;have c24b0:decide (x34_1 < (t43.length:Int)) = true:=decide_eq_true c24;clear c24;by_cases c25:(rd t49 x34_1) > (rd t43 x34_1)
     ·rw [if_pos c25] at H;have c25b0:decide ((rd t43 x34_1) < (rd t49 x34_1)) = true:=decide_eq_true c25;clear c25;replace H:=iN H;obtain ⟨c26,H⟩:=H;have LMc26:=aM c26;clear c26;obtain ⟨y54,hy54⟩:∃ y_:List Int,y_ = (x10_1 ++ [x34_1]):=⟨_,rfl⟩;replace H:(ba.l0 k1 t43 t49 y54 (l0_1.length:Int) (wrap64 (x34_1 + 1))) = some (r1,r2):=yR hy54 H;have Ny54:=aM hy54;clear hy54;have H':=aM H;clear H
      try go_wp2
      replace HO_8:=aM (Kd.aE HO_8.out);replace HO_9:=aM (Kd.aE HO_9.out);replace HO_10:=aM (Kd.aE HO_10.out);replace BK37:=aM (al BK37.out);replace HB:=aM (av HB.out);obtain ⟨Ao28,co28,eo28⟩:=Kd.aX HO_9.out;(first|subst eo28|(injection eo28 with f1_ f2_ f3_;have f4_:=f1_.symm;have f5_:=f3_.symm;clear f1_ f2_ f3_;subst f4_;subst f5_))
      have p52:0 ≤ (x34_1:Int):=of_decide_eq_true ab;have q52:x34_1 < (t49.length:Int):=of_decide_eq_true ab;obtain ⟨ad52,e52,hx52_0⟩:=Kd.bK (Kd.aj HO_9.out).2.2 x34_1 p52 q52;cases e52
      replace p52:=eq_true p52;replace q52:=eq_true q52;obtain ⟨Ao29,co29,eo29⟩:=Kd.aX HO_8.out;(first|subst eo29|(injection eo29 with f1_ f2_ f3_;have f4_:=f1_.symm;have f5_:=f3_.symm;clear f1_ f2_ f3_;subst f4_;subst f5_))
      have p53:0 ≤ (x34_1:Int):=of_decide_eq_true ab;have q53:x34_1 < (t43.length:Int):=of_decide_eq_true ab;obtain ⟨ad53,e53,hx53_0⟩:=Kd.bK (Kd.aj HO_8.out).2.2 x34_1 p53 q53;cases e53
      replace p53:=eq_true p53;replace q53:=eq_true q53;refine dx (n:=9) (S:=fun w'=>w'.cell? (ad52.add (x34_1).toNat) = some (.int .i64 (rd t49 x34_1)) ∧ w'.cell? (ad53.add (x34_1).toNat) = some (.int .i64 (rd t43 x34_1))) (ds:=[]) (mA 9 0) kR rfl rfl ⟨hx52_0,hx53_0⟩ (fun hHeld=>?_);refine cu ba.tab8 ba.bits8 (fun HT_ HW_=>?_)
      generalize wr.drew = w27 at HO_8 HO_9 HO_10 BK37 HB hx52_0 hx53_0 hHeld ⊢
      refine pT 0 37 HT_.out ?_;refine pT 1 38 HT_.out ?_;refine pT 2 39 HT_.out ?_;refine pT 4 41 HT_.out ?_;refine pT 5 42 HT_.out ?_;refine pT 6 43 HT_.out ?_;refine pK 3 40 HT_.out HW_.out hHeld ?_;refine pK 7 44 HT_.out HW_.out hHeld ?_;refine pT 8 45 HT_.out ?_;refine d9 (dp HT_.out kR) ?_
      try go_wp2_with (first|((with_reducible refine cN (b:=.append) (xs:=#[.tmp 46,.tmp 48]) rfl ?_);at_builtin;refine Kd.dY (Kd.int .i64) (w0:=w) w.heap.size rfl (.tmp 46) (.tmp 48) 24 3 (.int .i64 0) 8 rfl Tryz.underlying24 fp rfl (by decide) (by omega) u10 x10_1 x34_1 [.int .i64 x34_1] (fun k_=>some k_ ≠ (.slice (some ad53) t43.length co29:Value).ownBlock ∧ some k_ ≠ (.slice (some ad52) t49.length co28:Value).ownBlock) (fun _=>False) rfl rfl ?aP (fun _ hk=>hk.elim) ?aF ?aO ?aB ?aS ?aL ?_;(case aP=>exact rfl);(case aB=>exact bw);(case aF=>exact (fun k_ hk=>⟨Kd.gm (Kd.dd (qra HO_8.out)) k_ hk,Kd.gm (Kd.dd (qra HO_9.out)) k_ hk⟩));(case aO=>exact (qra HO_10.out));(case aS=>exact (au bw));(case aL=>have:=LMc26.out;omega);intro v55 w30 ho hb hg hat;rw [← Ny54.out] at ho;replace HO_8:=aM (Kd.fG (ok:=(fun k_=>some k_ ≠ (.slice (some ad52) t49.length co28:Value).ownBlock)) (qra HO_8.out) hg hat);replace HO_9:=aM (Kd.fG (ok:=(fun k_=>some k_ ≠ (.slice (some ad53) t43.length co29:Value).ownBlock)) (qra HO_9.out) hg hat);replace BK37:=aM (bH BK37.out hg (Kd.fe HO_10.out BK37.out (by decide)));replace HB:=aM (hb);have HO56:=aM (ho);clear HO_10;clear ho hb hg hat))
      go_roundg k1
      case measure=>have:=HK1.out;omega
      case rel=>exact ⟨(y54),(wrap64 (x34_1 + 1)),qrs,H',⟨by have:=HK1.out;omega⟩,⟨qra HO_8.out⟩,⟨qra HO_9.out⟩,⟨qra HO56.out⟩,⟨bk1 BK37.out⟩,⟨by exact bw⟩⟩
     ·rw [if_neg c25] at H;have c25b0:decide ((rd t43 x34_1) < (rd t49 x34_1)) = false:=decide_eq_false c25;clear c25;have H':=aM H;clear H
      try go_wp2
      replace HO_8:=aM (Kd.aE HO_8.out);replace HO_9:=aM (Kd.aE HO_9.out);replace HO_10:=aM (Kd.aE HO_10.out);replace BK37:=aM (al BK37.out);replace HB:=aM (av HB.out);obtain ⟨Ao32,co32,eo32⟩:=Kd.aX HO_9.out;(first|subst eo32|(injection eo32 with f1_ f2_ f3_;have f4_:=f1_.symm;have f5_:=f3_.symm;clear f1_ f2_ f3_;subst f4_;subst f5_))
      have p52:0 ≤ (x34_1:Int):=of_decide_eq_true ab;have q52:x34_1 < (t49.length:Int):=of_decide_eq_true ab;obtain ⟨ad52,e52,hx52_0⟩:=Kd.bK (Kd.aj HO_9.out).2.2 x34_1 p52 q52;cases e52
      replace p52:=eq_true p52;replace q52:=eq_true q52;obtain ⟨Ao33,co33,eo33⟩:=Kd.aX HO_8.out;(first|subst eo33|(injection eo33 with f1_ f2_ f3_;have f4_:=f1_.symm;have f5_:=f3_.symm;clear f1_ f2_ f3_;subst f4_;subst f5_))
      have p53:0 ≤ (x34_1:Int):=of_decide_eq_true ab;have q53:x34_1 < (t43.length:Int):=of_decide_eq_true ab;obtain ⟨ad53,e53,hx53_0⟩:=Kd.bK (Kd.aj HO_8.out).2.2 x34_1 p53 q53;cases e53
      replace p53:=eq_true p53;replace q53:=eq_true q53;refine dx (n:=9) (S:=fun w'=>w'.cell? (ad52.add (x34_1).toNat) = some (.int .i64 (rd t49 x34_1)) ∧ w'.cell? (ad53.add (x34_1).toNat) = some (.int .i64 (rd t43 x34_1))) (ds:=[]) (mA 9 0) kR rfl rfl ⟨hx52_0,hx53_0⟩ (fun hHeld=>?_);refine cu ba.tab8 ba.bits8 (fun HT_ HW_=>?_)
      generalize wr.drew = w31 at HO_8 HO_9 HO_10 BK37 HB hx52_0 hx53_0 hHeld ⊢
      refine pT 0 37 HT_.out ?_;refine pT 1 38 HT_.out ?_;refine pT 2 39 HT_.out ?_;refine pT 4 41 HT_.out ?_;refine pT 5 42 HT_.out ?_;refine pT 6 43 HT_.out ?_;refine pK 3 40 HT_.out HW_.out hHeld ?_;refine pK 7 44 HT_.out HW_.out hHeld ?_;refine pT 8 45 HT_.out ?_;refine d9 (dp HT_.out kR) ?_
      try go_wp2
      go_roundg k1
      case measure=>have:=HK1.out;omega
      case rel=>exact ⟨(x10_1),(wrap64 (x34_1 + 1)),qrs,H',⟨by have:=HK1.out;omega⟩,⟨qra HO_8.out⟩,⟨qra HO_9.out⟩,⟨qra HO_10.out⟩,⟨bk1 BK37.out⟩,⟨by exact bw⟩⟩
    ·rw [if_neg c21] at H;have c21b0:=decide_eq_false c21;clear c21;simp only [Option.some.injEq,Prod.mk.injEq] at H;obtain ⟨rfl,rfl⟩:=H;go_wp2
     go_ret2
     exact ⟨_,eE,by (with_reducible repeat (first|apply Kd.aN|apply Kd.aK|apply Kd.aE));exact Kd.bf HO_10.out (fun _ hk=>trivial),by exact bw⟩
 ·replace c5:=Bool.eq_false_iff.mpr c5;subst c5;rw [if_neg (show ¬ (false = true) by decide)] at H;simp only [Option.some.injEq,Prod.mk.injEq] at H;obtain ⟨rfl,rfl⟩:=H;go_enter Tryz.func11,Tryz.ntmps11;go_wp2_with (first|((with_reducible refine aC (N:=3) rfl ?_);refine bE 3 #[.int .i64 a0_0,.slice A0_1 l0_1.length c0_1] 26 ?_;intro gb37 hg w34 hbox hb;have BK37:=aM (hbox);have GW37:=aM (gS hg);have GE37:=aM (gS hg);replace HB:=aM (ae bw hb);clear hb hbox hg;have hcz35_0:=cz BK37.out 0;have hcz35_1:=cz BK37.out 1;have hfz35_0:=aa BK37.out 0;have hfz35_1:=aa BK37.out 1)|((with_reducible refine ah (f:=30) rfl ?_);refine gL 15 Tryz.func30 #[.agg #[.int .i64 a0_0,.slice A0_1 l0_1.length c0_1],.int .i64 a1,.int .i64 a2] ?_;(with_reducible refine (dh.calls k a0_0 _ _ l0_1 a1 a2 false _ ?side1 ?side2 A4.out).mono ?_);(case side1=>exact qcs HR0_1.out HB.out);(case side2=>exact HC0_1.out);rintro e w36 ⟨rfl,hb⟩;refine ⟨_,rfl,?_⟩;replace BK37:=aM (bB BK37.out hb);replace HB:=aM (ae bw hb);(try clear hb);(try clear hk)))
  go_ret2
  exact ⟨_,eE,by first|exact Kd.eD _ _ _ _ _|exact Kd.eU _ _ _ _ _|exact Kd.eW _ _ _ _ _|exact Kd.eV _ _ _ _ _|exact Kd.eS _ _ _ _ _,by exact bw⟩


def cd.l0:Nat → List Int → List Int → Int → Int → Option (Bool)
 | 0,_,_,_,_=>none
 | k + 1,x0,x1,x12,x13=>if x13 < x12 then (if 0 ≤ x13 then (if x13 < (x0.length:Int) then (if x13 < (x1.length:Int) then (if (rd x0 x13) = (rd x1 x13) then (cd.l0 k x0 x1 x12 (wrap64 (x13 + 1))) else (some false)) else (none)) else (none)) else (none)) else (some true)
def cd.f (k:Nat) (l0:List Int) (l1:List Int):Option (Bool):=if (l0.length:Int) = (l1.length:Int) then (cd.l0 k l0 l1 (l0.length:Int) 0) else (some false)
theorem cd.calls (k:Nat) (A0:Option Addr) (c0:Nat) (l0:List Int) (A1:Option Addr) (c1:Nat) (l1:List Int) (r:Bool) (w:World) (hr0:Kd.C (Kd.int .i64) w A0 l0.length l0) (hc0:l0.length ≤ c0) (hr1:Kd.C (Kd.int .i64) w A1 l1.length l1) (hc1:l1.length ≤ c1) (h:cd.f k l0 l1 = some r) :
  Calls Tryz.prog 12 #[.slice A0 l0.length c0,.slice A1 l1.length c1] w fun e w'=>e = .returned (.bool r) ∧ bo w w':=by
 have HR0:=aM hr0;have HC0:=aM hc0;clear hr0 hc0;have HR1:=aM hr1;have HC1:=aM hc1;clear hr1 hc1;have H:(if (l0.length:Int) = (l1.length:Int) then (cd.l0 k l0 l1 (l0.length:Int) 0) else (some false)) = some r:=h;clear h;by_cases c3:(l0.length:Int) = (l1.length:Int)
 ·rw [if_pos c3] at H;have c3b0:((l0.length:Int) == (l1.length:Int)) = true:=beq_iff_eq.mpr c3;have c3b1:((l0.length:Int) != (l1.length:Int)) = false:=bne_eq_false_iff_eq.mpr c3;have c3b2:(l0.length == l1.length) = true:=by first|simpa using c3|(simp at c3 ⊢;omega)
  clear c3;have H':=aM H;clear H;go_enter Tryz.func12,Tryz.ntmps12;go_wp2
  repeat (go_quiet (fail);try go_wp2)
  go_loopg [13] k (fun kq v13 w'=>∃ (x13_1:Int),v13 = .int .i64 x13_1 ∧ ak (cd.l0 kq l0 l1 (l0.length:Int) x13_1 = some r) ∧ ak (kq ≤ k) ∧ bo w w')
  case atStart=>exact ⟨(0),qrs,H',⟨Nat.le_refl _⟩,by repeat (first|exact bo.refl _|apply bo.step)⟩
  case round =>
   clear H';(try clear c1);(try clear c3);(try clear c3b0);(try clear c3b1);(try clear c3b2)
   obtain ⟨x13_1,rfl,HA,HK1,⟨m1,rfl⟩⟩:=hrel
   cases gk with
   | zero=>exact absurd HA.out (by simp [cd.l0])
   | succ k1 =>
    have H:=HA.out;clear HA;simp only [cd.l0] at H;by_cases c4:x13_1 < (l0.length:Int)
    ·rw [if_pos c4] at H;have c4b0:=decide_eq_true c4;clear c4;replace H:=iN H;obtain ⟨c5,H⟩:=H;have c5b0:decide (0 ≤ x13_1) = true:=decide_eq_true c5;clear c5;replace H:=iN H;obtain ⟨c6,H⟩:=H;have c6b0:decide (x13_1 < (l0.length:Int)) = true:=decide_eq_true c6;clear c6;replace H:=iN H;obtain ⟨c7,H⟩:=H;have c7b0:decide (x13_1 < (l1.length:Int)) = true:=decide_eq_true c7;clear c7;by_cases c8:(rd l0 x13_1) = (rd l1 x13_1)
     ·rw [if_pos c8] at H;have c8b0:((rd l0 x13_1) == (rd l1 x13_1)) = true:=beq_iff_eq.mpr c8;have c8b1:((rd l0 x13_1) != (rd l1 x13_1)) = false:=bne_eq_false_iff_eq.mpr c8;clear c8;have H':=aM H;clear H;have p9:0 ≤ (x13_1:Int):=of_decide_eq_true ab;have q9:x13_1 < (l0.length:Int):=of_decide_eq_true ab;obtain ⟨ad9,e9,hx9_0⟩:=Kd.bK HR0.out x13_1 p9 q9;cases e9
      replace p9:=eq_true p9;replace q9:=eq_true q9;have p10:0 ≤ (x13_1:Int):=of_decide_eq_true ab;have q10:x13_1 < (l1.length:Int):=of_decide_eq_true ab;obtain ⟨ad10,e10,hx10_0⟩:=Kd.bK HR1.out x13_1 p10 q10;cases e10
      replace p10:=eq_true p10;replace q10:=eq_true q10;go_wp2
      repeat (go_quiet (fail);try go_wp2)
      go_roundg k1
      case measure=>have:=HK1.out;omega
      case rel=>exact ⟨(wrap64 (x13_1 + 1)),qrs,H',⟨by have:=HK1.out;omega⟩,by repeat (first|exact bo.refl _|apply bo.step)⟩
     ·rw [if_neg c8] at H;have c8b0:((rd l0 x13_1) == (rd l1 x13_1)) = false:=beq_eq_false_iff_ne.mpr c8;have c8b1:((rd l0 x13_1) != (rd l1 x13_1)) = true:=bne_iff_ne.mpr c8;obtain rfl:=Option.some.inj H;have p9:0 ≤ (x13_1:Int):=of_decide_eq_true ab;have q9:x13_1 < (l0.length:Int):=of_decide_eq_true ab;obtain ⟨ad9,e9,hx9_0⟩:=Kd.bK HR0.out x13_1 p9 q9;cases e9
      replace p9:=eq_true p9;replace q9:=eq_true q9;have p10:0 ≤ (x13_1:Int):=of_decide_eq_true ab;have q10:x13_1 < (l1.length:Int):=of_decide_eq_true ab;obtain ⟨ad10,e10,hx10_0⟩:=Kd.bK HR1.out x13_1 p10 q10;cases e10
      replace p10:=eq_true p10;replace q10:=eq_true q10;go_wp2
      repeat (go_quiet (fail);try go_wp2)
      go_ret
      exact ⟨qrs,dR⟩
    ·rw [if_neg c4] at H;have c4b0:=decide_eq_false c4;clear c4;obtain rfl:=Option.some.inj H;go_wp2
     repeat (go_quiet (fail);try go_wp2)
     go_ret
     exact ⟨qrs,dR⟩
 ·rw [if_neg c3] at H;have c3b0:((l0.length:Int) == (l1.length:Int)) = false:=beq_eq_false_iff_ne.mpr c3;have c3b1:((l0.length:Int) != (l1.length:Int)) = true:=bne_iff_ne.mpr c3;have c3b2:(l0.length == l1.length) = false:=by first|simpa using c3|(simp at c3 ⊢;omega)
  obtain rfl:=Option.some.inj H;go_enter Tryz.func12,Tryz.ntmps12;go_wp2
  repeat (go_quiet (fail);try go_wp2)
  go_ret
  exact ⟨qrs,dR⟩


def dX.f (k:Nat) (a0_0:Int) (l0_1:List Int):Option (List Int × Bool):=(aW.f k a0_0 l0_1).bind fun t2=>(if t2 = true then ((bb.f k a0_0 l0_1).bind fun bt3=>((aZ.f k bt3.1 bt3.2).bind fun t4=>(some (t4,true)))) else (some (([]:List Int),false)))
theorem dX.calls (k:Nat) (a0_0:Int) (A0_1:Option Addr) (c0_1:Nat) (l0_1:List Int) (r1:List Int) (r2:Bool) (w:World) (hr0_1:Kd.C (Kd.int .i64) w A0_1 l0_1.length l0_1) (hc0_1:l0_1.length ≤ c0_1) (h:dX.f k a0_0 l0_1 = some (r1,r2)) :
  Calls Tryz.prog 13 #[.agg #[.int .i64 a0_0,.slice A0_1 l0_1.length c0_1]] w fun e w'=>∃ v0_:Value,e = .returned (.tuple #[v0_,.bool r2]) ∧ Kd.R (Kd.int .i64) 3 w' w.heap.size (fun _=>True) v0_ r1 ∧ Below w.heap.size w w':=by
 have hu26:=Tryz.underlying26;have HR0_1:=aM hr0_1;have HC0_1:=aM hc0_1;clear hr0_1 hc0_1;have HB:=aM (Below.refl w.heap.size w);have H:((aW.f k a0_0 l0_1).bind fun t17=>(if t17 = true then ((bb.f k a0_0 l0_1).bind fun bt18=>((aZ.f k bt18.1 bt18.2).bind fun t22=>(some (t22,true)))) else (some (([]:List Int),false)))) = some (r1,r2):=h;clear h;replace H:=oB H;obtain ⟨t17,A2,H⟩:=H;(try dsimp only at H)
 by_cases c3:t17 = true
 ·subst c3;rw [if_pos rfl] at H;replace H:=oB H;obtain ⟨⟨t18,t19⟩,A4,H⟩:=H;(try dsimp only at H)
  replace H:=oB H;obtain ⟨t22,A5,H⟩:=H;(try dsimp only at H)
  simp only [Option.some.injEq,Prod.mk.injEq] at H;obtain ⟨rfl,rfl⟩:=H;go_enter Tryz.func13,Tryz.ntmps13;go_wp2_with (first|((with_reducible refine aC (N:=1) rfl ?_);refine bE 1 #[.int .i64 a0_0,.slice A0_1 l0_1.length c0_1] 26 ?_;intro gb16 hg w6 hbox hb;have BK16:=aM (hbox);have GW16:=aM (gS hg);have GE16:=aM (gS hg);replace HB:=aM (ae bw hb);clear hb hbox hg;have hcz7_0:=cz BK16.out 0;have hcz7_1:=cz BK16.out 1;have hfz7_0:=aa BK16.out 0;have hfz7_1:=aa BK16.out 1)|((with_reducible refine ah (f:=39) rfl ?_);refine gL 5 Tryz.func39 #[.agg #[.int .i64 a0_0,.slice A0_1 l0_1.length c0_1]] ?_;(with_reducible refine (aW.calls k a0_0 _ _ l0_1 true _ ?side1 ?side2 A2.out).mono ?_);(case side1=>exact qcs HR0_1.out HB.out);(case side2=>exact HC0_1.out);rintro e w8 ⟨rfl,hb⟩;refine ⟨_,rfl,?_⟩;replace BK16:=aM (bB BK16.out hb);replace HB:=aM (ae bw hb);(try clear hb);have hcz9_0:=cz BK16.out 0;have hcz9_1:=cz BK16.out 1;have hfz9_0:=aa BK16.out 0;have hfz9_1:=aa BK16.out 1)|((with_reducible refine ah (f:=35) rfl ?_);refine gL 8 Tryz.func35 #[.agg #[.int .i64 a0_0,.slice A0_1 l0_1.length c0_1]] ?_;(with_reducible refine (bb.calls k a0_0 _ _ l0_1 t18 t19 _ ?side1 ?side2 A4.out).mono ?_);(case side1=>exact qcs HR0_1.out HB.out);(case side2=>exact HC0_1.out);rintro e w10 ⟨v20,rfl,ho0,hb⟩;refine ⟨_,rfl,?_⟩;have HO21:=aM (Kd.bg ho0 (au bw));replace BK16:=aM (bB BK16.out hb);replace HB:=aM (ae bw hb);(try clear hb);(try clear ho0);obtain ⟨Ao11,co11,eo11⟩:=Kd.aX HO21.out;subst eo11)|((with_reducible refine ah (f:=33) rfl ?_);refine gL 9 Tryz.func33 #[.agg #[.int .i64 t18,.slice Ao11 t19.length co11]] ?_;(with_reducible refine (aZ.calls k t18 _ _ t19 t22 _ ?side1 ?side2 A5.out).mono ?_);(case side1=>exact qc (Kd.aj HO21.out).2.2);(case side2=>exact (Kd.aj HO21.out).2.1);rintro e w12 ⟨v23,rfl,ho0,hb⟩;refine ⟨_,rfl,?_⟩;replace HO21:=aM (Kd.aG (qra HO21.out) hb);have HO24:=aM (Kd.bg ho0 (au bw));replace BK16:=aM (bB BK16.out hb);replace HB:=aM (ae bw hb);(try clear hb);(try clear ho0)))
  go_ret2
  exact ⟨_,eE,by (with_reducible repeat (first|apply Kd.aN|apply Kd.aK|apply Kd.aE));exact HO24.out,by exact bw⟩
 ·replace c3:=Bool.eq_false_iff.mpr c3;subst c3;rw [if_neg (show ¬ (false = true) by decide)] at H;simp only [Option.some.injEq,Prod.mk.injEq] at H;obtain ⟨rfl,rfl⟩:=H;go_enter Tryz.func13,Tryz.ntmps13;go_wp2_with (first|((with_reducible refine aC (N:=1) rfl ?_);refine bE 1 #[.int .i64 a0_0,.slice A0_1 l0_1.length c0_1] 26 ?_;intro gb16 hg w13 hbox hb;have BK16:=aM (hbox);have GW16:=aM (gS hg);have GE16:=aM (gS hg);replace HB:=aM (ae bw hb);clear hb hbox hg;have hcz14_0:=cz BK16.out 0;have hcz14_1:=cz BK16.out 1;have hfz14_0:=aa BK16.out 0;have hfz14_1:=aa BK16.out 1)|((with_reducible refine ah (f:=39) rfl ?_);refine gL 5 Tryz.func39 #[.agg #[.int .i64 a0_0,.slice A0_1 l0_1.length c0_1]] ?_;(with_reducible refine (aW.calls k a0_0 _ _ l0_1 false _ ?side1 ?side2 A2.out).mono ?_);(case side1=>exact qcs HR0_1.out HB.out);(case side2=>exact HC0_1.out);rintro e w15 ⟨rfl,hb⟩;refine ⟨_,rfl,?_⟩;replace BK16:=aM (bB BK16.out hb);replace HB:=aM (ae bw hb);(try clear hb)))
  go_ret2
  exact ⟨_,eE,by first|exact Kd.eD _ _ _ _ _|exact Kd.eU _ _ _ _ _|exact Kd.eW _ _ _ _ _|exact Kd.eV _ _ _ _ _|exact Kd.eS _ _ _ _ _,by exact bw⟩


def b5.l0:Nat → List Int → Int → Int → Option (Bool)
 | 0,_,_,_=>none
 | k + 1,x0,x5,x6=>if x6 < x5 then (if x6 > 0 then (if 0 ≤ x6 then (if x6 < (x0.length:Int) then (if 0 ≤ (wrap64 (x6 - 1)) then (if (wrap64 (x6 - 1)) < (x0.length:Int) then (if (rd x0 x6) ≤ (rd x0 (wrap64 (x6 - 1))) then (some false) else (b5.l0 k x0 x5 (wrap64 (x6 + 1)))) else (none)) else (none)) else (none)) else (none)) else (b5.l0 k x0 x5 (wrap64 (x6 + 1)))) else (some true)
def b5.f (k:Nat) (l0:List Int):Option (Bool):=b5.l0 k l0 (l0.length:Int) 0
theorem b5.calls (k:Nat) (A0:Option Addr) (c0:Nat) (l0:List Int) (r:Bool) (w:World) (hr0:Kd.C (Kd.int .i64) w A0 l0.length l0) (hc0:l0.length ≤ c0) (h:b5.f k l0 = some r) :
  Calls Tryz.prog 101 #[.slice A0 l0.length c0] w fun e w'=>e = .returned (.bool r) ∧ bo w w':=by
 have HR0:=aM hr0;have HC0:=aM hc0;clear hr0 hc0;have H:(b5.l0 k l0 (l0.length:Int) 0) = some r:=h;clear h;have H':=aM H;clear H;go_enter Tryz.func101,Tryz.ntmps101;go_wp2
 repeat (go_quiet (fail);try go_wp2)
 go_loopg [6] k (fun kq v6 w'=>∃ (x6_1:Int),v6 = .int .i64 x6_1 ∧ ak (b5.l0 kq l0 (l0.length:Int) x6_1 = some r) ∧ ak (kq ≤ k) ∧ bo w w')
 case atStart=>exact ⟨(0),qrs,H',⟨Nat.le_refl _⟩,by repeat (first|exact bo.refl _|apply bo.step)⟩
 case round =>
  clear H'
  try clear c1
  obtain ⟨x6_1,rfl,HA,HK1,⟨m1,rfl⟩⟩:=hrel
  cases gk with
  | zero=>exact absurd HA.out (by simp [b5.l0])
  | succ k1 =>
   have H:=HA.out;clear HA;simp only [b5.l0] at H;by_cases c2:x6_1 < (l0.length:Int)
   ·rw [if_pos c2] at H;have c2b0:=decide_eq_true c2;clear c2;by_cases c3:x6_1 > 0
    ·rw [if_pos c3] at H;have c3b0:decide (0 < x6_1) = true:=decide_eq_true c3;clear c3;replace H:=iN H;obtain ⟨c4,H⟩:=H;have c4b0:decide (0 ≤ x6_1) = true:=decide_eq_true c4;clear c4;replace H:=iN H;obtain ⟨c5,H⟩:=H;have c5b0:decide (x6_1 < (l0.length:Int)) = true:=decide_eq_true c5;clear c5;obtain ⟨ji6,hji6⟩:∃ j_:Int,(wrap64 (x6_1 - 1)) = j_:=⟨_,rfl⟩;(first|rw [hji6] at H|simp only [hji6] at H)
     have hji6w:(IntKind.i64.wrap (x6_1 - 1)) = ji6:=(dl _).trans hji6;replace H:=iN H;obtain ⟨c7,H⟩:=H;have c7b0:decide (0 ≤ (ji6)) = true:=decide_eq_true c7;clear c7;replace H:=iN H;obtain ⟨c8,H⟩:=H;have c8b0:decide ((ji6) < (l0.length:Int)) = true:=decide_eq_true c8;clear c8;by_cases c9:(rd l0 x6_1) ≤ (rd l0 (ji6))
     ·rw [if_pos c9] at H;have c9b0:=decide_eq_true c9;clear c9;obtain rfl:=Option.some.inj H;have p10:0 ≤ (x6_1:Int):=of_decide_eq_true ab;have q10:x6_1 < (l0.length:Int):=of_decide_eq_true ab;obtain ⟨ad10,e10,hx10_0⟩:=Kd.bK HR0.out x6_1 p10 q10;cases e10
      replace p10:=eq_true p10;replace q10:=eq_true q10;have p11:0 ≤ ((ji6):Int):=of_decide_eq_true ab;have q11:(ji6) < (l0.length:Int):=of_decide_eq_true ab;obtain ⟨ad11,e11,hx11_0⟩:=Kd.bK HR0.out (ji6) p11 q11;obtain rfl:ad10 = ad11:=(by injection e11);replace p11:=eq_true p11;replace q11:=eq_true q11;go_wp2
      repeat (go_quiet (fail);try go_wp2)
      go_ret
      exact ⟨by first|rfl|(simp;done)|(simp only [← hji6] <;> (first|rfl|simp))|(simp [*];done),by repeat (first|exact bo.refl _|apply bo.step)⟩
     ·rw [if_neg c9] at H;have c9b0:=decide_eq_false c9;clear c9;have H':=aM H;clear H;have p10:0 ≤ (x6_1:Int):=of_decide_eq_true ab;have q10:x6_1 < (l0.length:Int):=of_decide_eq_true ab;obtain ⟨ad10,e10,hx10_0⟩:=Kd.bK HR0.out x6_1 p10 q10;cases e10
      replace p10:=eq_true p10;replace q10:=eq_true q10;have p11:0 ≤ ((ji6):Int):=of_decide_eq_true ab;have q11:(ji6) < (l0.length:Int):=of_decide_eq_true ab;obtain ⟨ad11,e11,hx11_0⟩:=Kd.bK HR0.out (ji6) p11 q11;obtain rfl:ad10 = ad11:=(by injection e11);replace p11:=eq_true p11;replace q11:=eq_true q11;go_wp2
      repeat (go_quiet (fail);try go_wp2)
      go_roundg k1
      case measure=>have:=HK1.out;omega
      case rel=>exact ⟨(wrap64 (x6_1 + 1)),qrs,H',⟨by have:=HK1.out;omega⟩,by repeat (first|exact bo.refl _|apply bo.step)⟩
    ·rw [if_neg c3] at H;have c3b0:decide (0 < x6_1) = false:=decide_eq_false c3;clear c3;have H':=aM H;clear H;go_wp2
     repeat (go_quiet (fail);try go_wp2)
     go_roundg k1
     case measure=>have:=HK1.out;omega
     case rel=>exact ⟨(wrap64 (x6_1 + 1)),qrs,H',⟨by have:=HK1.out;omega⟩,by repeat (first|exact bo.refl _|apply bo.step)⟩
   ·rw [if_neg c2] at H;have c2b0:=decide_eq_false c2;clear c2;obtain rfl:=Option.some.inj H;go_wp2
    repeat (go_quiet (fail);try go_wp2)
    go_ret
    exact ⟨qrs,dR⟩


def fa.f (k:Nat) (l0:List Int) (a1:Int):Option (Bool):=(dI.f k l0 0 (wrap64 (a1 - 1))).bind fun t2=>(if t2 = true then ((b5.f k l0).bind fun t3=>(some t3)) else (some false))
theorem fa.calls (k:Nat) (A0:Option Addr) (c0:Nat) (l0:List Int) (a1:Int) (r:Bool) (w:World) (hr0:Kd.C (Kd.int .i64) w A0 l0.length l0) (hc0:l0.length ≤ c0) (h:fa.f k l0 a1 = some r) :
  Calls Tryz.prog 81 #[.slice A0 l0.length c0,.int .i64 a1] w fun e w'=>e = .returned (.bool r) ∧ Below w.heap.size w w':=by
 have HR0:=aM hr0;have HC0:=aM hc0;clear hr0 hc0;have HB:=aM (Below.refl w.heap.size w);have H:((dI.f k l0 0 (wrap64 (a1 - 1))).bind fun t8=>(if t8 = true then ((b5.f k l0).bind fun t9=>(some t9)) else (some false))) = some r:=h;clear h;replace H:=oB H;obtain ⟨t8,A3,H⟩:=H;(try dsimp only at H)
 by_cases c4:t8 = true
 ·subst c4;rw [if_pos rfl] at H;replace H:=oB H;obtain ⟨t9,A5,H⟩:=H;(try dsimp only at H)
  obtain rfl:=Option.some.inj H;go_enter Tryz.func81,Tryz.ntmps81;go_wp2_with (first|((with_reducible refine ah (f:=79) rfl ?_);refine gL 8 Tryz.func79 #[.slice A0 l0.length c0,.int .i64 0,.int .i64 (wrap64 (a1 - 1))] ?_;(with_reducible refine (dI.calls k _ _ l0 0 (wrap64 (a1 - 1)) true _ ?side1 ?side2 A3.out).mono ?_);(case side1=>exact qc HR0.out);(case side2=>exact HC0.out);rintro e w6 ⟨rfl,hb⟩;refine ⟨_,rfl,?_⟩;replace HB:=aM (ae bw hb);(try clear hb))|(go_at_call 101;(with_reducible refine (b5.calls k _ _ l0 t9 _ ?side1 ?side2 A5.out).mono ?_);(case side1=>exact qcs HR0.out HB.out);(case side2=>exact HC0.out);rintro e w' ⟨rfl,⟨nd,rfl⟩⟩))
  go_ret
  exact ⟨eE,by exact bw⟩
 ·replace c4:=Bool.eq_false_iff.mpr c4;subst c4;rw [if_neg (show ¬ (false = true) by decide)] at H;obtain rfl:=Option.some.inj H;go_enter Tryz.func81,Tryz.ntmps81;go_wp2_with (first|((with_reducible refine ah (f:=79) rfl ?_);refine gL 8 Tryz.func79 #[.slice A0 l0.length c0,.int .i64 0,.int .i64 (wrap64 (a1 - 1))] ?_;(with_reducible refine (dI.calls k _ _ l0 0 (wrap64 (a1 - 1)) false _ ?side1 ?side2 A3.out).mono ?_);(case side1=>exact qc HR0.out);(case side2=>exact HC0.out);rintro e w7 ⟨rfl,hb⟩;refine ⟨_,rfl,?_⟩;replace HB:=aM (ae bw hb);(try clear hb)))
  go_ret
  exact ⟨eE,by exact bw⟩


def dw.f (k:Nat) (a0_0:Int) (l0_1:List Int) (l1:List Int):Option (Bool):=(aW.f k a0_0 l0_1).bind fun t2=>(if t2 = true then ((fa.f k l1 (l0_1.length:Int)).bind fun t3=>(some t3)) else (some false))
theorem dw.calls (k:Nat) (a0_0:Int) (A0_1:Option Addr) (c0_1:Nat) (l0_1:List Int) (A1:Option Addr) (c1:Nat) (l1:List Int) (r:Bool) (w:World) (hr0_1:Kd.C (Kd.int .i64) w A0_1 l0_1.length l0_1) (hc0_1:l0_1.length ≤ c0_1) (hr1:Kd.C (Kd.int .i64) w A1 l1.length l1) (hc1:l1.length ≤ c1) (h:dw.f k a0_0 l0_1 l1 = some r) :
  Calls Tryz.prog 40 #[.agg #[.int .i64 a0_0,.slice A0_1 l0_1.length c0_1],.slice A1 l1.length c1] w fun e w'=>e = .returned (.bool r) ∧ Below w.heap.size w w':=by
 have hu26:=Tryz.underlying26;have HR0_1:=aM hr0_1;have HC0_1:=aM hc0_1;clear hr0_1 hc0_1;have HR1:=aM hr1;have HC1:=aM hc1;clear hr1 hc1;have HB:=aM (Below.refl w.heap.size w);have H:((aW.f k a0_0 l0_1).bind fun t15=>(if t15 = true then ((fa.f k l1 (l0_1.length:Int)).bind fun t16=>(some t16)) else (some false))) = some r:=h;clear h;replace H:=oB H;obtain ⟨t15,A3,H⟩:=H;(try dsimp only at H)
 by_cases c4:t15 = true
 ·subst c4;rw [if_pos rfl] at H;replace H:=oB H;obtain ⟨t16,A5,H⟩:=H;(try dsimp only at H)
  obtain rfl:=Option.some.inj H;go_enter Tryz.func40,Tryz.ntmps40;go_wp2_with (first|((with_reducible refine aC (N:=2) rfl ?_);(try (refine cm (by rfl) ?_;dsimp only));refine bE 2 #[.int .i64 a0_0,.slice A0_1 l0_1.length c0_1] 26 ?_;intro gb14 hg w6 hbox hb;have BK14:=aM (hbox);have GW14:=aM (gS hg);have GE14:=aM (gS hg);replace HB:=aM (ae bw hb);clear hb hbox hg;have hcz7_0:=cz BK14.out 0;have hcz7_1:=cz BK14.out 1;have hfz7_0:=aa BK14.out 0;have hfz7_1:=aa BK14.out 1)|((with_reducible refine ah (f:=39) rfl ?_);refine gL 6 Tryz.func39 #[.agg #[.int .i64 a0_0,.slice A0_1 l0_1.length c0_1]] ?_;(with_reducible refine (aW.calls k a0_0 _ _ l0_1 true _ ?side1 ?side2 A3.out).mono ?_);(case side1=>exact qcs HR0_1.out HB.out);(case side2=>exact HC0_1.out);rintro e w8 ⟨rfl,hb⟩;refine ⟨_,rfl,?_⟩;replace BK14:=aM (bB BK14.out hb);replace HB:=aM (ae bw hb);(try clear hb);have hcz9_0:=cz BK14.out 0;have hcz9_1:=cz BK14.out 1;have hfz9_0:=aa BK14.out 0;have hfz9_1:=aa BK14.out 1)|(go_at_call 81;(with_reducible refine (fa.calls k _ _ l1 (l0_1.length:Int) t16 _ ?side1 ?side2 A5.out).mono ?_);(case side1=>exact qcs HR1.out HB.out);(case side2=>exact HC1.out);rintro e w10 ⟨rfl,hb⟩;replace BK14:=aM (bB BK14.out hb);replace HB:=aM (ae bw hb);(try clear hb)))
  go_ret
  exact ⟨eE,by exact bw⟩
 ·replace c4:=Bool.eq_false_iff.mpr c4;subst c4;rw [if_neg (show ¬ (false = true) by decide)] at H;obtain rfl:=Option.some.inj H;go_enter Tryz.func40,Tryz.ntmps40;go_wp2_with (first|((with_reducible refine aC (N:=2) rfl ?_);(try (refine cm (by rfl) ?_;dsimp only));refine bE 2 #[.int .i64 a0_0,.slice A0_1 l0_1.length c0_1] 26 ?_;intro gb14 hg w11 hbox hb;have BK14:=aM (hbox);have GW14:=aM (gS hg);have GE14:=aM (gS hg);replace HB:=aM (ae bw hb);clear hb hbox hg;have hcz12_0:=cz BK14.out 0;have hcz12_1:=cz BK14.out 1;have hfz12_0:=aa BK14.out 0;have hfz12_1:=aa BK14.out 1)|((with_reducible refine ah (f:=39) rfl ?_);refine gL 6 Tryz.func39 #[.agg #[.int .i64 a0_0,.slice A0_1 l0_1.length c0_1]] ?_;(with_reducible refine (aW.calls k a0_0 _ _ l0_1 false _ ?side1 ?side2 A3.out).mono ?_);(case side1=>exact qcs HR0_1.out HB.out);(case side2=>exact HC0_1.out);rintro e w13 ⟨rfl,hb⟩;refine ⟨_,rfl,?_⟩;replace BK14:=aM (bB BK14.out hb);replace HB:=aM (ae bw hb);(try clear hb)))
  go_ret
  exact ⟨eE,by exact bw⟩


def db.l0:Nat → Int → List Int → Int → Int → Option (Int)
 | 0,_,_,_,_=>none
 | k + 1,x3,x6,x7,x8=>if x8 < x7 then (if 0 ≤ x8 then (if x8 < (x6.length:Int) then (if 0 ≤ (rd x6 x8) then (db.l0 k (Go.bits .or .i64 x3 (shl .i64 1 (rd x6 x8))) x6 x7 (wrap64 (x8 + 1))) else (none)) else (none)) else (none)) else (some x3)
def db.f (k:Nat) (l0:List Int):Option (Int):=db.l0 k 0 l0 (l0.length:Int) 0
theorem db.calls (k:Nat) (A0:Option Addr) (c0:Nat) (l0:List Int) (r:Int) (w:World) (hr0:Kd.C (Kd.int .i64) w A0 l0.length l0) (hc0:l0.length ≤ c0) (h:db.f k l0 = some r) :
  Calls Tryz.prog 42 #[.slice A0 l0.length c0] w fun e w'=>e = .returned (.int .i64 r) ∧ bo w w':=by
 have HR0:=aM hr0;have HC0:=aM hc0;clear hr0 hc0;have H:(db.l0 k 0 l0 (l0.length:Int) 0) = some r:=h;clear h;have H':=aM H;clear H;go_enter Tryz.func42,Tryz.ntmps42;go_wp2
 go_loopg [3,8] k (fun kq v3 v8 w'=>∃ (x3_1:Int) (x8_1:Int),v3 = .int .i64 x3_1 ∧ v8 = .int .i64 x8_1 ∧ ak (db.l0 kq x3_1 l0 (l0.length:Int) x8_1 = some r) ∧ ak (kq ≤ k) ∧ bo w w')
 case atStart=>exact ⟨(0),(0),qrs,qrs,H',⟨Nat.le_refl _⟩,by repeat (first|exact bo.refl _|apply bo.step)⟩
 case round =>
  clear H';obtain ⟨x3_1,x8_1,rfl,rfl,HA,HK1,⟨m1,rfl⟩⟩:=hrel
  cases gk with
  | zero=>exact absurd HA.out (by simp [db.l0])
  | succ k1 =>
   have H:=HA.out;clear HA;simp only [db.l0] at H;by_cases c2:x8_1 < (l0.length:Int)
   ·rw [if_pos c2] at H;have c2b0:=decide_eq_true c2;clear c2;replace H:=iN H;obtain ⟨c3,H⟩:=H;have c3b0:decide (0 ≤ x8_1) = true:=decide_eq_true c3;clear c3;replace H:=iN H;obtain ⟨c4,H⟩:=H;have c4b0:decide (x8_1 < (l0.length:Int)) = true:=decide_eq_true c4;clear c4;replace H:=iN H;obtain ⟨c5,H⟩:=H;have c5b0:=eq_true c5;have c5b1:decide (0 ≤ (rd l0 x8_1)) = true:=decide_eq_true c5;clear c5;obtain ⟨ji6,hji6⟩:∃ j_:Int,(shl .i64 1 (rd l0 x8_1)) = j_:=⟨_,rfl⟩;(first|rw [hji6] at H|simp only [hji6] at H)
    have hji6_:(IntKind.i64.wrap (1 * 2 ^ min (rd l0 x8_1).toNat 64)) = ji6:=hji6;have hji6z:(rd l0 x8_1) ≤ 64 → (IntKind.i64.wrap (1 * 2 ^ (rd l0 x8_1).toNat)) = ji6:=fX hji6;have hji6u:(IntKind.i64.wrap (2 ^ min (rd l0 x8_1).toNat 64)) = ji6:=by have h_:=hji6_;rw [Int.one_mul] at h_;exact h_
    have hji6v:(rd l0 x8_1) ≤ 64 → (IntKind.i64.wrap (2 ^ (rd l0 x8_1).toNat)) = ji6:=fun hle_=>by have h_:=hji6z hle_;rw [Int.one_mul] at h_;exact h_
    have hji6y:(wrap64 (1 * 2 ^ min (rd l0 x8_1).toNat 64)) = ji6:=(dl _).symm.trans hji6_;have hji6x:(rd l0 x8_1) ≤ 64 → (wrap64 (1 * 2 ^ (rd l0 x8_1).toNat)) = ji6:=fun h_=>(dl _).symm.trans (hji6z h_)
    have H':=aM H;clear H;have p7:0 ≤ (x8_1:Int):=of_decide_eq_true ab;have q7:x8_1 < (l0.length:Int):=of_decide_eq_true ab;obtain ⟨ad7,e7,hx7_0⟩:=Kd.bK HR0.out x8_1 p7 q7;cases e7
    replace p7:=eq_true p7;replace q7:=eq_true q7;go_wp2
    go_roundg k1
    case measure=>have:=HK1.out;omega
    case rel=>exact ⟨(Go.bits .or .i64 x3_1 (ji6)),(wrap64 (x8_1 + 1)),(by first|rfl|(simp;done)|(simp only [← hji6] <;> (first|rfl|simp))|(simp [*];done)),qrs,H',⟨by have:=HK1.out;omega⟩,by repeat (first|exact bo.refl _|apply bo.step)⟩
   ·rw [if_neg c2] at H;have c2b0:=decide_eq_false c2;clear c2;obtain rfl:=Option.some.inj H;go_wp2
    go_ret
    exact ⟨qrs,dR⟩


def cb.f (k:Nat) (a0_0:Int) (l0_1:List Int) (l1:List Int):Option (Bool × Bool):=(dw.f k a0_0 l0_1 l1).bind fun t2=>(if t2 = true then ((db.f k l1).bind fun t3=>((bh.f k a0_0 l0_1 t3).bind fun t4=>(some (decide (t4 ≥ a0_0),true)))) else (some (false,false)))
def cb.T3:Bool × List (List Nat × List Nat):=(true,[([],[]),([],[]),([1],[1]),([0,2,2],[0,2]),([],[]),([4],[4]),([3,5],[3,5]),([6,3,0,1,2,3,4,5,6],[6]),([7,0,1,2,3,4,5,6,7],[])])
def cb.B3:List Nat:=[0,0,2,7,0,16,63,127,255]
theorem cb.tab3:fM .any (opsOf Tryz.f14 3) = cb.T3:=by kernel_rfl
theorem cb.bits3:dB cb.T3.2 cb.B3 = true:=by kernel_rfl
theorem cb.calls (k:Nat) (a0_0:Int) (A0_1:Option Addr) (c0_1:Nat) (l0_1:List Int) (A1:Option Addr) (c1:Nat) (l1:List Int) (r1:Bool) (r2:Bool) (w:World) (hr0_1:Kd.C (Kd.int .i64) w A0_1 l0_1.length l0_1) (hc0_1:l0_1.length ≤ c0_1) (hr1:Kd.C (Kd.int .i64) w A1 l1.length l1) (hc1:l1.length ≤ c1) (h:cb.f k a0_0 l0_1 l1 = some (r1,r2)) :
  Calls Tryz.prog 14 #[.agg #[.int .i64 a0_0,.slice A0_1 l0_1.length c0_1],.slice A1 l1.length c1] w fun e w'=>e = .returned (.tuple #[.bool r1,.bool r2]) ∧ Below w.heap.size w w':=by
 have hu26:=Tryz.underlying26;have HR0_1:=aM hr0_1;have HC0_1:=aM hc0_1;clear hr0_1 hc0_1;have HR1:=aM hr1;have HC1:=aM hc1;clear hr1 hc1;have HB:=aM (Below.refl w.heap.size w);have H:((dw.f k a0_0 l0_1 l1).bind fun t16=>(if t16 = true then ((db.f k l1).bind fun t17=>((bh.f k a0_0 l0_1 t17).bind fun t18=>(some (decide (t18 ≥ a0_0),true)))) else (some (false,false)))) = some (r1,r2):=h;clear h;replace H:=oB H;obtain ⟨t16,A3,H⟩:=H;(try dsimp only at H)
 by_cases c4:t16 = true
 ·subst c4;rw [if_pos rfl] at H;replace H:=oB H;obtain ⟨t17,A5,H⟩:=H;(try dsimp only at H)
  replace H:=oB H;obtain ⟨t18,A6,H⟩:=H;(try dsimp only at H)
  simp only [Option.some.injEq,Prod.mk.injEq] at H;obtain ⟨rfl,rfl⟩:=H;go_enter Tryz.func14,Tryz.ntmps14
  try go_wp2_with (first|((with_reducible refine aC (N:=2) rfl ?_);refine bE 2 #[.int .i64 a0_0,.slice A0_1 l0_1.length c0_1] 26 ?_;intro gb15 hg w7 hbox hb;have BK15:=aM (hbox);have GW15:=aM (gS hg);have GE15:=aM (gS hg);replace HB:=aM (ae bw hb);clear hb hbox hg;have hcz8_0:=cz BK15.out 0;have hcz8_1:=cz BK15.out 1;have hfz8_0:=aa BK15.out 0;have hfz8_1:=aa BK15.out 1)|((with_reducible refine ah (f:=40) rfl ?_);refine gL 8 Tryz.func40 #[.agg #[.int .i64 a0_0,.slice A0_1 l0_1.length c0_1],.slice A1 l1.length c1] ?_;(with_reducible refine (dw.calls k a0_0 _ _ l0_1 _ _ l1 true _ ?side1 ?side2 ?side3 ?side4 A3.out).mono ?_);(case side1=>exact qcs HR0_1.out HB.out);(case side2=>exact HC0_1.out);(case side3=>exact qcs HR1.out HB.out);(case side4=>exact HC1.out);rintro e w9 ⟨rfl,hb⟩;refine ⟨_,rfl,?_⟩;replace BK15:=aM (bB BK15.out hb);replace HB:=aM (ae bw hb);(try clear hb)))
  replace BK15:=aM (al BK15.out);replace HB:=aM (av HB.out);refine dx (n:=9) (S:=fun w'=>w'.cell? ⟨gb15,0,none⟩ = some (.int .i64 a0_0) ∧ w'.cell? ⟨gb15,1,none⟩ = some (.slice A0_1 l0_1.length c0_1)) (ds:=[]) (mA 9 0) kR rfl rfl ⟨(ai BK15.out 0).trans rfl,(ai BK15.out 1).trans rfl⟩ (fun hHeld=>?_);refine cu cb.tab3 cb.bits3 (fun HT_ HW_=>?_)
  generalize w9.drew = w10 at BK15 HB hHeld ⊢
  refine pT 1 11 HT_.out ?_;refine pT 4 14 HT_.out ?_;refine pK 0 10 HT_.out HW_.out hHeld ?_;refine pK 5 15 HT_.out HW_.out hHeld ?_;refine oN 2 (some 12) HT_.out fun K hK=>?_
  refine gC Tryz.func42 #[.slice A1 l1.length c1] ?_
  with_reducible refine (db.calls k _ _ l1 t17 _ ?side1 ?side2 A5.out).mono ?_
  (case side1=>exact qcs HR1.out HB.out)
  (case side2=>exact HC1.out)
  rintro e w' ⟨rfl,⟨nd,rfl⟩⟩
  refine ⟨_,rfl,?_⟩;refine hK.out _ _ ⟨(ai BK15.out 0).trans rfl,(ai BK15.out 1).trans rfl⟩ (fun hHeld=>?_);clear hK K;refine nM 12 ?_;refine oN 3 (some 13) HT_.out fun K hK=>?_
  refine gC Tryz.func41 #[.agg #[.int .i64 a0_0,.slice A0_1 l0_1.length c0_1],.int .i64 t17] ?_
  with_reducible refine (bh.calls k a0_0 _ _ l0_1 t17 t18 _ ?side1 ?side2 A6.out).mono ?_
  (case side1=>exact qc (Kd.dF HR0_1.out bw))
  (case side2=>exact HC0_1.out)
  rintro e w11 ⟨rfl,hb⟩
  refine ⟨_,rfl,?_⟩;replace BK15:=aM (bB BK15.out hb);replace HB:=aM (ae bw hb);(try clear hb)
  refine hK.out _ _ ⟨(ai BK15.out 0).trans rfl,(ai BK15.out 1).trans rfl⟩ (fun hHeld=>?_);clear hK K;refine nM 13 ?_;refine pT 6 16 HT_.out ?_;refine pT 7 4 HT_.out ?_;refine pT 8 5 HT_.out ?_;refine d9 (dp HT_.out kR) ?_
  try go_wp2
  go_ret2
  exact ⟨eE,by exact bw⟩
 ·replace c4:=Bool.eq_false_iff.mpr c4;subst c4;rw [if_neg (show ¬ (false = true) by decide)] at H;simp only [Option.some.injEq,Prod.mk.injEq] at H;obtain ⟨rfl,rfl⟩:=H;go_enter Tryz.func14,Tryz.ntmps14;go_wp2_with (first|((with_reducible refine aC (N:=2) rfl ?_);refine bE 2 #[.int .i64 a0_0,.slice A0_1 l0_1.length c0_1] 26 ?_;intro gb15 hg w12 hbox hb;have BK15:=aM (hbox);have GW15:=aM (gS hg);have GE15:=aM (gS hg);replace HB:=aM (ae bw hb);clear hb hbox hg;have hcz13_0:=cz BK15.out 0;have hcz13_1:=cz BK15.out 1;have hfz13_0:=aa BK15.out 0;have hfz13_1:=aa BK15.out 1)|((with_reducible refine ah (f:=40) rfl ?_);refine gL 8 Tryz.func40 #[.agg #[.int .i64 a0_0,.slice A0_1 l0_1.length c0_1],.slice A1 l1.length c1] ?_;(with_reducible refine (dw.calls k a0_0 _ _ l0_1 _ _ l1 false _ ?side1 ?side2 ?side3 ?side4 A3.out).mono ?_);(case side1=>exact qcs HR0_1.out HB.out);(case side2=>exact HC0_1.out);(case side3=>exact qcs HR1.out HB.out);(case side4=>exact HC1.out);rintro e w14 ⟨rfl,hb⟩;refine ⟨_,rfl,?_⟩;replace BK15:=aM (bB BK15.out hb);replace HB:=aM (ae bw hb);(try clear hb)))
  go_ret2
  exact ⟨eE,by exact bw⟩


def dq.l0:Nat → Int → List Int → Int → Option (List Int)
 | 0,_,_,_=>none
 | k + 1,x0,x3,x4=>if 0 ≤ x4 then (if (shr .i64 x0 x4) > 0 then (if (Int.tmod (shr .i64 x0 x4) 2) = 1 then (if x3.length < 17592186044416 then (dq.l0 k x0 (x3 ++ [x4]) (wrap64 (x4 + 1))) else (none)) else (dq.l0 k x0 x3 (wrap64 (x4 + 1)))) else (some x3)) else (none)
def dq.f (k:Nat) (a0:Int):Option (List Int):=dq.l0 k a0 ([]:List Int) 0
theorem dq.calls (k:Nat) (a0:Int) (r:List Int) (w:World) (h:dq.f k a0 = some r) :
  Calls Tryz.prog 15 #[.int .i64 a0] w fun e w'=>∃ v0_:Value,e = .returned (v0_) ∧ Kd.R (Kd.int .i64) 3 w' w.heap.size (fun _=>True) v0_ r ∧ Below w.heap.size w w':=by
 have HB:=aM (Below.refl w.heap.size w);have H:(dq.l0 k a0 ([]:List Int) 0) = some r:=h;clear h;have H':=aM H;clear H;go_enter Tryz.func15,Tryz.ntmps15;go_wp2
 go_loopg [3,4] k (fun kq v3 v4 w'=>∃ (x3_1:List Int) (x4_1:Int),v4 = .int .i64 x4_1 ∧ ak (dq.l0 kq a0 x3_1 x4_1 = some r) ∧ ak (kq ≤ k) ∧ ak (Kd.R (Kd.int .i64) 3 w' w.heap.size (fun _=>True) v3 x3_1) ∧ ak (Below w.heap.size w w'))
 case atStart=>exact ⟨(([]:List Int)),(0),qrs,H',⟨Nat.le_refl _⟩,⟨by first|exact Kd.eD _ _ _ _ _|exact Kd.eU _ _ _ _ _|exact Kd.eW _ _ _ _ _|exact Kd.eV _ _ _ _ _|exact Kd.eS _ _ _ _ _⟩,⟨by exact bw⟩⟩
 case round =>
  clear H'
  try clear c1
  obtain ⟨x3_1,x4_1,rfl,HA,HK1,HO_3,HB⟩:=hrel
  cases gk with
  | zero=>exact absurd HA.out (by simp [dq.l0])
  | succ k1 =>
   have H:=HA.out;clear HA;simp only [dq.l0] at H;replace H:=iN H;obtain ⟨c2,H⟩:=H;have c2b0:=eq_true c2;have c2b1:decide (0 ≤ x4_1) = true:=decide_eq_true c2;clear c2;obtain ⟨ji3,hji3⟩:∃ j_:Int,(shr .i64 a0 x4_1) = j_:=⟨_,rfl⟩;(first|rw [hji3] at H|simp only [hji3] at H)
   have hji3_:(a0 / 2 ^ min x4_1.toNat 64) = ji3:=hji3;have hji3z:x4_1 ≤ 64 → (a0 / 2 ^ x4_1.toNat) = ji3:=fu hji3;by_cases c4:(ji3) > 0
   ·rw [if_pos c4] at H;have c4b0:decide (0 < (ji3)) = true:=decide_eq_true c4;clear c4;have c5b0:=eq_true (of_decide_eq_true ab:0 ≤ x4_1);by_cases c6:(Int.tmod (ji3) 2) = 1
    ·rw [if_pos c6] at H;have c6b0:((Int.tmod (ji3) 2) == 1) = true:=beq_iff_eq.mpr c6;have c6b1:((Int.tmod (ji3) 2) != 1) = false:=bne_eq_false_iff_eq.mpr c6;clear c6;replace H:=iN H;obtain ⟨c7,H⟩:=H;have LMc7:=aM c7;clear c7;obtain ⟨y9,hy9⟩:∃ y_:List Int,y_ = (x3_1 ++ [x4_1]):=⟨_,rfl⟩;replace H:(dq.l0 k1 a0 y9 (wrap64 (x4_1 + 1))) = some r:=yR hy9 H;have Ny9:=aM hy9;clear hy9;have H':=aM H;clear H;go_wp2_with (first|((with_reducible refine cN (b:=.append) (xs:=#[.tmp 16,.tmp 18]) rfl ?_);at_builtin;refine Kd.dY (Kd.int .i64) (w0:=w) w.heap.size rfl (.tmp 16) (.tmp 18) 24 3 (.int .i64 0) 8 rfl Tryz.underlying24 fp rfl (by decide) (by omega) u3 x3_1 x4_1 [.int .i64 x4_1] (fun _=>True) (fun _=>False) rfl rfl ?aP (fun _ hk=>hk.elim) ?aF ?aO ?aB ?aS ?aL ?_;(case aP=>exact rfl);(case aB=>exact bw);(case aF=>exact (fun _ _=>trivial));(case aO=>exact (qra HO_3.out));(case aS=>exact (au bw));(case aL=>have:=LMc7.out;omega);intro v10 w8 ho hb hg hat;rw [← Ny9.out] at ho;replace HB:=aM (hb);have HO11:=aM (ho);clear HO_3;clear ho hb hg hat))
     go_roundg k1
     case measure=>have:=HK1.out;omega
     case rel=>exact ⟨(y9),(wrap64 (x4_1 + 1)),qrs,H',⟨by have:=HK1.out;omega⟩,⟨qra HO11.out⟩,⟨by exact bw⟩⟩
    ·rw [if_neg c6] at H;have c6b0:((Int.tmod (ji3) 2) == 1) = false:=beq_eq_false_iff_ne.mpr c6;have c6b1:((Int.tmod (ji3) 2) != 1) = true:=bne_iff_ne.mpr c6;have H':=aM H;clear H;go_wp2
     go_roundg k1
     case measure=>have:=HK1.out;omega
     case rel=>exact ⟨(x3_1),(wrap64 (x4_1 + 1)),qrs,H',⟨by have:=HK1.out;omega⟩,⟨qra HO_3.out⟩,⟨by exact bw⟩⟩
   ·rw [if_neg c4] at H;have c4b0:decide (0 < (ji3)) = false:=decide_eq_false c4;clear c4;obtain rfl:=Option.some.inj H;go_wp2
    go_ret
    exact ⟨_,by first|rfl|(simp [dk,di] <;> rfl)|(simp only [← hji3];first|rfl|(simp [dk,di] <;> rfl))|(simp [*,dk,di] <;> rfl),by (with_reducible repeat (first|apply Kd.aN|apply Kd.aK|apply Kd.aE));exact HO_3.out,by exact bw⟩


def dc.l0:Nat → Int → List Int → Int → Int → Option (Bool)
 | 0,_,_,_,_=>none
 | k + 1,x1,x7,x8,x9=>if x9 < x8 then (if 0 ≤ x9 then (if x9 < (x7.length:Int) then (if (rd x7 x9) = x1 then (some true) else (dc.l0 k x1 x7 x8 (wrap64 (x9 + 1)))) else (none)) else (none)) else (some false)
def dc.f (k:Nat) (l0:List Int) (a1:Int):Option (Bool):=dc.l0 k a1 l0 (l0.length:Int) 0
theorem dc.calls (k:Nat) (A0:Option Addr) (c0:Nat) (l0:List Int) (a1:Int) (r:Bool) (w:World) (hr0:Kd.C (Kd.int .i64) w A0 l0.length l0) (hc0:l0.length ≤ c0) (h:dc.f k l0 a1 = some r) :
  Calls Tryz.prog 16 #[.slice A0 l0.length c0,.int .i64 a1] w fun e w'=>e = .returned (.bool r) ∧ bo w w':=by
 have HR0:=aM hr0;have HC0:=aM hc0;clear hr0 hc0;have H:(dc.l0 k a1 l0 (l0.length:Int) 0) = some r:=h;clear h;have H':=aM H;clear H;go_enter Tryz.func16,Tryz.ntmps16;go_wp2
 go_loopg [9] k (fun kq v9 w'=>∃ (x9_1:Int),v9 = .int .i64 x9_1 ∧ ak (dc.l0 kq a1 l0 (l0.length:Int) x9_1 = some r) ∧ ak (kq ≤ k) ∧ bo w w')
 case atStart=>exact ⟨(0),qrs,H',⟨Nat.le_refl _⟩,by repeat (first|exact bo.refl _|apply bo.step)⟩
 case round =>
  clear H';obtain ⟨x9_1,rfl,HA,HK1,⟨m1,rfl⟩⟩:=hrel
  cases gk with
  | zero=>exact absurd HA.out (by simp [dc.l0])
  | succ k1 =>
   have H:=HA.out;clear HA;simp only [dc.l0] at H;by_cases c3:x9_1 < (l0.length:Int)
   ·rw [if_pos c3] at H;have c3b0:=decide_eq_true c3;clear c3;replace H:=iN H;obtain ⟨c4,H⟩:=H;have c4b0:decide (0 ≤ x9_1) = true:=decide_eq_true c4;clear c4;replace H:=iN H;obtain ⟨c5,H⟩:=H;have c5b0:decide (x9_1 < (l0.length:Int)) = true:=decide_eq_true c5;clear c5;by_cases c6:(rd l0 x9_1) = a1
    ·rw [if_pos c6] at H;have c6b0:((rd l0 x9_1) == a1) = true:=beq_iff_eq.mpr c6;have c6b1:((rd l0 x9_1) != a1) = false:=bne_eq_false_iff_eq.mpr c6;clear c6;obtain rfl:=Option.some.inj H;have p7:0 ≤ (x9_1:Int):=of_decide_eq_true ab;have q7:x9_1 < (l0.length:Int):=of_decide_eq_true ab;obtain ⟨ad7,e7,hx7_0⟩:=Kd.bK HR0.out x9_1 p7 q7;cases e7
     replace p7:=eq_true p7;replace q7:=eq_true q7;go_wp2
     go_ret
     exact ⟨qrs,dR⟩
    ·rw [if_neg c6] at H;have c6b0:((rd l0 x9_1) == a1) = false:=beq_eq_false_iff_ne.mpr c6;have c6b1:((rd l0 x9_1) != a1) = true:=bne_iff_ne.mpr c6;have H':=aM H;clear H;have p7:0 ≤ (x9_1:Int):=of_decide_eq_true ab;have q7:x9_1 < (l0.length:Int):=of_decide_eq_true ab;obtain ⟨ad7,e7,hx7_0⟩:=Kd.bK HR0.out x9_1 p7 q7;cases e7
     replace p7:=eq_true p7;replace q7:=eq_true q7;go_wp2
     go_roundg k1
     case measure=>have:=HK1.out;omega
     case rel=>exact ⟨(wrap64 (x9_1 + 1)),qrs,H',⟨by have:=HK1.out;omega⟩,by repeat (first|exact bo.refl _|apply bo.step)⟩
   ·rw [if_neg c3] at H;have c3b0:=decide_eq_false c3;clear c3;obtain rfl:=Option.some.inj H;go_wp2
    go_ret
    exact ⟨qrs,dR⟩


def bQ.f (k:Nat) (l0:List Int):Option (Int × List Int × Int):=(a7.f k l0 0 0 5).bind fun bt2=>((a8.f l0 bt2.2.2.1 bt2.2.2.2 (wrap64 ((bt2.2.1.length:Int) + 2))).bind fun bt3=>(some (bt2.1,bt2.2.1,wrap64 (bt3.1 - 1))))
def bQ.T3:Bool × List (List Nat × List Nat):=(true,[([],[]),([],[]),([],[]),([2],[2]),([3],[3]),([4],[4]),([1,5],[1,5]),([6],[6]),([0,6,0],[0]),([7,8,0,1,2,3,4,5,6,7,8],[7])])
def bQ.B3:List Nat:=[0,0,0,4,12,28,62,126,127,511]
theorem bQ.tab3:fM .any (opsOf Tryz.f17 3) = bQ.T3:=by kernel_rfl
theorem bQ.bits3:dB bQ.T3.2 bQ.B3 = true:=by kernel_rfl
theorem bQ.calls (k:Nat) (A0:Option Addr) (c0:Nat) (l0:List Int) (r1:Int) (r2:List Int) (r3:Int) (w:World) (hr0:Kd.C (Kd.int .u8) w A0 l0.length l0) (hc0:l0.length ≤ c0) (h:bQ.f k l0 = some (r1,r2,r3)) :
  Calls Tryz.prog 17 #[.slice A0 l0.length c0] w fun e w'=>∃ v1_:Value,e = .returned (.tuple #[.agg #[.int .i64 r1,v1_],.int .i64 r3]) ∧ Kd.R (Kd.int .i64) 3 w' w.heap.size (fun _=>True) v1_ r2 ∧ Below w.heap.size w w':=by
 have hu26:=Tryz.underlying26;have hu46:=Tryz.underlying46;have HR0:=aM hr0;have HC0:=aM hc0;clear hr0 hc0;have HB:=aM (Below.refl w.heap.size w);have H:((a7.f k l0 0 0 5).bind fun bt20=>((a8.f l0 bt20.2.2.1 bt20.2.2.2 (wrap64 ((bt20.2.1.length:Int) + 2))).bind fun bt29=>(some (bt20.1,bt20.2.1,wrap64 (bt29.1 - 1))))) = some (r1,r2,r3):=h;clear h;replace H:=oB H;obtain ⟨⟨t20,t21,t24,t25⟩,A2,H⟩:=H;(try dsimp only at H)
 replace H:=oB H;obtain ⟨⟨t29,t30,t31⟩,A3,H⟩:=H;(try dsimp only at H)
 simp only [Option.some.injEq,Prod.mk.injEq] at H;obtain ⟨rfl,rfl,rfl⟩:=H;go_enter Tryz.func17,Tryz.ntmps17
 try go_wp2_with (first|((with_reducible refine aC (N:=2) rfl ?_);refine bE 2 #[.int .i64 0,.slice none 0 0] 26 ?_;intro gb18 hg w4 hbox hb;have BK18:=aM (hbox);have GW18:=aM (gS hg);have GE18:=aM (gS hg);replace HB:=aM (ae bw hb);clear hb hbox hg)|((with_reducible refine aC (N:=8) rfl ?_);refine bE 8 #[.slice A0 l0.length c0,.int .i64 0,.int .u64 0] 46 ?_;intro gb19 hg w5 hbox hb;have NB18_19:=aM (nL BK18.out hg);have NB19_18:=aM (nR BK18.out hg);replace BK18:=aM (bB BK18.out hb);have HI392:=aM ((⟨_,_,hbox,gS hg,HR0.out⟩:af w w5 gb19 l0 0 0));replace HB:=aM (ae bw hb);clear hb hbox hg)|((with_reducible refine ah (f:=26) rfl ?_);refine gL 10 Tryz.func26 #[.pointer (some ⟨gb19,0,none⟩),.int .i64 5] ?_;(with_reducible refine (a7.calls k gb19 l0 0 0 5 t20 t21 t24 t25 w _ ?side1 ?side2 A2.out).mono ?_);(case side1=>repeat (first|(with_reducible first|exact HI392.out|apply af.alloc|apply af.drewN|apply af.drew|apply af.cp|apply af.cq|refine af.far ?_ NB19_18.out _)|exact HI392.out));(case side2=>repeat (first|(with_reducible first|exact HB.out|apply aD|apply ax|apply av|refine ap ?_ (af.ge HI392.out)|refine ap ?_ GE18.out)|exact HB.out));rintro e w6 ⟨v22,rfl,ho0,hi,hb,hk⟩;refine ⟨_,rfl,?_⟩;replace BK18:=aM (ay.blk hk (g':=gb18) (o:=.cells #[.int .i64 0,.slice none 0 0] 26 (0,0)) (bk1 BK18.out) NB18_19.out (by simp));have HO23:=aM (Kd.bg ho0 (au (by repeat (first|(with_reducible first|exact HB.out|apply aD|apply ax|apply av|refine ap ?_ (af.ge HI392.out)|refine ap ?_ GE18.out)|exact HB.out))));replace HB:=aM (hb);replace HI392:=aM (hi);(try clear hb);(try clear hk);(try clear hi);(try clear ho0))|((with_reducible refine aC (N:=5) rfl ?_);refine bE 5 #[.int .i64 0,.slice none 0 0] 26 ?_;intro gb28 hg w7 hbox hb;replace HO23:=aM (Kd.aG (qra HO23.out) hb);have BK28:=aM (hbox);have GW28:=aM ((by rw [hg];exact (au (by repeat (first|(with_reducible first|exact HB.out|apply aD|apply ax|apply av|refine ap ?_ (af.ge HI392.out)|refine ap ?_ GE18.out)|exact HB.out))):w.heap.size ≤ gb28));have GE28:=aM ((by rw [hg];exact (au (by repeat (first|(with_reducible first|exact HB.out|apply aD|apply ax|apply av|refine ap ?_ (af.ge HI392.out)|refine ap ?_ GE18.out)|exact HB.out))):w.heap.size ≤ gb28));replace HB:=aM (ae (by repeat (first|(with_reducible first|exact HB.out|apply aD|apply ax|apply av|refine ap ?_ (af.ge HI392.out)|refine ap ?_ GE18.out)|exact HB.out)) hb);have NB18_28:=aM (nL BK18.out hg);have NB28_18:=aM (nR BK18.out hg);replace BK18:=aM (bB BK18.out hb);have NB19_28:=aM ((by rw [hg];exact Nat.ne_of_lt (af.lt (show af w _ gb19 l0 t24 t25 from by repeat (first|(with_reducible first|exact HI392.out|apply af.alloc|apply af.drewN|apply af.drew|apply af.cp|apply af.cq|refine af.far ?_ NB19_18.out _)|exact HI392.out))):gb19 ≠ gb28));have NB28_19:=aM ((by rw [hg];exact Nat.ne_of_gt (af.lt (show af w _ gb19 l0 t24 t25 from by repeat (first|(with_reducible first|exact HI392.out|apply af.alloc|apply af.drewN|apply af.drew|apply af.cp|apply af.cq|refine af.far ?_ NB19_18.out _)|exact HI392.out))):gb28 ≠ gb19));replace HI392:=aM (af.below (by repeat (first|(with_reducible first|exact HI392.out|apply af.alloc|apply af.drewN|apply af.drew|apply af.cp|apply af.cq|refine af.far ?_ NB19_18.out _)|exact HI392.out)) hb);clear hb hbox hg;have hnb8:=NB28_18.out;have hnc8:=NB18_28.out;have hnb9:=NB28_19.out;have hnc9:=NB19_28.out;have hcz10_0:=cz BK28.out 0;have hcz10_1:=cz BK28.out 1;have hfz10_0:=aa BK28.out 0;have hfz10_1:=aa BK28.out 1;obtain ⟨Ao11,co11,eo11⟩:=Kd.aX HO23.out;subst eo11))
 have n0_:ak (Kd.R (Kd.int .i64) 3 ((w7.setCell ⟨gb28,0,none⟩ (.int .i64 t20)).setCell ⟨gb28,1,none⟩ (.slice Ao11 t21.length co11)) w.heap.size (fun _=>True) (.slice Ao11 t21.length co11) t21):=⟨by (with_reducible repeat (first|apply Kd.aN|apply Kd.aK|apply Kd.aE));exact Kd.bf (Kd.da (p:=⟨gb28,1,none⟩) (Kd.da (p:=⟨gb28,0,none⟩) (Kd.cA HO23.out BK28.out (by decide)) (fun _ hk=>hk.2) (.int .i64 t20)) (fun _ hk=>hk.2) (.slice Ao11 t21.length co11)) (fun _ hk=>trivial)⟩;have n1_:ak (((w7.setCell ⟨gb28,0,none⟩ (.int .i64 t20)).setCell ⟨gb28,1,none⟩ (.slice Ao11 t21.length co11)).heap[gb18]? = some (.cells #[.int .i64 0,.slice none 0 0] 26 (0,0))):=⟨bF BK18.out NB18_28.out⟩;have n2_:ak (((w7.setCell ⟨gb28,0,none⟩ (.int .i64 t20)).setCell ⟨gb28,1,none⟩ (.slice Ao11 t21.length co11)).heap[gb28]? = some (.cells #[.int .i64 t20,.slice Ao11 t21.length co11] 26 (0,0))):=⟨by (with_reducible repeat (first|refine ar ?_ _|refine al ?_|refine an ?_ _));refine bp (cs:=#[.int .i64 t20,.slice none 0 0]) ?_ 1 _ rfl;(with_reducible repeat (first|refine ar ?_ _|refine al ?_|refine an ?_ _));refine bp (cs:=#[.int .i64 0,.slice none 0 0]) ?_ 0 _ rfl;(with_reducible repeat (first|refine ar ?_ _|refine al ?_|refine an ?_ _));exact BK28.out⟩;have n3_:ak (af w ((w7.setCell ⟨gb28,0,none⟩ (.int .i64 t20)).setCell ⟨gb28,1,none⟩ (.slice Ao11 t21.length co11)) gb19 l0 t24 t25):=⟨by repeat (first|(with_reducible first|exact HI392.out|apply af.alloc|apply af.drewN|apply af.drew|apply af.cp|apply af.cq|refine af.far ?_ NB19_18.out _|refine af.far ?_ NB19_28.out _)|exact HI392.out)⟩;have n4_:ak (Below w.heap.size w ((w7.setCell ⟨gb28,0,none⟩ (.int .i64 t20)).setCell ⟨gb28,1,none⟩ (.slice Ao11 t21.length co11))):=⟨by repeat (first|(with_reducible first|exact HB.out|apply aD|apply ax|apply av|refine ap ?_ (af.ge HI392.out)|refine ap ?_ GE18.out|refine ap ?_ GE28.out)|exact HB.out)⟩;(try clear HO23)
 (try clear BK18)
 (try clear BK28)
 (try clear HI392)
 (try clear HB)
 generalize ((w7.setCell ⟨gb28,0,none⟩ (.int .i64 t20)).setCell ⟨gb28,1,none⟩ (.slice Ao11 t21.length co11)) = w12 at n0_ n1_ n2_ n3_ n4_ ⊢
 have HO23:=n0_;have BK18:=n1_;have BK28:=n2_;have HI392:=n3_;have HB:=n4_;clear n0_ n1_ n2_ n3_ n4_;replace HO23:=aM (Kd.aE HO23.out);replace BK18:=aM (al BK18.out);replace BK28:=aM (al BK28.out);replace HI392:=aM (af.drew HI392.out);replace HB:=aM (av HB.out);refine dx (n:=10) (S:=fun w'=>w'.cell? ⟨gb28,0,none⟩ = some (.int .i64 t20) ∧ w'.cell? ⟨gb28,1,none⟩ = some (.slice Ao11 t21.length co11)) (ds:=[]) (mA 10 0) kR rfl rfl ⟨(ai BK28.out 0).trans rfl,(ai BK28.out 1).trans rfl⟩ (fun hHeld=>?_);refine cu bQ.tab3 bQ.bits3 (fun HT_ HW_=>?_)
 generalize w12.drew = w13 at HO23 BK18 BK28 HI392 HB hHeld ⊢
 refine pT 1 12 HT_.out ?_;refine pT 2 13 HT_.out ?_;refine pK 0 11 HT_.out HW_.out hHeld ?_;refine pK 3 14 HT_.out HW_.out hHeld ?_;refine pT 4 15 HT_.out ?_;refine pT 5 16 HT_.out ?_;refine oN 6 (some 17) HT_.out fun K hK=>?_
 refine gC Tryz.func27 #[.pointer (some ⟨gb19,0,none⟩),.int .i64 (wrap64 ((t21.length:Int) + 2))] ?_
 with_reducible refine (a8.calls gb19 l0 t24 t25 (wrap64 ((t21.length:Int) + 2)) t29 t30 t31 w _ ?side1 ?side2 A3.out).mono ?_
 (case side1=>repeat (first|(with_reducible first|exact HI392.out|apply af.alloc|apply af.drewN|apply af.drew|apply af.cp|apply af.cq|refine af.far ?_ NB19_18.out _|refine af.far ?_ NB19_28.out _)|exact HI392.out))
 (case side2=>repeat (first|(with_reducible first|exact HB.out|apply aD|apply ax|apply av|refine ap ?_ (af.ge HI392.out)|refine ap ?_ GE18.out|refine ap ?_ GE28.out)|exact HB.out))
 rintro e w14 ⟨rfl,hi,hb,hk⟩
 refine ⟨_,rfl,?_⟩;replace BK18:=aM (ay.blk hk (g':=gb18) (o:=.cells #[.int .i64 0,.slice none 0 0] 26 (0,0)) (bk1 BK18.out) NB18_19.out (by simp));replace HO23:=aM (Kd.bf (Kd.fC (af.apart (show af w _ gb19 l0 t24 t25 from by repeat (first|(with_reducible first|exact HI392.out|apply af.alloc|apply af.drewN|apply af.drew|apply af.cp|apply af.cq|refine af.far ?_ NB19_18.out _|refine af.far ?_ NB19_28.out _)|exact HI392.out)) (qra HO23.out) (by decide)) hk (fun _ h=>h.2)) (fun _ h=>h.1));replace BK28:=aM (ay.blk hk (g':=gb28) (o:=.cells #[.int .i64 t20,.slice Ao11 t21.length co11] 26 (0,0)) (bk1 BK28.out) NB28_19.out (by simp));replace HB:=aM (hb);replace HI392:=aM (hi);(try clear hb)
 (try clear hk)
 (try clear hi)
 refine hK.out _ _ ⟨(ai BK28.out 0).trans rfl,(ai BK28.out 1).trans rfl⟩ (fun hHeld=>?_);clear hK K;refine nM 17 ?_;refine pT 7 18 HT_.out ?_;refine oN 8 none HT_.out fun K hK=>?_
 have hs15:w14.cell? ⟨gb18,0,none⟩ = some (.int .i64 0):=(ai BK18.out 0).trans rfl;have hfs15:=aa BK18.out 0;have hns15_1:=NB28_18.out;have hms15_1:=NB18_28.out;have hs16:w14.cell? ⟨gb18,1,none⟩ = some (.slice none 0 0):=(ai BK18.out 1).trans rfl;have hfs16:=aa BK18.out 1;have hns16_1:=NB28_18.out;have hms16_1:=NB18_28.out;refine gP (w1:=?_) (by rfl) rfl ?_ ?_;rotate_left
 ·go_simp
  rfl
 refine hK.out _ _ ⟨((cell_far (p:=⟨gb18,_,none⟩) NB28_18.out _).trans (((cell_far (p:=⟨gb18,_,none⟩) NB28_18.out _).trans (hHeld.1)))),((cell_far (p:=⟨gb18,_,none⟩) NB28_18.out _).trans (((cell_far (p:=⟨gb18,_,none⟩) NB28_18.out _).trans (hHeld.2))))⟩ (fun hHeld=>?_);clear hK K;refine pT 9 3 HT_.out ?_;refine d9 (dp HT_.out kR) ?_
 try go_wp2
 refine bodyPost_ret (eT rfl _ _ gb18 26 #[.int .i64 t20,.slice Ao11 t21.length co11] (0,0) _ rfl (by (with_reducible repeat (first|refine ar ?_ _|refine al ?_|refine an ?_ _));refine bp (cs:=#[.int .i64 t20,.slice none 0 0]) ?_ 1 _ rfl;(with_reducible repeat (first|refine ar ?_ _|refine al ?_|refine an ?_ _));refine bp (cs:=#[.int .i64 0,.slice none 0 0]) ?_ 0 _ rfl;(with_reducible repeat (first|refine ar ?_ _|refine al ?_|refine an ?_ _));exact BK18.out) Tryz.underlying26 rfl kR) rfl ?_;exact ⟨_,eE,by (with_reducible repeat (first|apply Kd.aN|apply Kd.aK|apply Kd.aE));exact Kd.bf (Kd.da (p:=⟨gb18,1,none⟩) (Kd.da (p:=⟨gb18,0,none⟩) (Kd.cA HO23.out BK18.out (by decide)) (fun _ hk=>hk.2) (.int .i64 t20)) (fun _ hk=>hk.2) (.slice Ao11 t21.length co11)) (fun _ hk=>trivial),by repeat (first|(with_reducible first|exact HB.out|apply aD|apply ax|apply av|refine ap ?_ (af.ge HI392.out)|refine ap ?_ GE18.out|refine ap ?_ GE28.out)|exact HB.out)⟩


def bU.l0:Nat → Int → Int → Int → Option (Int)
 | 0,_,_,_=>none
 | k + 1,x0,x3,x4=>if x4 ≤ x0 then (bU.l0 k x0 (wrap64 (x3 * x4)) (wrap64 (x4 + 1))) else (some x3)
def bU.f (k:Nat) (a0:Int):Option (Int):=bU.l0 k a0 1 2
theorem bU.calls (k:Nat) (a0:Int) (r:Int) (w:World) (h:bU.f k a0 = some r) :
  Calls Tryz.prog 82 #[.int .i64 a0] w fun e w'=>e = .returned (.int .i64 r) ∧ bo w w':=by
 have H:(bU.l0 k a0 1 2) = some r:=h;clear h;have H':=aM H;clear H;go_enter Tryz.func82,Tryz.ntmps82;go_wp2
 go_loopg [3,4] k (fun kq v3 v4 w'=>∃ (x3_1:Int) (x4_1:Int),v3 = .int .i64 x3_1 ∧ v4 = .int .i64 x4_1 ∧ ak (bU.l0 kq a0 x3_1 x4_1 = some r) ∧ ak (kq ≤ k) ∧ bo w w')
 case atStart=>exact ⟨(1),(2),qrs,qrs,H',⟨Nat.le_refl _⟩,by repeat (first|exact bo.refl _|apply bo.step)⟩
 case round =>
  clear H';obtain ⟨x3_1,x4_1,rfl,rfl,HA,HK1,⟨m1,rfl⟩⟩:=hrel
  cases gk with
  | zero=>exact absurd HA.out (by simp [bU.l0])
  | succ k1 =>
   have H:=HA.out;clear HA;simp only [bU.l0] at H;by_cases c2:x4_1 ≤ a0
   ·rw [if_pos c2] at H;have c2b0:=decide_eq_true c2;clear c2;have H':=aM H;clear H;go_wp2
    go_roundg k1
    case measure=>have:=HK1.out;omega
    case rel=>exact ⟨(wrap64 (x3_1 * x4_1)),(wrap64 (x4_1 + 1)),qrs,qrs,H',⟨by have:=HK1.out;omega⟩,by repeat (first|exact bo.refl _|apply bo.step)⟩
   ·rw [if_neg c2] at H;have c2b0:=decide_eq_false c2;clear c2;obtain rfl:=Option.some.inj H;go_wp2
    go_ret
    exact ⟨qrs,dR⟩


def eI.f (a0:Int):Option (Int):=some (Go.bits .and .i64 (wrap64 (IntKind.u64.wrap ((IntKind.u64.wrap ((IntKind.u64.wrap ((Go.bits .and .u64 (IntKind.u64.wrap (((IntKind.u64.wrap ((Go.bits .and .u64 ((IntKind.u64.wrap ((Go.bits .and .u64 (a0 / 2) 6148914691236517205) + (Go.bits .and .u64 a0 6148914691236517205))) / 4) 3689348814741910323) + (Go.bits .and .u64 (IntKind.u64.wrap ((Go.bits .and .u64 (a0 / 2) 6148914691236517205) + (Go.bits .and .u64 a0 6148914691236517205))) 3689348814741910323))) / 16) + (IntKind.u64.wrap ((Go.bits .and .u64 ((IntKind.u64.wrap ((Go.bits .and .u64 (a0 / 2) 6148914691236517205) + (Go.bits .and .u64 a0 6148914691236517205))) / 4) 3689348814741910323) + (Go.bits .and .u64 (IntKind.u64.wrap ((Go.bits .and .u64 (a0 / 2) 6148914691236517205) + (Go.bits .and .u64 a0 6148914691236517205))) 3689348814741910323))))) 1085102592571150095) + ((Go.bits .and .u64 (IntKind.u64.wrap (((IntKind.u64.wrap ((Go.bits .and .u64 ((IntKind.u64.wrap ((Go.bits .and .u64 (a0 / 2) 6148914691236517205) + (Go.bits .and .u64 a0 6148914691236517205))) / 4) 3689348814741910323) + (Go.bits .and .u64 (IntKind.u64.wrap ((Go.bits .and .u64 (a0 / 2) 6148914691236517205) + (Go.bits .and .u64 a0 6148914691236517205))) 3689348814741910323))) / 16) + (IntKind.u64.wrap ((Go.bits .and .u64 ((IntKind.u64.wrap ((Go.bits .and .u64 (a0 / 2) 6148914691236517205) + (Go.bits .and .u64 a0 6148914691236517205))) / 4) 3689348814741910323) + (Go.bits .and .u64 (IntKind.u64.wrap ((Go.bits .and .u64 (a0 / 2) 6148914691236517205) + (Go.bits .and .u64 a0 6148914691236517205))) 3689348814741910323))))) 1085102592571150095) / 256))) + ((IntKind.u64.wrap ((Go.bits .and .u64 (IntKind.u64.wrap (((IntKind.u64.wrap ((Go.bits .and .u64 ((IntKind.u64.wrap ((Go.bits .and .u64 (a0 / 2) 6148914691236517205) + (Go.bits .and .u64 a0 6148914691236517205))) / 4) 3689348814741910323) + (Go.bits .and .u64 (IntKind.u64.wrap ((Go.bits .and .u64 (a0 / 2) 6148914691236517205) + (Go.bits .and .u64 a0 6148914691236517205))) 3689348814741910323))) / 16) + (IntKind.u64.wrap ((Go.bits .and .u64 ((IntKind.u64.wrap ((Go.bits .and .u64 (a0 / 2) 6148914691236517205) + (Go.bits .and .u64 a0 6148914691236517205))) / 4) 3689348814741910323) + (Go.bits .and .u64 (IntKind.u64.wrap ((Go.bits .and .u64 (a0 / 2) 6148914691236517205) + (Go.bits .and .u64 a0 6148914691236517205))) 3689348814741910323))))) 1085102592571150095) + ((Go.bits .and .u64 (IntKind.u64.wrap (((IntKind.u64.wrap ((Go.bits .and .u64 ((IntKind.u64.wrap ((Go.bits .and .u64 (a0 / 2) 6148914691236517205) + (Go.bits .and .u64 a0 6148914691236517205))) / 4) 3689348814741910323) + (Go.bits .and .u64 (IntKind.u64.wrap ((Go.bits .and .u64 (a0 / 2) 6148914691236517205) + (Go.bits .and .u64 a0 6148914691236517205))) 3689348814741910323))) / 16) + (IntKind.u64.wrap ((Go.bits .and .u64 ((IntKind.u64.wrap ((Go.bits .and .u64 (a0 / 2) 6148914691236517205) + (Go.bits .and .u64 a0 6148914691236517205))) / 4) 3689348814741910323) + (Go.bits .and .u64 (IntKind.u64.wrap ((Go.bits .and .u64 (a0 / 2) 6148914691236517205) + (Go.bits .and .u64 a0 6148914691236517205))) 3689348814741910323))))) 1085102592571150095) / 256))) / 65536))) + ((IntKind.u64.wrap ((IntKind.u64.wrap ((Go.bits .and .u64 (IntKind.u64.wrap (((IntKind.u64.wrap ((Go.bits .and .u64 ((IntKind.u64.wrap ((Go.bits .and .u64 (a0 / 2) 6148914691236517205) + (Go.bits .and .u64 a0 6148914691236517205))) / 4) 3689348814741910323) + (Go.bits .and .u64 (IntKind.u64.wrap ((Go.bits .and .u64 (a0 / 2) 6148914691236517205) + (Go.bits .and .u64 a0 6148914691236517205))) 3689348814741910323))) / 16) + (IntKind.u64.wrap ((Go.bits .and .u64 ((IntKind.u64.wrap ((Go.bits .and .u64 (a0 / 2) 6148914691236517205) + (Go.bits .and .u64 a0 6148914691236517205))) / 4) 3689348814741910323) + (Go.bits .and .u64 (IntKind.u64.wrap ((Go.bits .and .u64 (a0 / 2) 6148914691236517205) + (Go.bits .and .u64 a0 6148914691236517205))) 3689348814741910323))))) 1085102592571150095) + ((Go.bits .and .u64 (IntKind.u64.wrap (((IntKind.u64.wrap ((Go.bits .and .u64 ((IntKind.u64.wrap ((Go.bits .and .u64 (a0 / 2) 6148914691236517205) + (Go.bits .and .u64 a0 6148914691236517205))) / 4) 3689348814741910323) + (Go.bits .and .u64 (IntKind.u64.wrap ((Go.bits .and .u64 (a0 / 2) 6148914691236517205) + (Go.bits .and .u64 a0 6148914691236517205))) 3689348814741910323))) / 16) + (IntKind.u64.wrap ((Go.bits .and .u64 ((IntKind.u64.wrap ((Go.bits .and .u64 (a0 / 2) 6148914691236517205) + (Go.bits .and .u64 a0 6148914691236517205))) / 4) 3689348814741910323) + (Go.bits .and .u64 (IntKind.u64.wrap ((Go.bits .and .u64 (a0 / 2) 6148914691236517205) + (Go.bits .and .u64 a0 6148914691236517205))) 3689348814741910323))))) 1085102592571150095) / 256))) + ((IntKind.u64.wrap ((Go.bits .and .u64 (IntKind.u64.wrap (((IntKind.u64.wrap ((Go.bits .and .u64 ((IntKind.u64.wrap ((Go.bits .and .u64 (a0 / 2) 6148914691236517205) + (Go.bits .and .u64 a0 6148914691236517205))) / 4) 3689348814741910323) + (Go.bits .and .u64 (IntKind.u64.wrap ((Go.bits .and .u64 (a0 / 2) 6148914691236517205) + (Go.bits .and .u64 a0 6148914691236517205))) 3689348814741910323))) / 16) + (IntKind.u64.wrap ((Go.bits .and .u64 ((IntKind.u64.wrap ((Go.bits .and .u64 (a0 / 2) 6148914691236517205) + (Go.bits .and .u64 a0 6148914691236517205))) / 4) 3689348814741910323) + (Go.bits .and .u64 (IntKind.u64.wrap ((Go.bits .and .u64 (a0 / 2) 6148914691236517205) + (Go.bits .and .u64 a0 6148914691236517205))) 3689348814741910323))))) 1085102592571150095) + ((Go.bits .and .u64 (IntKind.u64.wrap (((IntKind.u64.wrap ((Go.bits .and .u64 ((IntKind.u64.wrap ((Go.bits .and .u64 (a0 / 2) 6148914691236517205) + (Go.bits .and .u64 a0 6148914691236517205))) / 4) 3689348814741910323) + (Go.bits .and .u64 (IntKind.u64.wrap ((Go.bits .and .u64 (a0 / 2) 6148914691236517205) + (Go.bits .and .u64 a0 6148914691236517205))) 3689348814741910323))) / 16) + (IntKind.u64.wrap ((Go.bits .and .u64 ((IntKind.u64.wrap ((Go.bits .and .u64 (a0 / 2) 6148914691236517205) + (Go.bits .and .u64 a0 6148914691236517205))) / 4) 3689348814741910323) + (Go.bits .and .u64 (IntKind.u64.wrap ((Go.bits .and .u64 (a0 / 2) 6148914691236517205) + (Go.bits .and .u64 a0 6148914691236517205))) 3689348814741910323))))) 1085102592571150095) / 256))) / 65536))) / 4294967296)))) 127)
theorem eI.calls (a0:Int) (r:Int) (w:World) (h:eI.f a0 = some r) :
  Calls Tryz.prog 115 #[.int .u64 a0] w fun e w'=>e = .returned (.int .i64 r) ∧ bo w w':=by
 have H:(some (Go.bits .and .i64 (wrap64 (IntKind.u64.wrap ((IntKind.u64.wrap ((IntKind.u64.wrap ((Go.bits .and .u64 (IntKind.u64.wrap (((IntKind.u64.wrap ((Go.bits .and .u64 ((IntKind.u64.wrap ((Go.bits .and .u64 (a0 / 2) 6148914691236517205) + (Go.bits .and .u64 a0 6148914691236517205))) / 4) 3689348814741910323) + (Go.bits .and .u64 (IntKind.u64.wrap ((Go.bits .and .u64 (a0 / 2) 6148914691236517205) + (Go.bits .and .u64 a0 6148914691236517205))) 3689348814741910323))) / 16) + (IntKind.u64.wrap ((Go.bits .and .u64 ((IntKind.u64.wrap ((Go.bits .and .u64 (a0 / 2) 6148914691236517205) + (Go.bits .and .u64 a0 6148914691236517205))) / 4) 3689348814741910323) + (Go.bits .and .u64 (IntKind.u64.wrap ((Go.bits .and .u64 (a0 / 2) 6148914691236517205) + (Go.bits .and .u64 a0 6148914691236517205))) 3689348814741910323))))) 1085102592571150095) + ((Go.bits .and .u64 (IntKind.u64.wrap (((IntKind.u64.wrap ((Go.bits .and .u64 ((IntKind.u64.wrap ((Go.bits .and .u64 (a0 / 2) 6148914691236517205) + (Go.bits .and .u64 a0 6148914691236517205))) / 4) 3689348814741910323) + (Go.bits .and .u64 (IntKind.u64.wrap ((Go.bits .and .u64 (a0 / 2) 6148914691236517205) + (Go.bits .and .u64 a0 6148914691236517205))) 3689348814741910323))) / 16) + (IntKind.u64.wrap ((Go.bits .and .u64 ((IntKind.u64.wrap ((Go.bits .and .u64 (a0 / 2) 6148914691236517205) + (Go.bits .and .u64 a0 6148914691236517205))) / 4) 3689348814741910323) + (Go.bits .and .u64 (IntKind.u64.wrap ((Go.bits .and .u64 (a0 / 2) 6148914691236517205) + (Go.bits .and .u64 a0 6148914691236517205))) 3689348814741910323))))) 1085102592571150095) / 256))) + ((IntKind.u64.wrap ((Go.bits .and .u64 (IntKind.u64.wrap (((IntKind.u64.wrap ((Go.bits .and .u64 ((IntKind.u64.wrap ((Go.bits .and .u64 (a0 / 2) 6148914691236517205) + (Go.bits .and .u64 a0 6148914691236517205))) / 4) 3689348814741910323) + (Go.bits .and .u64 (IntKind.u64.wrap ((Go.bits .and .u64 (a0 / 2) 6148914691236517205) + (Go.bits .and .u64 a0 6148914691236517205))) 3689348814741910323))) / 16) + (IntKind.u64.wrap ((Go.bits .and .u64 ((IntKind.u64.wrap ((Go.bits .and .u64 (a0 / 2) 6148914691236517205) + (Go.bits .and .u64 a0 6148914691236517205))) / 4) 3689348814741910323) + (Go.bits .and .u64 (IntKind.u64.wrap ((Go.bits .and .u64 (a0 / 2) 6148914691236517205) + (Go.bits .and .u64 a0 6148914691236517205))) 3689348814741910323))))) 1085102592571150095) + ((Go.bits .and .u64 (IntKind.u64.wrap (((IntKind.u64.wrap ((Go.bits .and .u64 ((IntKind.u64.wrap ((Go.bits .and .u64 (a0 / 2) 6148914691236517205) + (Go.bits .and .u64 a0 6148914691236517205))) / 4) 3689348814741910323) + (Go.bits .and .u64 (IntKind.u64.wrap ((Go.bits .and .u64 (a0 / 2) 6148914691236517205) + (Go.bits .and .u64 a0 6148914691236517205))) 3689348814741910323))) / 16) + (IntKind.u64.wrap ((Go.bits .and .u64 ((IntKind.u64.wrap ((Go.bits .and .u64 (a0 / 2) 6148914691236517205) + (Go.bits .and .u64 a0 6148914691236517205))) / 4) 3689348814741910323) + (Go.bits .and .u64 (IntKind.u64.wrap ((Go.bits .and .u64 (a0 / 2) 6148914691236517205) + (Go.bits .and .u64 a0 6148914691236517205))) 3689348814741910323))))) 1085102592571150095) / 256))) / 65536))) + ((IntKind.u64.wrap ((IntKind.u64.wrap ((Go.bits .and .u64 (IntKind.u64.wrap (((IntKind.u64.wrap ((Go.bits .and .u64 ((IntKind.u64.wrap ((Go.bits .and .u64 (a0 / 2) 6148914691236517205) + (Go.bits .and .u64 a0 6148914691236517205))) / 4) 3689348814741910323) + (Go.bits .and .u64 (IntKind.u64.wrap ((Go.bits .and .u64 (a0 / 2) 6148914691236517205) + (Go.bits .and .u64 a0 6148914691236517205))) 3689348814741910323))) / 16) + (IntKind.u64.wrap ((Go.bits .and .u64 ((IntKind.u64.wrap ((Go.bits .and .u64 (a0 / 2) 6148914691236517205) + (Go.bits .and .u64 a0 6148914691236517205))) / 4) 3689348814741910323) + (Go.bits .and .u64 (IntKind.u64.wrap ((Go.bits .and .u64 (a0 / 2) 6148914691236517205) + (Go.bits .and .u64 a0 6148914691236517205))) 3689348814741910323))))) 1085102592571150095) + ((Go.bits .and .u64 (IntKind.u64.wrap (((IntKind.u64.wrap ((Go.bits .and .u64 ((IntKind.u64.wrap ((Go.bits .and .u64 (a0 / 2) 6148914691236517205) + (Go.bits .and .u64 a0 6148914691236517205))) / 4) 3689348814741910323) + (Go.bits .and .u64 (IntKind.u64.wrap ((Go.bits .and .u64 (a0 / 2) 6148914691236517205) + (Go.bits .and .u64 a0 6148914691236517205))) 3689348814741910323))) / 16) + (IntKind.u64.wrap ((Go.bits .and .u64 ((IntKind.u64.wrap ((Go.bits .and .u64 (a0 / 2) 6148914691236517205) + (Go.bits .and .u64 a0 6148914691236517205))) / 4) 3689348814741910323) + (Go.bits .and .u64 (IntKind.u64.wrap ((Go.bits .and .u64 (a0 / 2) 6148914691236517205) + (Go.bits .and .u64 a0 6148914691236517205))) 3689348814741910323))))) 1085102592571150095) / 256))) + ((IntKind.u64.wrap ((Go.bits .and .u64 (IntKind.u64.wrap (((IntKind.u64.wrap ((Go.bits .and .u64 ((IntKind.u64.wrap ((Go.bits .and .u64 (a0 / 2) 6148914691236517205) + (Go.bits .and .u64 a0 6148914691236517205))) / 4) 3689348814741910323) + (Go.bits .and .u64 (IntKind.u64.wrap ((Go.bits .and .u64 (a0 / 2) 6148914691236517205) + (Go.bits .and .u64 a0 6148914691236517205))) 3689348814741910323))) / 16) + (IntKind.u64.wrap ((Go.bits .and .u64 ((IntKind.u64.wrap ((Go.bits .and .u64 (a0 / 2) 6148914691236517205) + (Go.bits .and .u64 a0 6148914691236517205))) / 4) 3689348814741910323) + (Go.bits .and .u64 (IntKind.u64.wrap ((Go.bits .and .u64 (a0 / 2) 6148914691236517205) + (Go.bits .and .u64 a0 6148914691236517205))) 3689348814741910323))))) 1085102592571150095) + ((Go.bits .and .u64 (IntKind.u64.wrap (((IntKind.u64.wrap ((Go.bits .and .u64 ((IntKind.u64.wrap ((Go.bits .and .u64 (a0 / 2) 6148914691236517205) + (Go.bits .and .u64 a0 6148914691236517205))) / 4) 3689348814741910323) + (Go.bits .and .u64 (IntKind.u64.wrap ((Go.bits .and .u64 (a0 / 2) 6148914691236517205) + (Go.bits .and .u64 a0 6148914691236517205))) 3689348814741910323))) / 16) + (IntKind.u64.wrap ((Go.bits .and .u64 ((IntKind.u64.wrap ((Go.bits .and .u64 (a0 / 2) 6148914691236517205) + (Go.bits .and .u64 a0 6148914691236517205))) / 4) 3689348814741910323) + (Go.bits .and .u64 (IntKind.u64.wrap ((Go.bits .and .u64 (a0 / 2) 6148914691236517205) + (Go.bits .and .u64 a0 6148914691236517205))) 3689348814741910323))))) 1085102592571150095) / 256))) / 65536))) / 4294967296)))) 127)) = some r:=h
 clear h;obtain rfl:=Option.some.inj H;go_enter Tryz.func115,Tryz.ntmps115;go_wp2
 go_ret
 exact ⟨qrs,dR⟩


def ff.f (a0:Int):Option (Int):=(eI.f a0).bind fun t1=>(some t1)
theorem ff.calls (a0:Int) (r:Int) (w:World) (h:ff.f a0 = some r) :
  Calls Tryz.prog 110 #[.int .u64 a0] w fun e w'=>e = .returned (.int .i64 r) ∧ bo w w':=by
 have H:((eI.f a0).bind fun t1=>(some t1)) = some r:=h;clear h;replace H:=oB H;obtain ⟨t1,A2,H⟩:=H;(try dsimp only at H)
 obtain rfl:=Option.some.inj H;go_enter Tryz.func110,Tryz.ntmps110;go_wp2_with (first|((with_reducible refine ah (f:=115) rfl ?_);refine gL 7 Tryz.func115 #[.int .u64 a0] ?_;(with_reducible refine (eI.calls a0 t1 _ A2.out).mono ?_);rintro e w' ⟨rfl,⟨nd,rfl⟩⟩;refine ⟨_,rfl,?_⟩))
 go_ret
 exact ⟨qrs,dR⟩


def eu.f (a0:Int):Option (Int):=(ff.f (IntKind.u64.wrap (a0))).bind fun t1=>(some t1)
theorem eu.calls (a0:Int) (r:Int) (w:World) (h:eu.f a0 = some r) :
  Calls Tryz.prog 97 #[.int .i64 a0] w fun e w'=>e = .returned (.int .i64 r) ∧ bo w w':=by
 have H:((ff.f (IntKind.u64.wrap (a0))).bind fun t1=>(some t1)) = some r:=h;clear h;replace H:=oB H;obtain ⟨t1,A2,H⟩:=H;(try dsimp only at H)
 obtain rfl:=Option.some.inj H;go_enter Tryz.func97,Tryz.ntmps97;go_wp2_with (first|((with_reducible refine ah (f:=110) rfl ?_);refine gL 5 Tryz.func110 #[.int .u64 (IntKind.u64.wrap (a0))] ?_;(with_reducible refine (ff.calls (IntKind.u64.wrap (a0)) t1 _ A2.out).mono ?_);rintro e w' ⟨rfl,⟨nd,rfl⟩⟩;refine ⟨_,rfl,?_⟩))
 go_ret
 exact ⟨qrs,dR⟩


mutual
def aJ.l0:Nat → List Int → Int → Int → Int → List Bool → Option (List Int)
 | 0,_,_,_,_,_=>none
 | k + 1,x3,x10,x11,x9,x12=>if x11 < x10 then (aJ.l1 k x3 x11 x10 x11 (x12.length:Int) 0 x9 x12) else (some x3)
def aJ.l1:Nat → List Int → Int → Int → Int → Int → Int → Int → List Bool → Option (List Int)
 | 0,_,_,_,_,_,_,_,_=>none
 | k + 1,x3,x4,x10,x11,x16,x17,x9,x12=>if x17 < x16 then ((cC.f x9 x12 x17 x4).bind fun t2=>(if t2 = true then (if 0 ≤ x4 then (if x4 < (x3.length:Int) then ((eu.f x17).bind fun t5=>((bU.f k t5).bind fun t6=>((eu.f x17).bind fun t7=>((bU.f k (wrap64 ((wrap64 (x9 - 1)) - t7))).bind fun t8=>(aJ.l1 k (x3.set (x4:Int).toNat (wrap64 ((rd x3 x4) + (wrap64 (t6 * t8))))) x4 x10 x11 x16 (wrap64 (x17 + 1)) x9 x12))))) else (none)) else (none)) else (aJ.l1 k x3 x4 x10 x11 x16 (wrap64 (x17 + 1)) x9 x12))) else (aJ.l0 k x3 x10 (wrap64 (x11 + 1)) x9 x12)
end
def aJ.f (k:Nat) (a0_0:Int) (l0_1:List Bool):Option (List Int):=if 0 ≤ a0_0 then (if (a0_0:Int).toNat ≤ 35184372088832 then ((some (List.replicate (a0_0:Int).toNat 0:List Int)).bind fun y2=>(aJ.l0 k y2 (y2.length:Int) 0 a0_0 l0_1)) else (none)) else (none)
def aJ.T9:Bool × List (List Nat × List Nat):=(true,[([],[]),([],[]),([0,1],[0,1]),([2],[2]),([],[]),([4],[4]),([5,5],[5]),([],[]),([7],[7]),([8],[8]),([],[]),([10,6],[10]),([9,11],[9,11]),([12,11],[12]),([6,13],[6,13]),([3,14],[3,14]),([0,1,0,1,2,3,4,5,6,7,8,9,10,11,12,13,14,15],[0,1]),([16,15,13,0,1,2,3,4,5,6,7,8,9,10,11,12,13,14,15],[15,16])])
def aJ.B9:List Nat:=[0,0,3,7,0,16,48,0,128,384,0,1136,4080,8176,16368,32767,65535,131071]
theorem aJ.tab9:fM .any (opsOf Tryz.f66 9) = aJ.T9:=by kernel_rfl
theorem aJ.bits9:dB aJ.T9.2 aJ.B9 = true:=by kernel_rfl
theorem aJ.calls (k:Nat) (a0_0:Int) (A0_1:Option Addr) (c0_1:Nat) (l0_1:List Bool) (r:List Int) (w:World) (hr0_1:Kd.C Kd.bool w A0_1 l0_1.length l0_1) (hc0_1:l0_1.length ≤ c0_1) (h:aJ.f k a0_0 l0_1 = some r) :
  Calls Tryz.prog 66 #[.agg #[.int .i64 a0_0,.slice A0_1 l0_1.length c0_1]] w fun e w'=>∃ v0_:Value,e = .returned (v0_) ∧ Kd.R (Kd.int .i64) 3 w' w.heap.size (fun _=>True) v0_ r ∧ Below w.heap.size w w':=by
 have hu51:=Tryz.underlying51;have HR0_1:=aM hr0_1;have HC0_1:=aM hc0_1;clear hr0_1 hc0_1;have HB:=aM (Below.refl w.heap.size w);have H:(if 0 ≤ a0_0 then (if (a0_0:Int).toNat ≤ 35184372088832 then ((some (List.replicate (a0_0:Int).toNat 0:List Int)).bind fun y28=>(aJ.l0 k y28 (y28.length:Int) 0 a0_0 l0_1)) else (none)) else (none)) = some r:=h;clear h;replace H:=iN H;obtain ⟨c2,H⟩:=H;have c2b0:=eq_true c2;have c2b1:decide (0 ≤ a0_0) = true:=decide_eq_true c2;clear c2;replace H:=iN H;obtain ⟨c3,H⟩:=H;have c3b0:=eq_true c3;have c3b1:decide ((a0_0:Int).toNat ≤ 35184372088832) = true:=decide_eq_true c3;clear c3;obtain ⟨y28,hy28⟩:∃ y_:List Int,y_ = (List.replicate (a0_0:Int).toNat 0):=⟨_,rfl⟩;replace H:(aJ.l0 k y28 (y28.length:Int) 0 a0_0 l0_1) = some r:=yR hy28 H;have Ny28:=aM hy28;clear hy28;have H':=aM H;clear H;go_enter Tryz.func66,Tryz.ntmps66;go_wp2_with (first|((with_reducible refine aC (N:=1) rfl ?_);refine bE 1 #[.int .i64 a0_0,.slice A0_1 l0_1.length c0_1] 51 ?_;intro gb27 hg w4 hbox hb;have BK27:=aM (hbox);have GW27:=aM (gS hg);have GE27:=aM (gS hg);replace HB:=aM (ae bw hb);clear hb hbox hg;have hcz5_0:=cz BK27.out 0;have hcz5_1:=cz BK27.out 1;have hfz5_0:=aa BK27.out 0;have hfz5_1:=aa BK27.out 1)|((with_reducible refine aC (N:=8) rfl ?_);refine Kd.mB (Kd.int .i64) _ 3 rfl (N:=8) rfl 24 _ _ rfl a0_0 rfl rfl Tryz.underlying24 (.int .i64 0) 8 fp rfl (by decide) (by omega) 0 (ok:=fun _=>True) (okp:=fun _=>True) rfl (fun _ hk=>hk) trivial (of_decide_eq_true ab) (Nat.le_trans (Nat.mul_le_mul_right _ (of_decide_eq_true ab:a0_0.toNat ≤ 35184372088832)) (by omega)) (Below.refl _ _) (Nat.le_refl _) ?_;intro v29 w6 ho7 hb hg_ hnew_;clear hg_ hnew_;(first|rw [← Ny28.out] at ho7|(simp only [Int.reduceToNat] at ho7;rw [← Ny28.out] at ho7));have HO30:=aM (Kd.bg ho7 (au bw));replace BK27:=aM (bB BK27.out hb);replace HB:=aM (ae bw hb);clear hb ho7;obtain ⟨Ao8,co8,eo8⟩:=Kd.aX HO30.out;subst eo8))
 go_loopg [11] k (fun kq v11 w'=>∃ (x3_1:List Int) (x11_1:Int),v11 = .int .i64 x11_1 ∧ ak (aJ.l0 kq x3_1 (y28.length:Int) x11_1 a0_0 l0_1 = some r) ∧ ak (kq ≤ k) ∧ ak (Kd.R (Kd.int .i64) 3 w' w.heap.size (fun _=>True) (.slice Ao8 y28.length co8) x3_1) ∧ ak (w'.heap[gb27]? = some (.cells #[.int .i64 a0_0,(.slice A0_1 l0_1.length c0_1)] 51 (0,0))) ∧ ak (Below w.heap.size w w'))
 case atStart=>exact ⟨(y28),(0),qrs,H',⟨Nat.le_refl _⟩,⟨qra HO30.out⟩,⟨bk1 BK27.out⟩,⟨by exact bw⟩⟩
 case round =>
  clear H';(try clear c2);(try clear c2b0);(try clear c2b1);(try clear c3);(try clear c3b0);(try clear c3b1);(try clear hcz5_0);(try clear hcz5_1);(try clear hfz5_0);(try clear hfz5_1)
  obtain ⟨x3_1,x11_1,rfl,HA,HK1,HO_3,BK27,HB⟩:=hrel;have hl3_1:=(Kd.aj HO_3.out).1;rw [hl3_1] at HO_3;(try simp only [hl3_1])
  (try simp only [hl3_1] at BK27)
  cases gk with
  | zero=>exact absurd HA.out (by simp [aJ.l0])
  | succ k1 =>
   have H:=HA.out;clear HA;simp only [aJ.l0] at H;by_cases c9:x11_1 < (y28.length:Int)
   ·rw [if_pos c9] at H;have c9b0:=decide_eq_true c9;(try simp only [hl3_1] at c9b0)
    clear c9;have H':=aM H;clear H;have hcz10_0:=cz BK27.out 0;have hcz10_1:=cz BK27.out 1;have hfz10_0:=aa BK27.out 0;have hfz10_1:=aa BK27.out 1;go_wp2
    go_loopg [17] k1 (fun kq v17 w'=>∃ (x3_2:List Int) (x17_2:Int),v17 = .int .i64 x17_2 ∧ ak (aJ.l1 kq x3_2 x11_1 (y28.length:Int) x11_1 (l0_1.length:Int) x17_2 a0_0 l0_1 = some r) ∧ ak (kq ≤ k1) ∧ ak (Kd.R (Kd.int .i64) 3 w' w.heap.size (fun _=>True) (.slice Ao8 x3_1.length co8) x3_2) ∧ ak (w'.heap[gb27]? = some (.cells #[.int .i64 a0_0,(.slice A0_1 l0_1.length c0_1)] 51 (0,0))) ∧ ak (Below w.heap.size w w'))
    case atStart=>exact ⟨(x3_1),(0),qrs,H',⟨Nat.le_refl _⟩,⟨by (try simp only [hl3_1]);(with_reducible repeat (first|apply Kd.aN|apply Kd.aK|apply Kd.aE));exact HO_3.out⟩,⟨by (try simp only [hl3_1]);(with_reducible repeat (first|refine ar ?_ _|refine al ?_|refine an ?_ _));exact BK27.out⟩,⟨by exact bw⟩⟩
    case round =>
     clear H';(try clear c9);(try clear c9b0);(try clear hcz10_0);(try clear hcz10_1);(try clear hfz10_0);(try clear hfz10_1)
     obtain ⟨x3_2,x17_2,rfl,HA,HK2,HO_3,BK27,HB⟩:=hrel;have hl3_2:=(Kd.aj HO_3.out).1;rw [hl3_2] at HO_3;(try simp only [hl3_2])
     (try simp only [hl3_2] at BK27)
     cases gk with
     | zero=>exact absurd HA.out (by simp [aJ.l1])
     | succ k2 =>
      have H:=HA.out;clear HA;simp only [aJ.l1] at H;by_cases c11:x17_2 < (l0_1.length:Int)
      ·rw [if_pos c11] at H;have c11b0:=decide_eq_true c11;(try simp only [hl3_1,hl3_2] at c11b0)
       clear c11;replace H:=oB H;obtain ⟨t31,A12,H⟩:=H;(try dsimp only at H)
       by_cases c13:t31 = true
       ·subst c13;rw [if_pos rfl] at H;replace H:=iN H;obtain ⟨c14,H⟩:=H;have c14b0:decide (0 ≤ x11_1) = true:=decide_eq_true c14;clear c14;replace H:=iN H;obtain ⟨c15,H⟩:=H;have c15b0:decide (x11_1 < (x3_2.length:Int)) = true:=decide_eq_true c15;(try simp only [hl3_1,hl3_2] at c15b0)
        clear c15;replace H:=oB H;obtain ⟨t33,A16,H⟩:=H;(try dsimp only at H)
        replace H:=oB H;obtain ⟨t34,A17,H⟩:=H;(try dsimp only at H)
        replace H:=oB H;obtain ⟨t35,A18,H⟩:=H;(try dsimp only at H)
        obtain rfl:t33 = t35:=Option.some.inj (A16.out.symm.trans A18.out);replace H:=oB H;obtain ⟨t36,A19,H⟩:=H;(try dsimp only at H)
        obtain ⟨y37,hy37⟩:∃ y_:List Int,y_ = (x3_2.set (x11_1:Int).toNat (wrap64 ((rd x3_2 x11_1) + (wrap64 (t34 * t36))))):=⟨_,rfl⟩;replace H:(aJ.l1 k2 y37 x11_1 (y28.length:Int) x11_1 (l0_1.length:Int) (wrap64 (x17_2 + 1)) a0_0 l0_1) = some r:=yR hy37 H;have Ny37:=aM hy37;clear hy37;have H':=aM H;clear H;have hcz21_0:=cz BK27.out 0;have hcz21_1:=cz BK27.out 1;have hfz21_0:=aa BK27.out 0;have hfz21_1:=aa BK27.out 1
        try go_wp2_with (first|((with_reducible refine ah (f:=74) rfl ?_);refine gL 23 Tryz.func74 #[.agg #[.int .i64 a0_0,.slice A0_1 l0_1.length c0_1],.int .i64 x17_2,.int .i64 x11_1] ?_;(with_reducible refine (cC.calls a0_0 _ _ l0_1 x17_2 x11_1 true _ ?side1 ?side2 A12.out).mono ?_);(case side1=>exact qcs HR0_1.out HB.out);(case side2=>exact HC0_1.out);rintro e w22 ⟨rfl,hb⟩;refine ⟨_,rfl,?_⟩;replace HO_3:=aM (Kd.aG (qra HO_3.out) hb);replace BK27:=aM (bB BK27.out hb);replace HB:=aM (ae bw hb);(try clear hb);(try clear hk)))
        replace HO_3:=aM (Kd.aE HO_3.out);replace BK27:=aM (al BK27.out);replace HB:=aM (av HB.out);have p32:0 ≤ (x11_1:Int):=of_decide_eq_true ab;have q32:x11_1 < (x3_2.length:Int):=of_decide_eq_true ab;obtain ⟨ad32,e32,hx32_0⟩:=Kd.bK (Kd.aj HO_3.out).2.2 x11_1 p32 q32;cases e32
        replace p32:=eq_true p32;replace q32:=eq_true q32;refine dx (n:=18) (S:=fun w'=>w'.cell? ⟨gb27,0,none⟩ = some (.int .i64 a0_0) ∧ w'.cell? ⟨gb27,1,none⟩ = some (.slice A0_1 l0_1.length c0_1) ∧ w'.cell? (ad32.add (x11_1).toNat) = some (.int .i64 (rd x3_2 x11_1))) (ds:=[17]) (mA 18 0) kR rfl rfl ⟨(ai BK27.out 0).trans rfl,(ai BK27.out 1).trans rfl,hx32_0⟩ (fun hHeld=>?_);refine cu aJ.tab9 aJ.bits9 (fun HT_ HW_=>?_)
        generalize w22.drew = w23 at HO_3 BK27 HB hx32_0 hHeld ⊢
        refine pT 0 24 HT_.out ?_;refine pT 1 25 HT_.out ?_;refine pT 2 26 HT_.out ?_;refine pT 4 28 HT_.out ?_;refine pT 7 31 HT_.out ?_;refine pT 10 34 HT_.out ?_;refine pK 3 27 HT_.out HW_.out hHeld ?_;refine pK 8 32 HT_.out HW_.out hHeld ?_;refine pT 9 33 HT_.out ?_;refine oN 5 (some 29) HT_.out fun K hK=>?_
        refine gC Tryz.func97 #[.int .i64 x17_2] ?_
        with_reducible refine (eu.calls x17_2 t33 _ A16.out).mono ?_
        rintro e w' ⟨rfl,⟨nd,rfl⟩⟩
        refine ⟨_,rfl,?_⟩;refine hK.out _ _ ⟨(ai BK27.out 0).trans rfl,(ai BK27.out 1).trans rfl,hHeld.2.2⟩ (fun hHeld=>?_);clear hK K;refine nM 29 ?_;refine oN 6 (some 30) HT_.out fun K hK=>?_
        refine gC Tryz.func82 #[.int .i64 t33] ?_
        with_reducible refine (bU.calls k2 t33 t34 _ A17.out).mono ?_
        rintro e w' ⟨rfl,⟨nd,rfl⟩⟩
        refine ⟨_,rfl,?_⟩;refine hK.out _ _ ⟨(ai BK27.out 0).trans rfl,(ai BK27.out 1).trans rfl,hHeld.2.2⟩ (fun hHeld=>?_);clear hK K;refine nM 30 ?_;refine oN 11 (some 35) HT_.out fun K hK=>?_
        refine gC Tryz.func97 #[.int .i64 x17_2] ?_
        with_reducible refine (eu.calls x17_2 t33 _ A18.out).mono ?_
        rintro e w' ⟨rfl,⟨nd,rfl⟩⟩
        refine ⟨_,rfl,?_⟩;refine hK.out _ _ ⟨(ai BK27.out 0).trans rfl,(ai BK27.out 1).trans rfl,hHeld.2.2⟩ (fun hHeld=>?_);clear hK K;refine nM 35 ?_;refine pT 12 36 HT_.out ?_;refine oN 13 (some 37) HT_.out fun K hK=>?_
        refine gC Tryz.func82 #[.int .i64 (wrap64 ((wrap64 (a0_0 - 1)) - t33))] ?_
        with_reducible refine (bU.calls k2 (wrap64 ((wrap64 (a0_0 - 1)) - t33)) t36 _ A19.out).mono ?_
        rintro e w' ⟨rfl,⟨nd,rfl⟩⟩
        refine ⟨_,rfl,?_⟩;have p20:0 ≤ (x11_1:Int):=of_decide_eq_true ab;have q20:(x11_1:Int) < ((x3_2.length:Int):Int):=of_decide_eq_true ab;obtain ⟨go20,co20,eo20,gb20,gl20,cl20,HG20⟩:=Kd.gQ HO_3.out (by omega);(first|cases eo20|(injection eo20 with ea_ en_ ec_;(first|subst ea_|(injection ea_ with ea_;subst ea_));subst ec_;clear en_))
        have GB20:=aM gb20;have GG20:=aM HG20;clear gb20 gl20 HG20;(first|simp only [add_plain] at hx32_0|skip)
        obtain ⟨hx20_0,hf20_0⟩:=Kd.fO 0 HO_3.out (x11_1:Int) p20 q20;replace p20:=eq_true p20;replace q20:=eq_true q20;have HP24:=Kd.mf HO_3.out (x11_1:Int) (wrap64 ((rd x3_2 x11_1) + (wrap64 (t34 * t36))));rw [← Ny37.out] at HP24;have HQ24:=aM HP24;clear HP24;refine hK.out _ _ ⟨(ai BK27.out 0).trans rfl,(ai BK27.out 1).trans rfl,hHeld.2.2⟩ (fun hHeld=>?_);clear hK K;refine nM 37 ?_;refine pT 14 38 HT_.out ?_;refine pT 15 39 HT_.out ?_;refine pT 16 40 HT_.out ?_;refine kj (i:=17) (N:=none) (mA 18 262143) rfl rfl (iv HT_.out kR) (by decide) (fun K hK=>?_);refine gP (w1:=?_) (by rfl) rfl ?_ ?_;rotate_left
        ·go_simp
         rfl
        refine hK.out _ _ ?_;clear hK K;refine d9 (dp HT_.out kR) ?_
        try go_wp2
        (try simp only [← hl3_2])
        go_roundg k2
        case measure=>have:=HK1.out;have:=HK2.out;omega
        case rel=>exact ⟨(y37),(wrap64 (x17_2 + 1)),qrs,H',⟨by have:=HK1.out;have:=HK2.out;omega⟩,⟨by (try simp only [hl3_1]);(try simp only [hl3_2]);(with_reducible repeat (first|apply Kd.aN|apply Kd.aK|apply Kd.aE));exact HQ24.out⟩,⟨by (try simp only [hl3_1]);(try simp only [hl3_2]);(with_reducible repeat (first|refine ar ?_ _|refine al ?_|refine an ?_ _));refine fv ?_ (by have h_:=Kd.fe HO_3.out BK27.out (by decide);intro e_;exact h_ (by rw [e_];rfl)) _;(with_reducible repeat (first|refine ar ?_ _|refine al ?_|refine an ?_ _));exact BK27.out⟩,⟨by repeat (first|(with_reducible first|exact HB.out|apply aD|apply ax|apply av|refine ap ?_ GB20.out|refine ap ?_ GE27.out)|exact HB.out)⟩⟩
       ·replace c13:=Bool.eq_false_iff.mpr c13;subst c13;rw [if_neg (show ¬ (false = true) by decide)] at H;have H':=aM H;clear H;have hcz25_0:=cz BK27.out 0;have hcz25_1:=cz BK27.out 1;have hfz25_0:=aa BK27.out 0;have hfz25_1:=aa BK27.out 1;go_wp2_with (first|((with_reducible refine ah (f:=74) rfl ?_);refine gL 23 Tryz.func74 #[.agg #[.int .i64 a0_0,.slice A0_1 l0_1.length c0_1],.int .i64 x17_2,.int .i64 x11_1] ?_;(with_reducible refine (cC.calls a0_0 _ _ l0_1 x17_2 x11_1 false _ ?side1 ?side2 A12.out).mono ?_);(case side1=>exact qcs HR0_1.out HB.out);(case side2=>exact HC0_1.out);rintro e w26 ⟨rfl,hb⟩;refine ⟨_,rfl,?_⟩;replace HO_3:=aM (Kd.aG (qra HO_3.out) hb);replace BK27:=aM (bB BK27.out hb);replace HB:=aM (ae bw hb);(try clear hb)))
        (try simp only [← hl3_2])
        go_roundg k2
        case measure=>have:=HK1.out;have:=HK2.out;omega
        case rel=>exact ⟨(x3_2),(wrap64 (x17_2 + 1)),qrs,H',⟨by have:=HK1.out;have:=HK2.out;omega⟩,⟨by (try simp only [hl3_1]);(try simp only [hl3_2]);(with_reducible repeat (first|apply Kd.aN|apply Kd.aK|apply Kd.aE));exact HO_3.out⟩,⟨by (try simp only [hl3_1]);(try simp only [hl3_2]);(with_reducible repeat (first|refine ar ?_ _|refine al ?_|refine an ?_ _));exact BK27.out⟩,⟨by exact bw⟩⟩
      ·rw [if_neg c11] at H;have c11b0:=decide_eq_false c11;(try simp only [hl3_1,hl3_2] at c11b0)
       clear c11;have H':=aM H;clear H;go_wp2
       (try simp only [← hl3_1,← hl3_2])
       go_roundg k2
       case measure=>have:=HK1.out;have:=HK2.out;omega
       case rel=>exact ⟨(x3_2),(wrap64 (x11_1 + 1)),qrs,H',⟨by have:=HK1.out;have:=HK2.out;omega⟩,⟨by (try simp only [hl3_1]);(try simp only [hl3_2]);(with_reducible repeat (first|apply Kd.aN|apply Kd.aK|apply Kd.aE));exact HO_3.out⟩,⟨by (try simp only [hl3_1]);(try simp only [hl3_2]);(with_reducible repeat (first|refine ar ?_ _|refine al ?_|refine an ?_ _));exact BK27.out⟩,⟨by exact bw⟩⟩
   ·rw [if_neg c9] at H;have c9b0:=decide_eq_false c9;(try simp only [hl3_1] at c9b0)
    clear c9;obtain rfl:=Option.some.inj H;go_wp2
    go_ret
    exact ⟨_,eE,by (with_reducible repeat (first|apply Kd.aN|apply Kd.aK|apply Kd.aE));exact HO_3.out,by exact bw⟩


def cV.f (k:Nat) (a0_0:Int) (l0_1:List Int):Option (List Int × Int):=(bb.f k a0_0 l0_1).bind fun bt2=>((aJ.f k bt2.1 bt2.2).bind fun t3=>((bU.f k bt2.1).bind fun t4=>(some (t3,t4))))
theorem cV.calls (k:Nat) (a0_0:Int) (A0_1:Option Addr) (c0_1:Nat) (l0_1:List Int) (r1:List Int) (r2:Int) (w:World) (hr0_1:Kd.C (Kd.int .i64) w A0_1 l0_1.length l0_1) (hc0_1:l0_1.length ≤ c0_1) (h:cV.f k a0_0 l0_1 = some (r1,r2)) :
  Calls Tryz.prog 44 #[.agg #[.int .i64 a0_0,.slice A0_1 l0_1.length c0_1]] w fun e w'=>∃ v0_:Value,e = .returned (.agg #[v0_,.int .i64 r2]) ∧ Kd.R (Kd.int .i64) 3 w' w.heap.size (fun _=>True) v0_ r1 ∧ Below w.heap.size w w':=by
 have hu26:=Tryz.underlying26;have hu69:=Tryz.underlying69;have hu51:=Tryz.underlying51;have HR0_1:=aM hr0_1;have HC0_1:=aM hc0_1;clear hr0_1 hc0_1;have HB:=aM (Below.refl w.heap.size w);have H:((bb.f k a0_0 l0_1).bind fun bt23=>((aJ.f k bt23.1 bt23.2).bind fun t29=>((bU.f k bt23.1).bind fun t33=>(some (t29,t33))))) = some (r1,r2):=h;clear h;replace H:=oB H;obtain ⟨⟨t23,t24⟩,A2,H⟩:=H;(try dsimp only at H)
 replace H:=oB H;obtain ⟨t29,A3,H⟩:=H;(try dsimp only at H)
 replace H:=oB H;obtain ⟨t33,A4,H⟩:=H;(try dsimp only at H)
 simp only [Option.some.injEq,Prod.mk.injEq] at H;obtain ⟨rfl,rfl⟩:=H;go_enter Tryz.func44,Tryz.ntmps44
 try go_wp2_with (first|((with_reducible refine aC (N:=1) rfl ?_);refine bE 1 #[.int .i64 a0_0,.slice A0_1 l0_1.length c0_1] 26 ?_;intro gb21 hg w5 hbox hb;have BK21:=aM (hbox);have GW21:=aM (gS hg);have GE21:=aM (gS hg);replace HB:=aM (ae bw hb);clear hb hbox hg)|((with_reducible refine aC (N:=2) rfl ?_);refine bE 2 #[.slice none 0 0,.int .i64 0] 69 ?_;intro gb22 hg w6 hbox hb;have BK22:=aM (hbox);have GW22:=aM (gS hg);have GE22:=aM (gS hg);replace HB:=aM (ae bw hb);have NB21_22:=aM (nL BK21.out hg);have NB22_21:=aM (nR BK21.out hg);replace BK21:=aM (bB BK21.out hb);clear hb hbox hg;have hnb7:=NB21_22.out;have hnc7:=NB22_21.out;have hcz8_0:=cz BK21.out 0;have hcz8_1:=cz BK21.out 1;have hfz8_0:=aa BK21.out 0;have hfz8_1:=aa BK21.out 1)|((with_reducible refine ah (f:=35) rfl ?_);refine gL 5 Tryz.func35 #[.agg #[.int .i64 a0_0,.slice A0_1 l0_1.length c0_1]] ?_;(with_reducible refine (bb.calls k a0_0 _ _ l0_1 t23 t24 _ ?side1 ?side2 A2.out).mono ?_);(case side1=>exact qcs HR0_1.out HB.out);(case side2=>exact HC0_1.out);rintro e w9 ⟨v25,rfl,ho0,hb⟩;refine ⟨_,rfl,?_⟩;have HO27:=aM (Kd.bg ho0 (au bw));replace BK21:=aM (bB BK21.out hb);replace BK22:=aM (bB BK22.out hb);replace HB:=aM (ae bw hb);(try clear hb);(try clear ho0))|((with_reducible refine aC (N:=3) rfl ?_);refine bE 3 #[.int .i64 0,.slice none 0 0] 51 ?_;intro gb28 hg w10 hbox hb;replace HO27:=aM (Kd.aG (qra HO27.out) hb);have BK28:=aM (hbox);have GW28:=aM (gS hg);have GE28:=aM (gS hg);replace HB:=aM (ae bw hb);have NB21_28:=aM (nL BK21.out hg);have NB28_21:=aM (nR BK21.out hg);replace BK21:=aM (bB BK21.out hb);have NB22_28:=aM (nL BK22.out hg);have NB28_22:=aM (nR BK22.out hg);replace BK22:=aM (bB BK22.out hb);clear hb hbox hg;have hnb11:=NB28_21.out;have hnc11:=NB21_28.out;have hnb12:=NB28_22.out;have hnc12:=NB22_28.out;have hcz13_0:=cz BK28.out 0;have hcz13_1:=cz BK28.out 1;have hfz13_0:=aa BK28.out 0;have hfz13_1:=aa BK28.out 1;obtain ⟨Ao14,co14,eo14⟩:=Kd.aX HO27.out;subst eo14))
 have n0_:ak (Kd.R Kd.bool 4 ((w10.setCell ⟨gb28,0,none⟩ (.int .i64 t23)).setCell ⟨gb28,1,none⟩ (.slice Ao14 t24.length co14)) w.heap.size (fun _=>True) (.slice Ao14 t24.length co14) t24):=⟨by (with_reducible repeat (first|apply Kd.aN|apply Kd.aK|apply Kd.aE));exact Kd.bf (Kd.da (p:=⟨gb28,1,none⟩) (Kd.da (p:=⟨gb28,0,none⟩) (Kd.cA HO27.out BK28.out (by decide)) (fun _ hk=>hk.2) (.int .i64 t23)) (fun _ hk=>hk.2) (.slice Ao14 t24.length co14)) (fun _ hk=>trivial)⟩;have n1_:ak (((w10.setCell ⟨gb28,0,none⟩ (.int .i64 t23)).setCell ⟨gb28,1,none⟩ (.slice Ao14 t24.length co14)).heap[gb21]? = some (.cells #[.int .i64 a0_0,.slice A0_1 l0_1.length c0_1] 26 (0,0))):=⟨bF BK21.out NB21_28.out⟩;have n2_:ak (((w10.setCell ⟨gb28,0,none⟩ (.int .i64 t23)).setCell ⟨gb28,1,none⟩ (.slice Ao14 t24.length co14)).heap[gb22]? = some (.cells #[.slice none 0 0,.int .i64 0] 69 (0,0))):=⟨bF BK22.out NB22_28.out⟩;have n3_:ak (((w10.setCell ⟨gb28,0,none⟩ (.int .i64 t23)).setCell ⟨gb28,1,none⟩ (.slice Ao14 t24.length co14)).heap[gb28]? = some (.cells #[.int .i64 t23,.slice Ao14 t24.length co14] 51 (0,0))):=⟨by (with_reducible repeat (first|refine ar ?_ _|refine al ?_|refine an ?_ _));refine bp (cs:=#[.int .i64 t23,.slice none 0 0]) ?_ 1 _ rfl;(with_reducible repeat (first|refine ar ?_ _|refine al ?_|refine an ?_ _));refine bp (cs:=#[.int .i64 0,.slice none 0 0]) ?_ 0 _ rfl;(with_reducible repeat (first|refine ar ?_ _|refine al ?_|refine an ?_ _));exact BK28.out⟩;have n4_:ak (Below w.heap.size w ((w10.setCell ⟨gb28,0,none⟩ (.int .i64 t23)).setCell ⟨gb28,1,none⟩ (.slice Ao14 t24.length co14))):=⟨by exact bw⟩;(try clear HO27)
 (try clear BK21)
 (try clear BK22)
 (try clear BK28)
 (try clear HB)
 generalize ((w10.setCell ⟨gb28,0,none⟩ (.int .i64 t23)).setCell ⟨gb28,1,none⟩ (.slice Ao14 t24.length co14)) = w15 at n0_ n1_ n2_ n3_ n4_ ⊢
 have HO27:=n0_;have BK21:=n1_;have BK22:=n2_;have BK28:=n3_;have HB:=n4_;clear n0_ n1_ n2_ n3_ n4_;replace HO27:=aM (Kd.aE HO27.out);replace BK21:=aM (al BK21.out);replace BK22:=aM (al BK22.out);replace BK28:=aM (al BK28.out);replace HB:=aM (av HB.out);refine dx (n:=7) (S:=fun w'=>w'.cell? ⟨gb28,0,none⟩ = some (.int .i64 t23) ∧ w'.cell? ⟨gb28,1,none⟩ = some (.slice Ao14 t24.length co14)) (ds:=[]) (mA 7 0) kR rfl rfl ⟨(ai BK28.out 0).trans rfl,(ai BK28.out 1).trans rfl⟩ (fun hHeld=>?_);generalize w15.drew = w16 at HO27 BK21 BK22 BK28 HB hHeld ⊢
 refine fB (i:=2) (N:=some 8) (v:=?_) (a':=?_) (mA 7 4) rfl rfl kR (fun _ _ _ h=>h) (Or.inl ⟨by rfl,?_⟩) ?_ ?_;rotate_left
 ·intro w';go_simp
  with_reducible rfl
 rotate_left
 ·simp only [Act.put,sA,sZ,sS,dl,dG];rfl
 refine gO (i:=0) (N:=some 6) (v:=?_) (a':=?_) (mA 7 5) rfl rfl kR (fun _ _ _ h=>h) (Or.inl ⟨by rfl,?_⟩) hHeld ?_ ?_;rotate_left
 ·rintro w' ⟨s0,s1⟩
  go_simp
  with_reducible rfl
 rotate_left
 ·simp only [Act.put,sA,sZ,sS,dl,dG];rfl
 refine gO (i:=3) (N:=some 9) (v:=?_) (a':=?_) (mA 7 13) rfl rfl kR (fun _ _ _ h=>h) (Or.inl ⟨by rfl,?_⟩) hHeld ?_ ?_;rotate_left
 ·rintro w' ⟨s0,s1⟩
  go_simp
  with_reducible rfl
 rotate_left
 ·simp only [Act.put,sA,sZ,sS,dl,dG];rfl
 refine k8 (i:=1) (N:=some 7) (mA 7 15) rfl rfl kR (by decide) (fun K hK=>?_);refine gC Tryz.func66 #[.agg #[.int .i64 t23,.slice Ao14 t24.length co14]] ?_
 with_reducible refine (aJ.calls k t23 _ _ t24 t29 _ ?side1 ?side2 A3.out).mono ?_
 (case side1=>exact qc (Kd.aj HO27.out).2.2)
 (case side2=>exact (Kd.aj HO27.out).2.1)
 rintro e w17 ⟨v30,rfl,ho0,hb⟩
 refine ⟨_,rfl,?_⟩;replace HO27:=aM (Kd.aG (qra HO27.out) hb);have HO31:=aM (Kd.bg ho0 (au bw));replace BK21:=aM (bB BK21.out hb);replace BK22:=aM (bB BK22.out hb);replace BK28:=aM (bB BK28.out hb);replace HB:=aM (ae bw hb);(try clear hb)
 (try clear hk)
 (try clear ho0)
 refine hK.out _ _ ⟨(ai BK28.out 0).trans rfl,(ai BK28.out 1).trans rfl⟩ (fun hHeld=>?_);clear hK K;refine nM 7 ?_;refine k8 (i:=4) (N:=some 10) (mA 7 31) rfl rfl kR (by decide) (fun K hK=>?_);refine gC Tryz.func82 #[.int .i64 t23] ?_
 with_reducible refine (bU.calls k t23 t33 _ A4.out).mono ?_
 rintro e w' ⟨rfl,⟨nd,rfl⟩⟩
 refine ⟨_,rfl,?_⟩;obtain ⟨Ao18,co18,eo18⟩:=Kd.aX HO31.out;(first|subst eo18|(injection eo18 with f1_ f2_ f3_;have f4_:=f1_.symm;have f5_:=f3_.symm;clear f1_ f2_ f3_;subst f4_;subst f5_))
 refine hK.out _ _ ⟨(ai BK28.out 0).trans rfl,(ai BK28.out 1).trans rfl⟩ (fun hHeld=>?_);clear hK K;refine nM 10 ?_;refine fB (i:=5) (N:=some 11) (v:=?_) (a':=?_) (mA 7 63) rfl rfl kR (fun _ _ _ h=>h) (Or.inl ⟨by rfl,?_⟩) ?_ ?_;rotate_left
 ·intro w';go_simp
  with_reducible rfl
 rotate_left
 ·simp only [Act.put,sA,sZ,sS,dl,dG];rfl
 refine k8 (i:=6) (N:=none) (mA 7 127) rfl rfl kR (by decide) (fun K hK=>?_);have hs19:w17.cell? ⟨gb22,0,none⟩ = some (.slice none 0 0):=(ai BK22.out 0).trans rfl;have hfs19:=aa BK22.out 0;have hns19_0:=NB21_22.out;have hns19_2:=NB28_22.out;have hms19_0:=NB22_21.out;have hms19_2:=NB22_28.out;have hs20:w17.cell? ⟨gb22,1,none⟩ = some (.int .i64 0):=(ai BK22.out 1).trans rfl;have hfs20:=aa BK22.out 1;have hns20_0:=NB21_22.out;have hns20_2:=NB28_22.out;have hms20_0:=NB22_21.out;have hms20_2:=NB22_28.out;refine gP (w1:=?_) (by rfl) rfl ?_ ?_;rotate_left
 ·go_simp
  rfl
 refine hK.out _ _ ⟨((cell_far (p:=⟨gb22,_,none⟩) NB28_22.out _).trans (((cell_far (p:=⟨gb22,_,none⟩) NB28_22.out _).trans (hHeld.1)))),((cell_far (p:=⟨gb22,_,none⟩) NB28_22.out _).trans (((cell_far (p:=⟨gb22,_,none⟩) NB28_22.out _).trans (hHeld.2))))⟩ (fun hHeld=>?_);clear hK K;refine d9 kR ?_
 try go_wp2
 refine bodyPost_ret (results_cell_row rfl _ _ gb22 69 #[.slice Ao18 t29.length co18,.int .i64 t33] (0,0) _ rfl (by (with_reducible repeat (first|refine ar ?_ _|refine al ?_|refine an ?_ _));refine bp (cs:=#[.slice Ao18 t29.length co18,.int .i64 0]) ?_ 1 _ rfl;(with_reducible repeat (first|refine ar ?_ _|refine al ?_|refine an ?_ _));refine bp (cs:=#[.slice none 0 0,.int .i64 0]) ?_ 0 _ rfl;(with_reducible repeat (first|refine ar ?_ _|refine al ?_|refine an ?_ _));exact BK22.out) Tryz.underlying69 rfl kR) rfl ?_;exact ⟨_,eE,by (with_reducible repeat (first|apply Kd.aN|apply Kd.aK|apply Kd.aE));exact Kd.bf (Kd.da (p:=⟨gb22,1,none⟩) (Kd.da (p:=⟨gb22,0,none⟩) (Kd.cA HO31.out BK22.out (by decide)) (fun _ hk=>hk.2) (.slice Ao18 t29.length co18)) (fun _ hk=>hk.2) (.int .i64 t33)) (fun _ hk=>trivial),by exact bw⟩


mutual
def bD.l0:Nat → (Int → Option (Int × Bool)) → List Int → Int → Int → Int → Option (List Int × Bool)
 | 0,_,_,_,_,_=>none
 | k + 1,x1,x6,x7,x12,x13=>if x13 < x12 then ((x1 x13).bind fun bt2=>(if bt2.2 = true then (if (x6.length:Int) > 0 then (bD.j1 k x1 x6 x7 x13 bt2.1 x12 x13 (decide (bt2.1 < x7))) else (bD.j1 k x1 x6 x7 x13 bt2.1 x12 x13 false)) else (bD.j1 k x1 x6 x7 x13 bt2.1 x12 x13 true))) else (some (x6,decide ((x6.length:Int) > 0)))
def bD.j1:Nat → (Int → Option (Int × Bool)) → List Int → Int → Int → Int → Int → Int → Bool → Option (List Int × Bool)
 | 0,_,_,_,_,_,_,_,_=>none
 | k + 1,x1,x6,x7,x8,x9,x12,x13,x33=>if x33 = true then (bD.l0 k x1 x6 x7 x12 (wrap64 (x13 + 1))) else (if (x6.length:Int) > 0 then (if x9 > x7 then ((some (([]:List Int):List Int)).bind fun y3=>(if y3.length < 17592186044416 then (bD.l0 k x1 (y3 ++ [x8]) x9 x12 (wrap64 (x13 + 1))) else (none))) else (if x6.length < 17592186044416 then (bD.l0 k x1 (x6 ++ [x8]) x9 x12 (wrap64 (x13 + 1))) else (none))) else (if x6.length < 17592186044416 then (bD.l0 k x1 (x6 ++ [x8]) x9 x12 (wrap64 (x13 + 1))) else (none)))
end
def bD.f (k:Nat) (a0:Int) (a1:(Int → Option (Int × Bool))):Option (List Int × Bool):=bD.l0 k a1 (([]:List Int)) 0 a0 0
theorem bD.calls (k:Nat) (a0:Int) (a1:(Int → Option (Int × Bool))) (g1_:Nat) (lb1_:Array Value) (eg1_:∀ (args:Array Value) (w:World),(callFunc g1_ args).run Tryz.prog w = .ok (.enter g1_ args) w) (r1:List Int) (r2:Bool) (w:World) (hp1:∀ (W:World) (b0_:Int) (r0_:Int) (r1_:Bool),a1 b0_ = some (r0_,r1_) → Below w.heap.size w W → Calls Tryz.prog g1_ (#[.int .i64 b0_] ++ lb1_) W fun e w'=>e = .returned (.tuple #[.int .i64 r0_,.bool r1_]) ∧ Below W.heap.size W w') (h:bD.f k a0 a1 = some (r1,r2)) :
  Calls Tryz.prog 45 #[.int .i64 a0,.func (.func g1_) #[] lb1_] w fun e w'=>∃ v0_:Value,e = .returned (.tuple #[v0_,.bool r2]) ∧ Kd.R (Kd.int .i64) 3 w' w.heap.size (fun _=>True) v0_ r1 ∧ Below w.heap.size w w':=by
 have HP1:=aM hp1;clear hp1;have HB:=aM (Below.refl w.heap.size w);have H:(bD.l0 k a1 (([]:List Int)) 0 a0 0) = some (r1,r2):=h;clear h;obtain ⟨y28,hy28⟩:∃ y_:List Int,y_ = (([]:List Int)):=⟨_,rfl⟩;replace H:(bD.l0 k a1 y28 0 a0 0) = some (r1,r2):=yR hy28 H;have Ny28:=aM hy28;clear hy28;have H':=aM H;clear H;go_enter Tryz.func45,Tryz.ntmps45;go_wp2_with (first|((with_reducible refine aC (N:=11) rfl ?_);(try (refine cm (by rfl) ?_;dsimp only));refine Kd.fV (Kd.int .i64) _ 3 ?hg (N:=11) ?hd (xs:=([]:List Int)) (inner:=[]) (ok:=fun _=>True) (okp:=fun _=>True) ?hr ?hp (fun _ hk=>hk) trivial (Below.refl _ _) (Nat.le_refl _) (by simp) ?_;(case hd=>rfl);(case hg=>rfl);(case hr=>first|(go_simp;done)|(go_simp;rfl));(case hp=>exact (dv.none _ _));intro v29 w3 ho4 hb hg_ hnew_;clear hg_ hnew_;(first|rw [← Ny28.out] at ho4|(simp only [Int.reduceToNat] at ho4;rw [← Ny28.out] at ho4));have HO30:=aM (Kd.bg ho4 (au bw));replace HB:=aM (ae bw hb);clear hb ho4))
 go_loopg [6,7,13] k (fun kq v6 v7 v13 w'=>∃ (x6_1:List Int) (x7_1:Int) (x13_1:Int),v7 = .int .i64 x7_1 ∧ v13 = .int .i64 x13_1 ∧ ak (bD.l0 kq a1 x6_1 x7_1 a0 x13_1 = some (r1,r2)) ∧ ak (kq ≤ k) ∧ ak (Kd.R (Kd.int .i64) 3 w' w.heap.size (fun _=>True) v6 x6_1) ∧ ak (Below w.heap.size w w'))
 case atStart=>exact ⟨(y28),(0),(0),qrs,qrs,H',⟨Nat.le_refl _⟩,⟨qra HO30.out⟩,⟨by exact bw⟩⟩
 case round =>
  clear H';obtain ⟨x6_1,x7_1,x13_1,rfl,rfl,HA,HK1,HO_6,HB⟩:=hrel
  cases gk with
  | zero=>exact absurd HA.out (by simp [bD.l0])
  | succ k1 =>
   have H:=HA.out;clear HA;simp only [bD.l0] at H;by_cases c5:x13_1 < a0
   ·rw [if_pos c5] at H;have c5b0:=decide_eq_true c5;clear c5;replace H:=oB H;obtain ⟨⟨t31,t34⟩,A6,H⟩:=H;(try dsimp only at H)
    have HC7:=aM H;clear H;go_upto_region 7 with (first|((with_reducible refine i6 (t:=17) rfl ?_);refine jl (some 19) rfl rfl eg1_ #[.int .i64 x13_1] rfl rfl mq ?_;(with_reducible refine (HP1.out _ x13_1 t31 t34 A6.out ?side1).mono ?_);(case side1=>exact bw);rintro e w8 ⟨rfl,hb⟩;refine ⟨_,rfl,?_⟩;replace HO_6:=aM (Kd.aG (qra HO_6.out) hb);replace HB:=aM (ae bw hb);(try clear hb);(try clear hk)))
    (try simp only [Act.put,sA,sZ,sS])
    go_cut [33] (fun v33 wc=>∃ (kq:Nat) (x33_6:Bool),v33 = .bool x33_6 ∧ ak (bD.j1 kq a1 x6_1 x7_1 x13_1 t31 a0 x13_1 x33_6 = some (r1,r2)) ∧ ak (kq ≤ k1) ∧ ak (Kd.R (Kd.int .i64) 3 wc w.heap.size (fun _=>True) u6 x6_1) ∧ ak (Below w.heap.size w wc))
    case first =>
     have H:=HC7.out;clear HC7;by_cases c9:t34 = true
     ·subst c9;rw [if_pos rfl] at H;by_cases c10:(x6_1.length:Int) > 0
      ·rw [if_pos c10] at H;have c10b0:decide (0 < (x6_1.length:Int)) = true:=decide_eq_true c10;have c10b1:decide (0 < x6_1.length) = true:=decide_eq_true (by omega);clear c10;(first|rw [c10b0]|(simp only [dl,dG];rw [c10b0])|skip)
       have H':=aM H;clear H;obtain ⟨Ao11,co11,eo11⟩:=Kd.aX HO_6.out;subst eo11;go_wp2
       go_meet
       case rel=>exact ⟨_,(decide (t31 < x7_1)),qrs,H',⟨by have:=HK1.out;first|omega|exact Nat.le_refl _⟩,⟨qra HO_6.out⟩,⟨by exact bw⟩⟩
      ·rw [if_neg c10] at H;have c10b0:decide (0 < (x6_1.length:Int)) = false:=decide_eq_false c10;have c10b1:decide (0 < x6_1.length) = false:=decide_eq_false (by omega);clear c10;(first|rw [c10b0]|(simp only [dl,dG];rw [c10b0])|skip)
       have H':=aM H;clear H;obtain ⟨Ao12,co12,eo12⟩:=Kd.aX HO_6.out;subst eo12;go_wp2
       go_meet
       case rel=>exact ⟨_,(false),qrs,H',⟨by have:=HK1.out;first|omega|exact Nat.le_refl _⟩,⟨qra HO_6.out⟩,⟨by exact bw⟩⟩
     ·replace c9:=Bool.eq_false_iff.mpr c9;subst c9;rw [if_neg (show ¬ (false = true) by decide)] at H;have H':=aM H;clear H;go_wp2
      go_meet
      case rel=>exact ⟨_,(true),qrs,H',⟨by have:=HK1.out;first|omega|exact Nat.le_refl _⟩,⟨qra HO_6.out⟩,⟨by exact bw⟩⟩
    case rest =>
     clear HC7;(try clear c5);(try clear c5b0);(try clear c9);(try clear c10);(try clear c10b0);(try clear c10b1)
     obtain ⟨kq,x33_6,rfl,HA,HJ6,HO_6,HB⟩:=hcut
     cases kq with
     | zero=>exact absurd HA.out (by simp [bD.j1])
     | succ kj6 =>
      have H:=HA.out;clear HA;simp only [bD.j1] at H;by_cases c13:x33_6 = true
      ·subst c13;rw [if_pos rfl] at H;have H':=aM H;clear H;go_wp2
       go_roundg kj6
       case measure=>have:=HK1.out;have:=HJ6.out;omega
       case rel=>exact ⟨(x6_1),(x7_1),(wrap64 (x13_1 + 1)),qrs,qrs,H',⟨by have:=HK1.out;have:=HJ6.out;omega⟩,⟨qra HO_6.out⟩,⟨by exact bw⟩⟩
      ·replace c13:=Bool.eq_false_iff.mpr c13;subst c13;rw [if_neg (show ¬ (false = true) by decide)] at H;by_cases c14:(x6_1.length:Int) > 0
       ·rw [if_pos c14] at H;have c14b0:decide (0 < (x6_1.length:Int)) = true:=decide_eq_true c14;have c14b1:decide (0 < x6_1.length) = true:=decide_eq_true (by omega);clear c14;by_cases c15:t31 > x7_1
        ·rw [if_pos c15] at H;have c15b0:decide (x7_1 < t31) = true:=decide_eq_true c15;clear c15;obtain ⟨y35,hy35⟩:∃ y_:List Int,y_ = (([]:List Int)):=⟨_,rfl⟩;replace H:(if y35.length < 17592186044416 then (bD.l0 kj6 a1 (y35 ++ [x13_1]) t31 a0 (wrap64 (x13_1 + 1))) else (none)) = some (r1,r2):=yR hy35 H;have Ny35:=aM hy35;clear hy35;replace H:=iN H;obtain ⟨c16,H⟩:=H;have LMc16:=aM c16;clear c16;obtain ⟨y38,hy38⟩:∃ y_:List Int,y_ = (y35 ++ [x13_1]):=⟨_,rfl⟩;replace H:(bD.l0 kj6 a1 y38 t31 a0 (wrap64 (x13_1 + 1))) = some (r1,r2):=yR hy38 H;have Ny38:=aM hy38;clear hy38;have H':=aM H;clear H;obtain ⟨Ao17,co17,eo17⟩:=Kd.aX HO_6.out;subst eo17;go_wp2_with (first|((with_reducible refine aC (N:=42) rfl ?_);(try (refine cm (by rfl) ?_;dsimp only));refine Kd.fV (Kd.int .i64) _ 3 ?hg (N:=42) ?hd (xs:=([]:List Int)) (inner:=[]) (ok:=fun _=>True) (okp:=fun _=>True) ?hr ?hp (fun _ hk=>hk) trivial (Below.refl _ _) (Nat.le_refl _) (by simp) ?_;(case hd=>rfl);(case hg=>rfl);(case hr=>first|(go_simp;done)|(go_simp;rfl));(case hp=>exact (dv.none _ _));intro v36 w18 ho19 hb hg_ hnew_;clear hg_ hnew_;(first|rw [← Ny35.out] at ho19|(simp only [Int.reduceToNat] at ho19;rw [← Ny35.out] at ho19));have HO37:=aM (Kd.bg (Kd.bj ho19 (Kd.dd (qra HO_6.out))) (au bw));replace HO_6:=aM (Kd.aH (qra HO_6.out) (Kd.bi ho19) hb);replace HB:=aM (ae bw hb);clear hb ho19)|((with_reducible refine cN (b:=.append) (xs:=#[.tmp 43,.tmp 45]) rfl ?_);(try (refine cm (by rfl) ?_;dsimp only));at_builtin;refine Kd.dY (Kd.int .i64) (w0:=w) w.heap.size rfl (.tmp 43) (.tmp 45) 24 3 (.int .i64 0) 8 rfl Tryz.underlying24 fp rfl (by decide) (by omega) v36 y35 x13_1 [.int .i64 x13_1] (fun k_=>some k_ ≠ (.slice Ao17 x6_1.length co17:Value).ownBlock) (fun _=>False) rfl rfl ?aP (fun _ hk=>hk.elim) ?aF ?aO ?aB ?aS ?aL ?_;(case aP=>exact rfl);(case aB=>exact bw);(case aF=>exact (fun k_ hk=>Kd.gm (Kd.dd (qra HO_6.out)) k_ hk));(case aO=>exact (by (with_reducible repeat (first|apply Kd.aN|apply Kd.aK|apply Kd.aE));exact Kd.bf HO37.out (fun _ hk=>hk.2)));(case aS=>exact (au bw));(case aL=>have:=LMc16.out;omega);intro v39 w20 ho hb hg hat;rw [← Ny38.out] at ho;replace HO_6:=aM (Kd.fG (ok:=(fun _=>True)) (qra HO_6.out) hg hat);replace HB:=aM (hb);have HO40:=aM (ho);clear HO37;clear ho hb hg hat))
         go_roundg kj6
         case measure=>have:=HK1.out;have:=HJ6.out;omega
         case rel=>exact ⟨(y38),(t31),(wrap64 (x13_1 + 1)),qrs,qrs,H',⟨by have:=HK1.out;have:=HJ6.out;omega⟩,⟨by (with_reducible repeat (first|apply Kd.aN|apply Kd.aK|apply Kd.aE));exact Kd.bf HO40.out (fun _ hk=>trivial)⟩,⟨by exact bw⟩⟩
        ·rw [if_neg c15] at H;have c15b0:decide (x7_1 < t31) = false:=decide_eq_false c15;clear c15;replace H:=iN H;obtain ⟨c21,H⟩:=H;have LMc21:=aM c21;clear c21;obtain ⟨y41,hy41⟩:∃ y_:List Int,y_ = (x6_1 ++ [x13_1]):=⟨_,rfl⟩;replace H:(bD.l0 kj6 a1 y41 t31 a0 (wrap64 (x13_1 + 1))) = some (r1,r2):=yR hy41 H;have Ny41:=aM hy41;clear hy41;have H':=aM H;clear H;obtain ⟨Ao22,co22,eo22⟩:=Kd.aX HO_6.out;subst eo22;go_wp2_with (first|((with_reducible refine cN (b:=.append) (xs:=#[.tmp 43,.tmp 45]) rfl ?_);(try (refine cm (by rfl) ?_;dsimp only));at_builtin;refine Kd.dY (Kd.int .i64) (w0:=w) w.heap.size rfl (.tmp 43) (.tmp 45) 24 3 (.int .i64 0) 8 rfl Tryz.underlying24 fp rfl (by decide) (by omega) (.slice Ao22 x6_1.length co22) x6_1 x13_1 [.int .i64 x13_1] (fun _=>True) (fun _=>False) rfl rfl ?aP (fun _ hk=>hk.elim) ?aF ?aO ?aB ?aS ?aL ?_;(case aP=>exact rfl);(case aB=>exact bw);(case aF=>exact (fun _ _=>trivial));(case aO=>exact (qra HO_6.out));(case aS=>exact (au bw));(case aL=>have:=LMc21.out;omega);intro v42 w23 ho hb hg hat;rw [← Ny41.out] at ho;replace HB:=aM (hb);have HO43:=aM (ho);clear HO_6;clear ho hb hg hat))
         go_roundg kj6
         case measure=>have:=HK1.out;have:=HJ6.out;omega
         case rel=>exact ⟨(y41),(t31),(wrap64 (x13_1 + 1)),qrs,qrs,H',⟨by have:=HK1.out;have:=HJ6.out;omega⟩,⟨qra HO43.out⟩,⟨by exact bw⟩⟩
       ·rw [if_neg c14] at H;have c14b0:decide (0 < (x6_1.length:Int)) = false:=decide_eq_false c14;have c14b1:decide (0 < x6_1.length) = false:=decide_eq_false (by omega);clear c14;replace H:=iN H;obtain ⟨c24,H⟩:=H;have LMc24:=aM c24;clear c24;obtain ⟨y44,hy44⟩:∃ y_:List Int,y_ = (x6_1 ++ [x13_1]):=⟨_,rfl⟩;replace H:(bD.l0 kj6 a1 y44 t31 a0 (wrap64 (x13_1 + 1))) = some (r1,r2):=yR hy44 H;have Ny44:=aM hy44;clear hy44;have H':=aM H;clear H;obtain ⟨Ao25,co25,eo25⟩:=Kd.aX HO_6.out;subst eo25;go_wp2_with (first|((with_reducible refine cN (b:=.append) (xs:=#[.tmp 43,.tmp 45]) rfl ?_);(try (refine cm (by rfl) ?_;dsimp only));at_builtin;refine Kd.dY (Kd.int .i64) (w0:=w) w.heap.size rfl (.tmp 43) (.tmp 45) 24 3 (.int .i64 0) 8 rfl Tryz.underlying24 fp rfl (by decide) (by omega) (.slice Ao25 x6_1.length co25) x6_1 x13_1 [.int .i64 x13_1] (fun _=>True) (fun _=>False) rfl rfl ?aP (fun _ hk=>hk.elim) ?aF ?aO ?aB ?aS ?aL ?_;(case aP=>exact rfl);(case aB=>exact bw);(case aF=>exact (fun _ _=>trivial));(case aO=>exact (qra HO_6.out));(case aS=>exact (au bw));(case aL=>have:=LMc24.out;omega);intro v46 w26 ho hb hg hat;rw [← Ny44.out] at ho;replace HB:=aM (hb);have HO47:=aM (ho);clear HO_6;clear ho hb hg hat))
        go_roundg kj6
        case measure=>have:=HK1.out;have:=HJ6.out;omega
        case rel=>exact ⟨(y44),(t31),(wrap64 (x13_1 + 1)),qrs,qrs,H',⟨by have:=HK1.out;have:=HJ6.out;omega⟩,⟨qra HO47.out⟩,⟨by exact bw⟩⟩
   ·rw [if_neg c5] at H;have c5b0:=decide_eq_false c5;clear c5;simp only [Option.some.injEq,Prod.mk.injEq] at H;obtain ⟨rfl,rfl⟩:=H;obtain ⟨Ao27,co27,eo27⟩:=Kd.aX HO_6.out;subst eo27;go_wp2
    go_ret2
    exact ⟨_,eE,by (with_reducible repeat (first|apply Kd.aN|apply Kd.aK|apply Kd.aE));exact HO_6.out,by exact bw⟩


def bW.l0:Nat → List Int → Int → Int → Int → Option (Int)
 | 0,_,_,_,_=>none
 | k + 1,x0,x1,x7,x8=>if x8 < x7 then (if 0 ≤ x8 then (if x8 < (x0.length:Int) then (if x1 = (rd x0 x8) then (some x8) else (bW.l0 k x0 x1 x7 (wrap64 (x8 + 1)))) else (none)) else (none)) else (some (-1))
def bW.f (k:Nat) (l0:List Int) (a1:Int):Option (Int):=bW.l0 k l0 a1 (l0.length:Int) 0
theorem bW.calls (k:Nat) (A0:Option Addr) (c0:Nat) (l0:List Int) (a1:Int) (r:Int) (w:World) (hr0:Kd.C (Kd.int .i64) w A0 l0.length l0) (hc0:l0.length ≤ c0) (h:bW.f k l0 a1 = some r) :
  Calls Tryz.prog 102 #[.slice A0 l0.length c0,.int .i64 a1] w fun e w'=>e = .returned (.int .i64 r) ∧ bo w w':=by
 have HR0:=aM hr0;have HC0:=aM hc0;clear hr0 hc0;have H:(bW.l0 k l0 a1 (l0.length:Int) 0) = some r:=h;clear h;have H':=aM H;clear H;go_enter Tryz.func102,Tryz.ntmps102;go_wp2
 go_loopg [8] k (fun kq v8 w'=>∃ (x8_1:Int),v8 = .int .i64 x8_1 ∧ ak (bW.l0 kq l0 a1 (l0.length:Int) x8_1 = some r) ∧ ak (kq ≤ k) ∧ bo w w')
 case atStart=>exact ⟨(0),qrs,H',⟨Nat.le_refl _⟩,by repeat (first|exact bo.refl _|apply bo.step)⟩
 case round =>
  clear H';obtain ⟨x8_1,rfl,HA,HK1,⟨m1,rfl⟩⟩:=hrel
  cases gk with
  | zero=>exact absurd HA.out (by simp [bW.l0])
  | succ k1 =>
   have H:=HA.out;clear HA;simp only [bW.l0] at H;by_cases c3:x8_1 < (l0.length:Int)
   ·rw [if_pos c3] at H;have c3b0:=decide_eq_true c3;clear c3;replace H:=iN H;obtain ⟨c4,H⟩:=H;have c4b0:decide (0 ≤ x8_1) = true:=decide_eq_true c4;clear c4;replace H:=iN H;obtain ⟨c5,H⟩:=H;have c5b0:decide (x8_1 < (l0.length:Int)) = true:=decide_eq_true c5;clear c5;by_cases c6:a1 = (rd l0 x8_1)
    ·rw [if_pos c6] at H;have c6b0:(a1 == (rd l0 x8_1)) = true:=beq_iff_eq.mpr c6;have c6b1:(a1 != (rd l0 x8_1)) = false:=bne_eq_false_iff_eq.mpr c6;clear c6;obtain rfl:=Option.some.inj H;have p7:0 ≤ (x8_1:Int):=of_decide_eq_true ab;have q7:x8_1 < (l0.length:Int):=of_decide_eq_true ab;obtain ⟨ad7,e7,hx7_0⟩:=Kd.bK HR0.out x8_1 p7 q7;cases e7
     replace p7:=eq_true p7;replace q7:=eq_true q7;go_wp2
     go_ret
     exact ⟨qrs,dR⟩
    ·rw [if_neg c6] at H;have c6b0:(a1 == (rd l0 x8_1)) = false:=beq_eq_false_iff_ne.mpr c6;have c6b1:(a1 != (rd l0 x8_1)) = true:=bne_iff_ne.mpr c6;have H':=aM H;clear H;have p7:0 ≤ (x8_1:Int):=of_decide_eq_true ab;have q7:x8_1 < (l0.length:Int):=of_decide_eq_true ab;obtain ⟨ad7,e7,hx7_0⟩:=Kd.bK HR0.out x8_1 p7 q7;cases e7
     replace p7:=eq_true p7;replace q7:=eq_true q7;go_wp2
     go_roundg k1
     case measure=>have:=HK1.out;omega
     case rel=>exact ⟨(wrap64 (x8_1 + 1)),qrs,H',⟨by have:=HK1.out;omega⟩,by repeat (first|exact bo.refl _|apply bo.step)⟩
   ·rw [if_neg c3] at H;have c3b0:=decide_eq_false c3;clear c3;obtain rfl:=Option.some.inj H;go_wp2
    go_ret
    exact ⟨qrs,dR⟩


def cM.f (k:Nat) (l0:List Int) (a1:Int):Option (Bool):=(bW.f k l0 a1).bind fun t2=>(some (decide (t2 ≥ 0)))
theorem cM.calls (k:Nat) (A0:Option Addr) (c0:Nat) (l0:List Int) (a1:Int) (r:Bool) (w:World) (hr0:Kd.C (Kd.int .i64) w A0 l0.length l0) (hc0:l0.length ≤ c0) (h:cM.f k l0 a1 = some r) :
  Calls Tryz.prog 83 #[.slice A0 l0.length c0,.int .i64 a1] w fun e w'=>e = .returned (.bool r) ∧ bo w w':=by
 have HR0:=aM hr0;have HC0:=aM hc0;clear hr0 hc0;have H:((bW.f k l0 a1).bind fun t4=>(some (decide (t4 ≥ 0)))) = some r:=h;clear h;replace H:=oB H;obtain ⟨t4,A3,H⟩:=H;(try dsimp only at H)
 obtain rfl:=Option.some.inj H;go_enter Tryz.func83,Tryz.ntmps83;go_wp2_with (first|((with_reducible refine ah (f:=102) rfl ?_);refine gL 7 Tryz.func102 #[.slice A0 l0.length c0,.int .i64 a1] ?_;(with_reducible refine (bW.calls k _ _ l0 a1 t4 _ ?side1 ?side2 A3.out).mono ?_);(case side1=>exact qc HR0.out);(case side2=>exact HC0.out);rintro e w' ⟨rfl,⟨nd,rfl⟩⟩;refine ⟨_,rfl,?_⟩))
 go_ret
 exact ⟨qrs,dR⟩

end Go.Proofs.YtjeneincnndcoaaGreat.P
