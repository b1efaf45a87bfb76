/- Part 3 of the texts below the law FnChambersAgreeOfAll. Printed by this session's driver over the kit's printer, but for the hand contracts and the plain laws. -/
import Derived.Test.YthipiojpoklpgaaGreatCFnChambersAgreeOfAll1
import Derived.Test.YthipiojpoklpgaaGreatCFnChambersAgreeOfAll2
set_option linter.unusedVariables false
set_option linter.unusedSimpArgs false
set_option maxHeartbeats 8000000
set_option maxRecDepth 100000
namespace Go.Proofs.YthipiojpoklpgaaGreat.P
open Go.RowKit Go.Proofs.YthipiojpoklpgaaGreatW.PrintWords Go.Proofs.YthipiojpoklpgaaGreatW.PrintLast Go.Proofs.YthipiojpoklpgaaGreatW.PrintMore
attribute [local go_sem] ja jg jS jQ iy iC jq ji   -- for this text's walks alone
set_option linter.unusedVariables false
set_option linter.unusedSimpArgs false

def cF.f (k:Nat) (a0_0:Int) (l0_1:List (List Int)):Option (Int × List Bool):=(cO.f k a0_0 l0_1).bind fun bt2=>(some (bt2.1,bt2.2))
theorem cF.calls (k:Nat) (a0_0:Int) (A0_1:Option Addr) (c0_1:Nat) (l0_1:List (List Int)) (r1:Int) (r2:List Bool) (w:World) (hr0_1:Kd.C (Kd.slice 3 (Kd.int .i64)) w A0_1 l0_1.length l0_1) (hc0_1:l0_1.length ≤ c0_1) (h:cF.f k a0_0 l0_1 = some (r1,r2)) :
  Calls Tryz.prog 55 #[.agg #[.int .i64 a0_0,.slice A0_1 l0_1.length c0_1]] w fun e w'=>∃ v1_:Value,e = .returned (.agg #[.int .i64 r1,v1_]) ∧ Kd.R Kd.bool 4 w' w.heap.size (fun _=>True) v1_ r2 ∧ Below w.heap.size w w':=by
 have hu30:=Tryz.underlying30;have hu56:=Tryz.underlying56;have HR0_1:=aM hr0_1;have HC0_1:=aM hc0_1;clear hr0_1 hc0_1;have HB:=aM (Below.refl w.heap.size w);have H:((cO.f k a0_0 l0_1).bind fun bt12=>(some (bt12.1,bt12.2))) = some (r1,r2):=h;clear h;replace H:=oB H;obtain ⟨⟨t12,t13⟩,A2,H⟩:=H;(try dsimp only at H)
 simp only [Option.some.injEq,Prod.mk.injEq] at H;obtain ⟨rfl,rfl⟩:=H;go_enter Tryz.func55,Tryz.ntmps55;go_wp2_with (first|((with_reducible refine aC (N:=1) rfl ?_);refine bE 1 #[.int .i64 a0_0,.slice A0_1 l0_1.length c0_1] 30 ?_;intro gb10 hg w3 hbox hb;have BK10:=aM (hbox);have GW10:=aM (gS hg);have GE10:=aM (gS hg);replace HB:=aM (ag bw hb);clear hb hbox hg)|((with_reducible refine aC (N:=2) rfl ?_);refine bE 2 #[.int .i64 0,.slice none 0 0] 56 ?_;intro gb11 hg w4 hbox hb;have BK11:=aM (hbox);have GW11:=aM (gS hg);have GE11:=aM (gS hg);replace HB:=aM (ag bw hb);have NB10_11:=aM (nL BK10.out hg);have NB11_10:=aM (nR BK10.out hg);replace BK10:=aM (bB BK10.out hb);clear hb hbox hg;have hnb5:=NB10_11.out;have hnc5:=NB11_10.out;have hcz6_0:=cz BK10.out 0;have hcz6_1:=cz BK10.out 1;have hfz6_0:=af BK10.out 0;have hfz6_1:=af BK10.out 1)|((with_reducible refine ai (f:=83) rfl ?_);refine gL 7 Tryz.func83 #[.int .i64 a0_0,.slice A0_1 l0_1.length c0_1] ?_;(with_reducible refine (cO.calls k a0_0 _ _ l0_1 t12 t13 _ ?side1 ?side2 A2.out).mono ?_);(case side1=>exact qcs HR0_1.out HB.out);(case side2=>exact HC0_1.out);rintro e w7 ⟨v14,rfl,ho0,hb⟩;refine ⟨_,rfl,?_⟩;have HO15:=aM (Kd.cr ho0 (av bw));replace BK10:=aM (bB BK10.out hb);replace BK11:=aM (bB BK11.out hb);replace HB:=aM (ag bw hb);(try clear hb);(try clear ho0);have hcz8_0:=cz BK11.out 0;have hcz8_1:=cz BK11.out 1;have hfz8_0:=af BK11.out 0;have hfz8_1:=af BK11.out 1;obtain ⟨Ao9,co9,eo9⟩:=Kd.b5 HO15.out;subst eo9))
 refine bodyPost_ret (results_cell_row rfl _ _ gb11 56 #[.int .i64 t12,.slice Ao9 t13.length co9] (0,0) _ rfl (by (with_reducible repeat (first|refine ax ?_ _|refine an ?_|refine au ?_ _));refine bI (cs:=#[.int .i64 t12,.slice none 0 0]) ?_ 1 _ rfl;(with_reducible repeat (first|refine ax ?_ _|refine an ?_|refine au ?_ _));refine bI (cs:=#[.int .i64 0,.slice none 0 0]) ?_ 0 _ rfl;(with_reducible repeat (first|refine ax ?_ _|refine an ?_|refine au ?_ _));exact BK11.out) Tryz.underlying56 rfl kR) rfl ?_;exact ⟨_,eE,by (with_reducible repeat (first|apply Kd.ca|apply Kd.b7|apply Kd.cu));exact Kd.cG (Kd.gm (p:=⟨gb11,1,none⟩) (Kd.gm (p:=⟨gb11,0,none⟩) (Kd.dL HO15.out BK11.out (by decide)) (fun _ hk=>hk.2) (.int .i64 t12)) (fun _ hk=>hk.2) (.slice Ao9 t13.length co9)) (fun _ hk=>trivial),by exact bw⟩


def cB.j0:Nat → List Int → Bool → Int → List (List Int) → Option (Bool × Bool)
 | 0,_,_,_,_=>none
 | k + 1,x1,x15,x4,x5=>if x15 = true then (some (false,false)) else ((cF.f k x4 x5).bind fun bt2=>((bK.f k x1).bind fun t3=>(if 0 ≤ t3 then (if t3 < (bt2.2.length:Int) then (some (dE false bt2.2 t3,true)) else (none)) else (none))))
def cB.f (k:Nat) (a0_0:Int) (l0_1:List (List Int)) (l1:List Int):Option (Bool × Bool):=(aK.f k a0_0 l0_1).bind fun t2=>(if t2 = true then ((dq.f k l1 a0_0).bind fun t3=>(cB.j0 k l1 (!t3) a0_0 l0_1)) else (cB.j0 k l1 true a0_0 l0_1))
theorem cB.calls (k:Nat) (a0_0:Int) (A0_1:Option Addr) (c0_1:Nat) (l0_1:List (List Int)) (A1:Option Addr) (c1:Nat) (l1:List Int) (r1:Bool) (r2:Bool) (w:World) (hr0_1:Kd.C (Kd.slice 3 (Kd.int .i64)) w A0_1 l0_1.length l0_1) (hc0_1:l0_1.length ≤ c0_1) (hr1:Kd.C (Kd.int .i64) w A1 l1.length l1) (hc1:l1.length ≤ c1) (h:cB.f k a0_0 l0_1 l1 = some (r1,r2)) :
  Calls Tryz.prog 21 #[.agg #[.int .i64 a0_0,.slice A0_1 l0_1.length c0_1],.slice A1 l1.length c1] w fun e w'=>e = .returned (.tuple #[.bool r1,.bool r2]) ∧ Below w.heap.size w w':=by
 have hfd56_1:∀ (z0_ z1_:Value) (w:World),(Instr.field 56 (.agg #[z0_,z1_]) 1).run Tryz.prog w = .ok z1_ w:=fun z0_ z1_ w=>by kernel_rfl
 have hu30:=Tryz.underlying30;have hu56:=Tryz.underlying56;have HR0_1:=aM hr0_1;have HC0_1:=aM hc0_1;clear hr0_1 hc0_1;have HR1:=aM hr1;have HC1:=aM hc1;clear hr1 hc1;have HB:=aM (Below.refl w.heap.size w);have H:((aK.f k a0_0 l0_1).bind fun t24=>(if t24 = true then ((dq.f k l1 a0_0).bind fun t25=>(cB.j0 k l1 (!t25) a0_0 l0_1)) else (cB.j0 k l1 true a0_0 l0_1))) = some (r1,r2):=h;clear h;have HC3:=aM H;clear H;go_enter Tryz.func21,Tryz.ntmps21;go_upto_region 1 with (first|((with_reducible refine aC (N:=2) rfl ?_);refine bE 2 #[.int .i64 a0_0,.slice A0_1 l0_1.length c0_1] 30 ?_;intro gb23 hg w4 hbox hb;have BK23:=aM (hbox);have GW23:=aM (gS hg);have GE23:=aM (gS hg);replace HB:=aM (ag bw hb);clear hb hbox hg))
 (try simp only [Act.put,sA,sZ,sS])
 go_cut [15] (fun v15 wc=>∃ (kq:Nat) (x15_2:Bool),v15 = .bool x15_2 ∧ aj (cB.j0 kq l1 x15_2 a0_0 l0_1 = some (r1,r2)) ∧ aj (kq ≤ k) ∧ aj (wc.heap[gb23]? = some (.cells #[.int .i64 a0_0,(.slice A0_1 l0_1.length c0_1)] 30 (0,0))) ∧ aj (Below w.heap.size w wc))
 case first =>
  have H:=HC3.out;clear HC3;replace H:=oB H;obtain ⟨t24,A5,H⟩:=H;(try dsimp only at H)
  by_cases c6:t24 = true
  ·subst c6;rw [if_pos rfl] at H;replace H:=oB H;obtain ⟨t25,A7,H⟩:=H;(try dsimp only at H)
   have H':=aM H;clear H;have hcz8_0:=cz BK23.out 0;have hcz8_1:=cz BK23.out 1;have hfz8_0:=af BK23.out 0;have hfz8_1:=af BK23.out 1;go_wp2_with (first|((with_reducible refine ai (f:=22) rfl ?_);refine gL 7 Tryz.func22 #[.agg #[.int .i64 a0_0,.slice A0_1 l0_1.length c0_1]] ?_;(with_reducible refine (aK.calls k a0_0 _ _ l0_1 true _ ?side1 ?side2 A5.out).mono ?_);(case side1=>exact qcs HR0_1.out HB.out);(case side2=>exact HC0_1.out);rintro e w9 ⟨rfl,hb⟩;refine ⟨_,rfl,?_⟩;replace BK23:=aM (bB BK23.out hb);replace HB:=aM (ag bw hb);(try clear hb);have hcz10_0:=cz BK23.out 0;have hcz10_1:=cz BK23.out 1;have hfz10_0:=af BK23.out 0;have hfz10_1:=af BK23.out 1)|(go_at_call 54;(with_reducible refine (dq.calls k _ _ l1 a0_0 t25 _ ?side1 ?side2 A7.out).mono ?_);(case side1=>exact qcs HR1.out HB.out);(case side2=>exact HC1.out);rintro e w11 ⟨rfl,hb⟩;replace BK23:=aM (bB BK23.out hb);replace HB:=aM (ag bw hb);(try clear hb)))
   go_meet
   case rel=>exact ⟨_,(!t25),qrs,H',⟨by first|omega|exact Nat.le_refl _⟩,⟨bk1 BK23.out⟩,⟨by exact bw⟩⟩
  ·replace c6:=Bool.eq_false_iff.mpr c6;subst c6;rw [if_neg (show ¬ (false = true) by decide)] at H;have H':=aM H;clear H;have hcz12_0:=cz BK23.out 0;have hcz12_1:=cz BK23.out 1;have hfz12_0:=af BK23.out 0;have hfz12_1:=af BK23.out 1;go_wp2_with (first|((with_reducible refine ai (f:=22) rfl ?_);refine gL 7 Tryz.func22 #[.agg #[.int .i64 a0_0,.slice A0_1 l0_1.length c0_1]] ?_;(with_reducible refine (aK.calls k a0_0 _ _ l0_1 false _ ?side1 ?side2 A5.out).mono ?_);(case side1=>exact qcs HR0_1.out HB.out);(case side2=>exact HC0_1.out);rintro e w13 ⟨rfl,hb⟩;refine ⟨_,rfl,?_⟩;replace BK23:=aM (bB BK23.out hb);replace HB:=aM (ag bw hb);(try clear hb)))
   go_meet
   case rel=>exact ⟨_,(true),qrs,H',⟨by first|omega|exact Nat.le_refl _⟩,⟨bk1 BK23.out⟩,⟨by exact bw⟩⟩
 case rest =>
  clear HC3;(try clear c1);(try clear c6);(try clear hcz10_0);(try clear hcz10_1);(try clear hcz12_0);(try clear hcz12_1);(try clear hcz8_0);(try clear hcz8_1);(try clear hfz10_0);(try clear hfz10_1);(try clear hfz12_0);(try clear hfz12_1);(try clear hfz8_0);(try clear hfz8_1)
  obtain ⟨kq,x15_2,rfl,HA,HJ2,BK23,HB⟩:=hcut
  cases kq with
  | zero=>exact absurd HA.out (by simp [cB.j0])
  | succ kj2 =>
   have H:=HA.out;clear HA;simp only [cB.j0] at H;by_cases c14:x15_2 = true
   ·subst c14;rw [if_pos rfl] at H;simp only [Option.some.injEq,Prod.mk.injEq] at H;obtain ⟨rfl,rfl⟩:=H;go_wp2
    go_ret2
    exact ⟨eE,by exact bw⟩
   ·replace c14:=Bool.eq_false_iff.mpr c14;subst c14;rw [if_neg (show ¬ (false = true) by decide)] at H;replace H:=oB H;obtain ⟨⟨t26,t27⟩,A15,H⟩:=H;(try dsimp only at H)
    replace H:=oB H;obtain ⟨t31,A16,H⟩:=H;(try dsimp only at H)
    replace H:=iN H;obtain ⟨c17,H⟩:=H;have c17b0:decide (0 ≤ t31) = true:=decide_eq_true c17;clear c17;replace H:=iN H;obtain ⟨c18,H⟩:=H;have c18b0:decide (t31 < (t27.length:Int)) = true:=decide_eq_true c18;clear c18;simp only [Option.some.injEq,Prod.mk.injEq] at H;obtain ⟨rfl,rfl⟩:=H;have hcz19_0:=cz BK23.out 0;have hcz19_1:=cz BK23.out 1;have hfz19_0:=af BK23.out 0;have hfz19_1:=af BK23.out 1;go_wp2_with (first|((with_reducible refine ai (f:=55) rfl ?_);refine gL 17 Tryz.func55 #[.agg #[.int .i64 a0_0,.slice A0_1 l0_1.length c0_1]] ?_;(with_reducible refine (cF.calls kj2 a0_0 _ _ l0_1 t26 t27 _ ?side1 ?side2 A15.out).mono ?_);(case side1=>exact qcs HR0_1.out HB.out);(case side2=>exact HC0_1.out);rintro e w20 ⟨v28,rfl,ho0,hb⟩;refine ⟨_,rfl,?_⟩;have HO29:=aM (Kd.cr ho0 (av bw));replace BK23:=aM (bB BK23.out hb);replace HB:=aM (ag bw hb);(try clear hb);(try clear ho0))|((with_reducible refine ai (f:=53) rfl ?_);refine gL 20 Tryz.func53 #[.slice A1 l1.length c1] ?_;(with_reducible refine (bK.calls kj2 _ _ l1 t31 _ ?side1 ?side2 A16.out).mono ?_);(case side1=>exact qcs HR1.out HB.out);(case side2=>exact HC1.out);rintro e w' ⟨rfl,⟨nd,rfl⟩⟩;refine ⟨_,rfl,?_⟩;obtain ⟨Ao21,co21,eo21⟩:=Kd.b5 HO29.out;subst eo21;have p32:0 ≤ (t31:Int):=of_decide_eq_true ab;have q32:t31 < (t27.length:Int):=of_decide_eq_true ab;obtain ⟨ad32,e32,hx32_0⟩:=Kd.b8 (Kd.aI HO29.out).2.2 t31 p32 q32;cases e32;replace p32:=eq_true p32;replace q32:=eq_true q32))
    go_ret2
    exact ⟨eE,by exact bw⟩


def dt.l0:Nat → Int → List Int → Int → Int → Option (Bool)
 | 0,_,_,_,_=>none
 | k + 1,x1,x7,x8,x9=>if x9 < x8 then (if 0 ≤ x9 then (if x9 < (x7.length:Int) then (if (rd x7 x9) = x1 then (some true) else (dt.l0 k x1 x7 x8 (wrap64 (x9 + 1)))) else (none)) else (none)) else (some false)
def dt.f (k:Nat) (l0:List Int) (a1:Int):Option (Bool):=dt.l0 k a1 l0 (l0.length:Int) 0
theorem dt.calls (k:Nat) (A0:Option Addr) (c0:Nat) (l0:List Int) (a1:Int) (r:Bool) (w:World) (hr0:Kd.C (Kd.int .i64) w A0 l0.length l0) (hc0:l0.length ≤ c0) (h:dt.f k l0 a1 = some r) :
  Calls Tryz.prog 23 #[.slice A0 l0.length c0,.int .i64 a1] w fun e w'=>e = .returned (.bool r) ∧ bi w w':=by
 have HR0:=aM hr0;have HC0:=aM hc0;clear hr0 hc0;have H:(dt.l0 k a1 l0 (l0.length:Int) 0) = some r:=h;clear h;have H':=aM H;clear H;go_enter Tryz.func23,Tryz.ntmps23;go_wp2
 go_loopg [9] k (fun kq v9 w'=>∃ (x9_1:Int),v9 = .int .i64 x9_1 ∧ aj (dt.l0 kq a1 l0 (l0.length:Int) x9_1 = some r) ∧ aj (kq ≤ k) ∧ bi w w')
 case atStart=>exact ⟨(0),qrs,H',⟨Nat.le_refl _⟩,by repeat (first|exact bi.refl _|apply bi.step)⟩
 case round =>
  clear H';obtain ⟨x9_1,rfl,HA,HK1,⟨m1,rfl⟩⟩:=hrel
  cases gk with
  | zero=>exact absurd HA.out (by simp [dt.l0])
  | succ k1 =>
   have H:=HA.out;clear HA;simp only [dt.l0] at H;by_cases c3:x9_1 < (l0.length:Int)
   ·rw [if_pos c3] at H;have c3b0:=decide_eq_true c3;clear c3;replace H:=iN H;obtain ⟨c4,H⟩:=H;have c4b0:decide (0 ≤ x9_1) = true:=decide_eq_true c4;clear c4;replace H:=iN H;obtain ⟨c5,H⟩:=H;have c5b0:decide (x9_1 < (l0.length:Int)) = true:=decide_eq_true c5;clear c5;by_cases c6:(rd l0 x9_1) = a1
    ·rw [if_pos c6] at H;have c6b0:((rd l0 x9_1) == a1) = true:=beq_iff_eq.mpr c6;have c6b1:((rd l0 x9_1) != a1) = false:=bne_eq_false_iff_eq.mpr c6;clear c6;obtain rfl:=Option.some.inj H;have p7:0 ≤ (x9_1:Int):=of_decide_eq_true ab;have q7:x9_1 < (l0.length:Int):=of_decide_eq_true ab;obtain ⟨ad7,e7,hx7_0⟩:=Kd.dI HR0.out x9_1 p7 q7;cases e7
     replace p7:=eq_true p7;replace q7:=eq_true q7;go_wp2
     go_ret
     exact ⟨qrs,dR⟩
    ·rw [if_neg c6] at H;have c6b0:((rd l0 x9_1) == a1) = false:=beq_eq_false_iff_ne.mpr c6;have c6b1:((rd l0 x9_1) != a1) = true:=bne_iff_ne.mpr c6;have H':=aM H;clear H;have p7:0 ≤ (x9_1:Int):=of_decide_eq_true ab;have q7:x9_1 < (l0.length:Int):=of_decide_eq_true ab;obtain ⟨ad7,e7,hx7_0⟩:=Kd.dI HR0.out x9_1 p7 q7;cases e7
     replace p7:=eq_true p7;replace q7:=eq_true q7;go_wp2
     go_roundg k1
     case measure=>have:=HK1.out;omega
     case rel=>exact ⟨(wrap64 (x9_1 + 1)),qrs,H',⟨by have:=HK1.out;omega⟩,by repeat (first|exact bi.refl _|apply bi.step)⟩
   ·rw [if_neg c3] at H;have c3b0:=decide_eq_false c3;clear c3;obtain rfl:=Option.some.inj H;go_wp2
    go_ret
    exact ⟨qrs,dR⟩


def cP.f (l0 : List Int) : Option (List Int) := if l0.length < 17592186044416 then some l0 else none
theorem cP.calls (A0 : Option Addr) (c0 : Nat) (l0 : List Int) (r : List Int) (w : World) (hr0 : Kd.C (Kd.int .i64) w A0 l0.length l0) (hc0 : l0.length ≤ c0) (h : cP.f l0 = some r) :
    Calls Tryz.prog 59 #[.slice A0 l0.length c0] w fun e w' => ∃ v0_ : Value, e = .returned (v0_) ∧ Kd.R (Kd.int .i64) 3 w' w.heap.size (fun _ => True) v0_ r ∧ Below w.heap.size w w' := by
  have hq_ : ∀ (w : World) (a : Option Addr) (n c n' c' : Nat), (binOp .eql 23 (.slice a n c) (.slice none n' c')).run Tryz.prog w = .ok (.bool a.isNone) w := fun w a n c n' c' => Lib.run_eql_slice_nil w _ _ a n c n' c' Tryz.underlying23
  unfold cP.f at h
  by_cases c2 : l0.length < 17592186044416
  · rw [if_pos c2] at h
    obtain rfl := Option.some.inj h
    clear h
    cases A0 with
    | none =>
      obtain rfl : l0 = [] := by
        cases l0 with
        | nil => rfl
        | cons x l => obtain ⟨_, h2⟩ := hr0.2.2 (by simp); simp at h2
      go_enter Tryz.func59, Tryz.ntmps59
      go_wp2
      go_ret
      exact ⟨_, rfl, Kd.gx _ _ _ _ _, Below.refl _ _⟩
    | some ad =>
      have HR0 := aj.mk hr0
      have LMc2 := aj.mk c2
      clear hr0 hc0 c2
      have HB := aj.mk (Below.refl w.heap.size w)
      go_enter Tryz.func59, Tryz.ntmps59
      go_wp2_with (first | ((with_reducible refine aC (N := 5) rfl ?_); refine Kd.lC (Kd.int .i64) _ 3 ?hg (N := 5) ?hd (xs := ([] : List Int)) (inner := []) (ok := fun _ => True) (okp := fun _ => True) ?hr ?hp (fun _ hk => hk) trivial (Below.refl _ _) (Nat.le_refl _) (by simp) ?_; (case hd => rfl); (case hg => rfl); (case hr => first | (go_simp; done) | (go_simp; rfl)); (case hp => exact (eH.none _ _)); intro v223 w3 ho4 hb hg_ hnew_; clear hg_ hnew_; have n0_ := aj.mk (Kd.cr ho4 (av (by repeat (first | (with_reducible first | exact HB.out | apply cg | apply bN | apply bg) | exact HB.out)))); have n1_ := aj.mk (ag (by repeat (first | (with_reducible first | exact HB.out | apply cg | apply bN | apply bg) | exact HB.out)) hb); clear HB; have HO224 := n0_; have HB := n1_; clear n0_ n1_; clear hb ho4) | ((with_reducible refine dr (b := .append) (xs := #[.tmp 5, .tmp 6]) rfl ?_); at_builtin; refine Kd.fP (Kd.int .i64) (w0 := w) w.heap.size rfl (.tmp 5) (.tmp 6) 23 3 (.int .i64 0) 8 rfl Tryz.underlying23 kQ rfl (by decide) (by omega) v223 [] l0 _ _ _ (fun _ => True) (fun _ => False) rfl rfl ?aO ?aR (fun _ _ h => h) (fun _ h => h.elim) ?aF ?aB ?aS ?aL ?_; (case aR => repeat (first | exact (Kd.cA HR0.out HB.out) | (with_reducible refine Kd.eI ?_ _) | (with_reducible refine Kd.eJ ?_ _) | (with_reducible refine Kd.fB ?_))); (case aB => exact (by repeat (first | (with_reducible first | exact HB.out | apply cg | apply bN | apply bg) | exact HB.out))); (case aF => exact (fun _ _ => trivial)); (case aO => exact (by (with_reducible repeat (first | apply Kd.ca | apply Kd.b7 | apply Kd.cu)); exact HO224.out)); (case aS => exact (av (by repeat (first | (with_reducible first | exact HB.out | apply cg | apply bN | apply bg) | exact HB.out)))); (case aL => have := LMc2.out; simp only [List.length_nil, Nat.zero_add]; omega); intro v226 w5 ho hb hg hat; rw [List.nil_append] at ho; have n0_ := aj.mk (hb); have n1_ := aj.mk (ho); clear HB; clear HO224; have HB := n0_; have HO227 := n1_; clear n0_ n1_; clear ho hb hg hat))
      go_ret
      exact ⟨_, by first | rfl | (simp [cV, cX] <;> rfl), by (with_reducible repeat (first | apply Kd.ca | apply Kd.b7 | apply Kd.cu)); exact HO227.out, by repeat (first | (with_reducible first | exact HB.out | apply cg | apply bN | apply bg) | exact HB.out)⟩
  · rw [if_neg c2] at h
    exact absurd h (by simp)


def bZ.f (k:Nat) (a0_0:Int) (l0_1:List Int):Option (Int × List Int × Bool):=(aH.f k a0_0 l0_1).bind fun t2=>(if t2 = true then ((dl.f k l0_1).bind fun t3=>((cP.f l0_1).bind fun t4=>(some (wrap64 ((wrap64 (t3 - a0_0)) + 1),t4,true)))) else (some (0,([]:List Int),false)))
def bZ.T3:Bool × List (List Nat × List Nat):=(true,[([],[]),([0],[0]),([1],[1]),([],[]),([3],[3]),([2,4],[2,4]),([5],[5]),([],[]),([7],[7]),([8,2],[8]),([6,9],[6,9]),([10,9,0,1,2,3,4,5,6,7,8,9,10],[10]),([11,0,1,2,3,4,5,6,7,8,9,10,11],[])])
def bZ.B3:List Nat:=[0,1,3,0,8,31,63,0,128,391,1023,2047,4095]
theorem bZ.tab3:il .any (opsOf Tryz.f24 3) = bZ.T3:=by kernel_rfl
theorem bZ.bits3:eZ bZ.T3.2 bZ.B3 = true:=by kernel_rfl
theorem bZ.calls (k:Nat) (a0_0:Int) (A0_1:Option Addr) (c0_1:Nat) (l0_1:List Int) (r1:Int) (r2:List Int) (r3:Bool) (w:World) (hr0_1:Kd.C (Kd.int .i64) w A0_1 l0_1.length l0_1) (hc0_1:l0_1.length ≤ c0_1) (h:bZ.f k a0_0 l0_1 = some (r1,r2,r3)) :
  Calls Tryz.prog 24 #[.agg #[.int .i64 a0_0,.slice A0_1 l0_1.length c0_1]] w fun e w'=>∃ v1_:Value,e = .returned (.tuple #[.agg #[.int .i64 r1,v1_],.bool r3]) ∧ Kd.R (Kd.int .i64) 3 w' w.heap.size (fun _=>True) v1_ r2 ∧ Below w.heap.size w w':=by
 have hu25:=Tryz.underlying25;have HR0_1:=aM hr0_1;have HC0_1:=aM hc0_1;clear hr0_1 hc0_1;have HB:=aM (Below.refl w.heap.size w);have H:((aH.f k a0_0 l0_1).bind fun t26=>(if t26 = true then ((dl.f k l0_1).bind fun t27=>((cP.f l0_1).bind fun t28=>(some (wrap64 ((wrap64 (t27 - a0_0)) + 1),t28,true)))) else (some (0,([]:List Int),false)))) = some (r1,r2,r3):=h;clear h;replace H:=oB H;obtain ⟨t26,A2,H⟩:=H;(try dsimp only at H)
 by_cases c3:t26 = true
 ·subst c3;rw [if_pos rfl] at H;replace H:=oB H;obtain ⟨t27,A4,H⟩:=H;(try dsimp only at H)
  replace H:=oB H;obtain ⟨t28,A5,H⟩:=H;(try dsimp only at H)
  simp only [Option.some.injEq,Prod.mk.injEq] at H;obtain ⟨rfl,rfl,rfl⟩:=H;go_enter Tryz.func24,Tryz.ntmps24
  try go_wp2_with (first|((with_reducible refine aC (N:=1) rfl ?_);refine bE 1 #[.int .i64 a0_0,.slice A0_1 l0_1.length c0_1] 25 ?_;intro gb22 hg w6 hbox hb;have BK22:=aM (hbox);have GW22:=aM (gS hg);have GE22:=aM (gS hg);replace HB:=aM (ag bw hb);clear hb hbox hg)|((with_reducible refine aC (N:=2) rfl ?_);refine bE 2 #[.int .i64 0,.slice none 0 0] 25 ?_;intro gb23 hg w7 hbox hb;have BK23:=aM (hbox);have GW23:=aM (gS hg);have GE23:=aM (gS hg);replace HB:=aM (ag bw hb);have NB22_23:=aM (nL BK22.out hg);have NB23_22:=aM (nR BK22.out hg);replace BK22:=aM (bB BK22.out hb);clear hb hbox hg;have hnb8:=NB22_23.out;have hnc8:=NB23_22.out;have hcz9_0:=cz BK22.out 0;have hcz9_1:=cz BK22.out 1;have hfz9_0:=af BK22.out 0;have hfz9_1:=af BK22.out 1)|((with_reducible refine ai (f:=50) rfl ?_);refine gL 5 Tryz.func50 #[.agg #[.int .i64 a0_0,.slice A0_1 l0_1.length c0_1]] ?_;(with_reducible refine (aH.calls k a0_0 _ _ l0_1 true _ ?side1 ?side2 A2.out).mono ?_);(case side1=>exact qcs HR0_1.out HB.out);(case side2=>exact HC0_1.out);rintro e w10 ⟨rfl,hb⟩;refine ⟨_,rfl,?_⟩;replace BK22:=aM (bB BK22.out hb);replace BK23:=aM (bB BK23.out hb);replace HB:=aM (ag bw hb);(try clear hb)))
  replace BK22:=aM (an BK22.out);replace BK23:=aM (an BK23.out);replace HB:=aM (bg HB.out);refine eQ (n:=13) (S:=fun w'=>w'.cell? ⟨gb22,0,none⟩ = some (.int .i64 a0_0) ∧ w'.cell? ⟨gb22,1,none⟩ = some (.slice A0_1 l0_1.length c0_1)) (ds:=[]) (mA 13 0) kR rfl rfl ⟨(aE BK22.out 0).trans rfl,(aE BK22.out 1).trans rfl⟩ (fun hHeld=>?_);refine dx bZ.tab3 bZ.bits3 (fun HT_ HW_=>?_)
  generalize w10.drew = w11 at BK22 BK23 HB hHeld ⊢
  refine pT 0 8 HT_.out ?_;refine pT 3 11 HT_.out ?_;refine pT 7 15 HT_.out ?_;refine pK 1 9 HT_.out HW_.out hHeld ?_;refine pK 4 12 HT_.out HW_.out hHeld ?_;refine pK 8 16 HT_.out HW_.out hHeld ?_;refine oN 2 (some 10) HT_.out fun K hK=>?_
  refine gC Tryz.func58 #[.slice A0_1 l0_1.length c0_1] ?_
  with_reducible refine (dl.calls k _ _ l0_1 t27 _ ?side1 ?side2 A4.out).mono ?_
  (case side1=>exact qcs HR0_1.out HB.out)
  (case side2=>exact HC0_1.out)
  rintro e w' ⟨rfl,⟨nd,rfl⟩⟩
  refine ⟨_,rfl,?_⟩;refine hK.out _ _ ⟨(aE BK22.out 0).trans rfl,(aE BK22.out 1).trans rfl⟩ (fun hHeld=>?_);clear hK K;refine nM 10 ?_;refine pT 5 13 HT_.out ?_;refine pT 6 14 HT_.out ?_;refine oN 9 (some 17) HT_.out fun K hK=>?_
  refine gC Tryz.func59 #[.slice A0_1 l0_1.length c0_1] ?_
  with_reducible refine (cP.calls _ _ l0_1 t28 _ ?side1 ?side2 A5.out).mono ?_
  (case side1=>exact qc (Kd.cA HR0_1.out bw))
  (case side2=>exact HC0_1.out)
  rintro e w12 ⟨v29,rfl,ho0,hb⟩
  refine ⟨_,rfl,?_⟩;have HO30:=aM (Kd.cr ho0 (av bw));replace BK22:=aM (bB BK22.out hb);replace BK23:=aM (bB BK23.out hb);replace HB:=aM (ag bw hb);(try clear hb)
  (try clear ho0)
  obtain ⟨Ao13,co13,eo13⟩:=Kd.b5 HO30.out;(first|subst eo13|(injection eo13 with f1_ f2_ f3_;have f4_:=f1_.symm;have f5_:=f3_.symm;clear f1_ f2_ f3_;subst f4_;subst f5_))
  refine hK.out _ _ ⟨(aE BK22.out 0).trans rfl,(aE BK22.out 1).trans rfl⟩ (fun hHeld=>?_);clear hK K;refine nM 17 ?_;refine pT 10 18 HT_.out ?_;refine oN 11 none HT_.out fun K hK=>?_
  have hs14:w12.cell? ⟨gb23,0,none⟩ = some (.int .i64 0):=(aE BK23.out 0).trans rfl;have hfs14:=af BK23.out 0;have hns14_0:=NB22_23.out;have hms14_0:=NB23_22.out;have hs15:w12.cell? ⟨gb23,1,none⟩ = some (.slice none 0 0):=(aE BK23.out 1).trans rfl;have hfs15:=af BK23.out 1;have hns15_0:=NB22_23.out;have hms15_0:=NB23_22.out;refine ma (w1:=?_) (by rfl) rfl ?_ ?_;rotate_left
  ·go_simp
   rfl
  refine hK.out _ _ ⟨((cell_far (p:=⟨gb23,_,none⟩) NB22_23.out _).trans (((cell_far (p:=⟨gb23,_,none⟩) NB22_23.out _).trans (hHeld.1)))),((cell_far (p:=⟨gb23,_,none⟩) NB22_23.out _).trans (((cell_far (p:=⟨gb23,_,none⟩) NB22_23.out _).trans (hHeld.2))))⟩ (fun hHeld=>?_);clear hK K;refine pT 12 3 HT_.out ?_;refine fK (eA HT_.out kR) ?_
  try go_wp2
  refine bodyPost_ret (dV rfl _ _ gb23 25 #[.int .i64 (wrap64 ((wrap64 (t27 - a0_0)) + 1)),.slice Ao13 t28.length co13] (0,0) _ rfl (by (with_reducible repeat (first|refine ax ?_ _|refine an ?_|refine au ?_ _));refine bI (cs:=#[.int .i64 (wrap64 ((wrap64 (t27 - a0_0)) + 1)),.slice none 0 0]) ?_ 1 _ rfl;(with_reducible repeat (first|refine ax ?_ _|refine an ?_|refine au ?_ _));refine bI (cs:=#[.int .i64 0,.slice none 0 0]) ?_ 0 _ rfl;(with_reducible repeat (first|refine ax ?_ _|refine an ?_|refine au ?_ _));exact BK23.out) Tryz.underlying25 rfl kR) rfl ?_;exact ⟨_,eE,by (with_reducible repeat (first|apply Kd.ca|apply Kd.b7|apply Kd.cu));exact Kd.cG (Kd.gm (p:=⟨gb23,1,none⟩) (Kd.gm (p:=⟨gb23,0,none⟩) (Kd.dL HO30.out BK23.out (by decide)) (fun _ hk=>hk.2) (.int .i64 (wrap64 ((wrap64 (t27 - a0_0)) + 1)))) (fun _ hk=>hk.2) (.slice Ao13 t28.length co13)) (fun _ hk=>trivial),by exact bw⟩
 ·replace c3:=Bool.eq_false_iff.mpr c3;subst c3;rw [if_neg (show ¬ (false = true) by decide)] at H;simp only [Option.some.injEq,Prod.mk.injEq] at H;obtain ⟨rfl,rfl,rfl⟩:=H;go_enter Tryz.func24,Tryz.ntmps24;go_wp2_with (first|((with_reducible refine aC (N:=1) rfl ?_);refine bE 1 #[.int .i64 a0_0,.slice A0_1 l0_1.length c0_1] 25 ?_;intro gb22 hg w16 hbox hb;have BK22:=aM (hbox);have GW22:=aM (gS hg);have GE22:=aM (gS hg);replace HB:=aM (ag bw hb);clear hb hbox hg)|((with_reducible refine aC (N:=2) rfl ?_);refine bE 2 #[.int .i64 0,.slice none 0 0] 25 ?_;intro gb23 hg w17 hbox hb;have BK23:=aM (hbox);have GW23:=aM (gS hg);have GE23:=aM (gS hg);replace HB:=aM (ag bw hb);have NB22_23:=aM (nL BK22.out hg);have NB23_22:=aM (nR BK22.out hg);replace BK22:=aM (bB BK22.out hb);clear hb hbox hg;have hnb18:=NB22_23.out;have hnc18:=NB23_22.out;have hcz19_0:=cz BK22.out 0;have hcz19_1:=cz BK22.out 1;have hfz19_0:=af BK22.out 0;have hfz19_1:=af BK22.out 1)|((with_reducible refine ai (f:=50) rfl ?_);refine gL 5 Tryz.func50 #[.agg #[.int .i64 a0_0,.slice A0_1 l0_1.length c0_1]] ?_;(with_reducible refine (aH.calls k a0_0 _ _ l0_1 false _ ?side1 ?side2 A2.out).mono ?_);(case side1=>exact qcs HR0_1.out HB.out);(case side2=>exact HC0_1.out);rintro e w20 ⟨rfl,hb⟩;refine ⟨_,rfl,?_⟩;replace BK22:=aM (bB BK22.out hb);replace BK23:=aM (bB BK23.out hb);replace HB:=aM (ag bw hb);(try clear hb);(try clear hk);have hcz21_0:=cz BK23.out 0;have hcz21_1:=cz BK23.out 1;have hfz21_0:=af BK23.out 0;have hfz21_1:=af BK23.out 1))
  refine bodyPost_ret (dV rfl _ _ gb23 25 #[.int .i64 0,.slice none 0 0] (0,0) _ rfl (by (with_reducible repeat (first|refine ax ?_ _|refine an ?_|refine au ?_ _));refine bI (cs:=#[.int .i64 0,.slice none 0 0]) ?_ 1 _ rfl;(with_reducible repeat (first|refine ax ?_ _|refine an ?_|refine au ?_ _));refine bI (cs:=#[.int .i64 0,.slice none 0 0]) ?_ 0 _ rfl;(with_reducible repeat (first|refine ax ?_ _|refine an ?_|refine au ?_ _));exact BK23.out) Tryz.underlying25 rfl kR) rfl ?_;exact ⟨_,eE,by first|exact Kd.gx _ _ _ _ _|exact Kd.gQ _ _ _ _ _|exact Kd.gP _ _ _ _ _|exact Kd.gU _ _ _ _ _|exact Kd.gW _ _ _ _ _,by exact bw⟩


def d8.f (a0_0:Int) (l0_1:List Bool):Option (Int):=if 0 ≤ a0_0 then (some (wrap64 ((shl .i64 1 a0_0) - 1))) else (none)
theorem d8.calls (a0_0:Int) (A0_1:Option Addr) (c0_1:Nat) (l0_1:List Bool) (r:Int) (w:World) (hr0_1:Kd.C Kd.bool w A0_1 l0_1.length l0_1) (hc0_1:l0_1.length ≤ c0_1) (h:d8.f a0_0 l0_1 = some r) :
  Calls Tryz.prog 88 #[.agg #[.int .i64 a0_0,.slice A0_1 l0_1.length c0_1]] w fun e w'=>e = .returned (.int .i64 r) ∧ Below w.heap.size w w':=by
 have hu56:=Tryz.underlying56;have HR0_1:=aM hr0_1;have HC0_1:=aM hc0_1;clear hr0_1 hc0_1;have HB:=aM (Below.refl w.heap.size w);have H:(if 0 ≤ a0_0 then (some (wrap64 ((shl .i64 1 a0_0) - 1))) else (none)) = some r:=h;clear h;replace H:=iN H;obtain ⟨c2,H⟩:=H;have c2b0:=eq_true c2;have c2b1:decide (0 ≤ a0_0) = true:=decide_eq_true c2;clear c2;obtain ⟨ji3,hji3⟩:∃ j_:Int,(shl .i64 1 a0_0) = j_:=⟨_,rfl⟩;(first|rw [hji3] at H|simp only [hji3] at H)
 have hji3_:(IntKind.i64.wrap (1 * 2 ^ min a0_0.toNat 64)) = ji3:=hji3;have hji3z:a0_0 ≤ 64 → (IntKind.i64.wrap (1 * 2 ^ a0_0.toNat)) = ji3:=fM hji3;have hji3u:(IntKind.i64.wrap (2 ^ min a0_0.toNat 64)) = ji3:=by have h_:=hji3_;rw [Int.one_mul] at h_;exact h_
 have hji3v:a0_0 ≤ 64 → (IntKind.i64.wrap (2 ^ a0_0.toNat)) = ji3:=fun hle_=>by have h_:=hji3z hle_;rw [Int.one_mul] at h_;exact h_
 have hji3y:(wrap64 (1 * 2 ^ min a0_0.toNat 64)) = ji3:=(cS _).symm.trans hji3_;have hji3x:a0_0 ≤ 64 → (wrap64 (1 * 2 ^ a0_0.toNat)) = ji3:=fun h_=>(cS _).symm.trans (hji3z h_)
 obtain rfl:=Option.some.inj H;go_enter Tryz.func88,Tryz.ntmps88;go_wp2_with (first|((with_reducible refine aC (N:=1) rfl ?_);refine bE 1 #[.int .i64 a0_0,.slice A0_1 l0_1.length c0_1] 56 ?_;intro gb6 hg w4 hbox hb;have BK6:=aM (hbox);have GW6:=aM (gS hg);have GE6:=aM (gS hg);replace HB:=aM (ag bw hb);clear hb hbox hg;have hcz5_0:=cz BK6.out 0;have hcz5_1:=cz BK6.out 1;have hfz5_0:=af BK6.out 0;have hfz5_1:=af BK6.out 1))
 go_ret
 exact ⟨by first|rfl|(simp [cV,cX] <;> rfl)|(simp only [← hji3];first|rfl|(simp [cV,cX] <;> rfl))|(simp [*,cV,cX] <;> rfl),by exact bw⟩


def bU.f (a0:Int) (a1_0:Int) (l1_1:List Bool):Option (Bool):=(d8.f a1_0 l1_1).bind fun t2=>(if 0 ≤ (Go.bits .andNot .i64 t2 a0) then (if (Go.bits .andNot .i64 t2 a0) < (l1_1.length:Int) then (some (!(dE false l1_1 (Go.bits .andNot .i64 t2 a0)))) else (none)) else (none))
def bU.T1:Bool × List (List Nat × List Nat):=(true,[([],[]),([0],[0]),([],[]),([2],[2]),([],[]),([3,4],[3,4]),([1,5],[1,5]),([6],[6]),([7],[7]),([8,3,0,1,2,3,4,5,6,7,8],[8])])
def bU.B1:List Nat:=[0,1,0,4,0,28,63,127,255,511]
theorem bU.mV:il .any (opsOf Tryz.f87 1) = bU.T1:=by kernel_rfl
theorem bU.jJ:eZ bU.T1.2 bU.B1 = true:=by kernel_rfl
theorem bU.calls (a0:Int) (gc1:Nat) (a1_0:Int) (A1_1:Option Addr) (c1_1:Nat) (l1_1:List Bool) (r:Bool) (w:World) (hr1_1:Kd.C Kd.bool w A1_1 l1_1.length l1_1) (hc1_1:l1_1.length ≤ c1_1) (hb1:w.heap[gc1]? = some (.cells #[.int .i64 a1_0,.slice A1_1 l1_1.length c1_1] 56 (0,0))) (h:bU.f a0 a1_0 l1_1 = some r) :
  Calls Tryz.prog 87 #[.int .i64 a0,.pointer (some ⟨gc1,0,none⟩)] w fun e w'=>e = .returned (.bool r) ∧ Below w.heap.size w w':=by
 have hu56:=Tryz.underlying56;have HR1_1:=aM hr1_1;have HC1_1:=aM hc1_1;clear hr1_1 hc1_1;have BK1:=aM hb1;clear hb1;have HB:=aM (Below.refl w.heap.size w);have H:((d8.f a1_0 l1_1).bind fun t8=>(if 0 ≤ (Go.bits .andNot .i64 t8 a0) then (if (Go.bits .andNot .i64 t8 a0) < (l1_1.length:Int) then (some (!(dE false l1_1 (Go.bits .andNot .i64 t8 a0)))) else (none)) else (none))) = some r:=h;clear h;replace H:=oB H;obtain ⟨t8,A3,H⟩:=H;(try dsimp only at H)
 replace H:=iN H;obtain ⟨c4,H⟩:=H;have c4b0:decide (0 ≤ (Go.bits .andNot .i64 t8 a0)) = true:=decide_eq_true c4;clear c4;replace H:=iN H;obtain ⟨c5,H⟩:=H;have c5b0:decide ((Go.bits .andNot .i64 t8 a0) < (l1_1.length:Int)) = true:=decide_eq_true c5;clear c5;obtain rfl:=Option.some.inj H;go_enter Tryz.func87,Tryz.ntmps87
 try go_wp2
 replace BK1:=aM (an BK1.out);replace HB:=aM (bg HB.out);have p9:0 ≤ ((Go.bits .andNot .i64 t8 a0):Int):=of_decide_eq_true ab;have q9:(Go.bits .andNot .i64 t8 a0) < (l1_1.length:Int):=of_decide_eq_true ab;obtain ⟨ad9,e9,hx9_0⟩:=Kd.b8 HR1_1.out (Go.bits .andNot .i64 t8 a0) p9 q9;have hw9_0:=hx9_0;cases e9
 replace hx9_0:=(HB.out.cell (World.block_lt_of_cell? w _ hx9_0)).trans hx9_0;replace p9:=eq_true p9;replace q9:=eq_true q9;refine eQ (n:=10) (S:=fun w'=>w'.cell? ⟨gc1,0,none⟩ = some (.int .i64 a1_0) ∧ w'.cell? ⟨gc1,1,none⟩ = some (.slice (some ad9) l1_1.length c1_1) ∧ w'.cell? (ad9.add ((Go.bits .andNot .i64 t8 a0)).toNat) = some (.bool (dE false l1_1 (Go.bits .andNot .i64 t8 a0)))) (ds:=[]) (mA 10 0) kR rfl rfl ⟨(aE BK1.out 0).trans rfl,(aE BK1.out 1).trans rfl,((HB.out.cell (World.block_lt_of_cell? w _ hw9_0)).trans hw9_0)⟩ (fun hHeld=>?_);refine dx bU.mV bU.jJ (fun HT_ HW_=>?_)
 generalize w.drew = w6 at BK1 HB hx9_0 hHeld ⊢
 refine pT 0 4 HT_.out ?_;refine pT 4 8 HT_.out ?_;refine pK 1 5 HT_.out HW_.out hHeld ?_;refine pK 2 6 HT_.out HW_.out hHeld ?_;refine oN 3 (some 7) HT_.out fun K hK=>?_
 refine gC Tryz.func88 #[.agg #[.int .i64 a1_0,.slice (some ad9) l1_1.length c1_1]] ?_
 with_reducible refine (d8.calls a1_0 _ _ l1_1 t8 _ ?side1 ?side2 A3.out).mono ?_
 (case side1=>exact qcs HR1_1.out HB.out)
 (case side2=>exact HC1_1.out)
 rintro e w7 ⟨rfl,hb⟩
 refine ⟨_,rfl,?_⟩;replace BK1:=aM (bB BK1.out hb);replace HB:=aM (ag bw hb);(try clear hb)
 refine hK.out _ _ ⟨(aE BK1.out 0).trans rfl,(aE BK1.out 1).trans rfl,((HB.out.cell (World.block_lt_of_cell? w _ hw9_0)).trans hw9_0)⟩ (fun hHeld=>?_);clear hK K;refine nM 7 ?_;refine pT 5 9 HT_.out ?_;refine pT 6 10 HT_.out ?_;refine pK 7 11 HT_.out HW_.out hHeld ?_;refine pT 8 12 HT_.out ?_;refine pT 9 3 HT_.out ?_;refine fK (eA HT_.out kR) ?_
 try go_wp2
 go_ret
 exact ⟨eE,by exact bw⟩
theorem bU.enters:∀ (args:Array Value) (w:World),(callFunc 87 args).run Tryz.prog w = .ok (.enter 87 args) w:=enters_of Tryz.func87 kR rfl


def dS.f (k:Nat) (a0_0:Int) (l0_1:List Bool):Option (Int × List Bool):=(bc.f k a0_0 (fun y0_=>bU.f y0_ a0_0 l0_1)).bind fun bt2=>(some (bt2.1,bt2.2))
theorem dS.calls (k:Nat) (a0_0:Int) (A0_1:Option Addr) (c0_1:Nat) (l0_1:List Bool) (r1:Int) (r2:List Bool) (w:World) (hr0_1:Kd.C Kd.bool w A0_1 l0_1.length l0_1) (hc0_1:l0_1.length ≤ c0_1) (h:dS.f k a0_0 l0_1 = some (r1,r2)) :
  Calls Tryz.prog 60 #[.agg #[.int .i64 a0_0,.slice A0_1 l0_1.length c0_1]] w fun e w'=>∃ v1_:Value,e = .returned (.agg #[.int .i64 r1,v1_]) ∧ Kd.R Kd.bool 4 w' w.heap.size (fun _=>True) v1_ r2 ∧ Below w.heap.size w w':=by
 have hmf:∀ (fn:Fn) (first cap:Array Value) (w:World),(Instr.makeFunc fn first cap).run Tryz.prog w = .ok (.func fn first cap) w:=fun _ _ _ _=>rfl
 have hu56:=Tryz.underlying56;have HR0_1:=aM hr0_1;have HC0_1:=aM hc0_1;clear hr0_1 hc0_1;have HB:=aM (Below.refl w.heap.size w);have H:((bc.f k a0_0 (fun y0_=>bU.f y0_ a0_0 l0_1)).bind fun bt12=>(some (bt12.1,bt12.2))) = some (r1,r2):=h;clear h;replace H:=oB H;obtain ⟨⟨t12,t13⟩,A2,H⟩:=H;(try dsimp only at H)
 simp only [Option.some.injEq,Prod.mk.injEq] at H;obtain ⟨rfl,rfl⟩:=H;go_enter Tryz.func60,Tryz.ntmps60;go_wp2_with (first|((with_reducible refine aC (N:=1) rfl ?_);refine bE 1 #[.int .i64 a0_0,.slice A0_1 l0_1.length c0_1] 56 ?_;intro gb10 hg w3 hbox hb;have BK10:=aM (hbox);have GW10:=aM (gS hg);have GE10:=aM (gS hg);replace HB:=aM (ag bw hb);clear hb hbox hg)|((with_reducible refine aC (N:=2) rfl ?_);refine bE 2 #[.int .i64 0,.slice none 0 0] 56 ?_;intro gb11 hg w4 hbox hb;have BK11:=aM (hbox);have GW11:=aM (gS hg);have GE11:=aM (gS hg);replace HB:=aM (ag bw hb);have NB10_11:=aM (nL BK10.out hg);have NB11_10:=aM (nR BK10.out hg);replace BK10:=aM (bB BK10.out hb);clear hb hbox hg;have hnb5:=NB10_11.out;have hnc5:=NB11_10.out;have hcz6_0:=cz BK10.out 0;have hcz6_1:=cz BK10.out 1;have hfz6_0:=af BK10.out 0;have hfz6_1:=af BK10.out 1)|((with_reducible refine ai (f:=62) rfl ?_);refine gL 6 Tryz.func62 #[.int .i64 a0_0,.func (.func 87) #[] #[.pointer (some ⟨gb10,0,none⟩)]] ?_;(with_reducible refine (bc.calls k a0_0 (fun y0_=>bU.f y0_ a0_0 l0_1) 87 #[.pointer (some ⟨gb10,0,none⟩)] bU.enters t12 t13 _ ?side1 A2.out).mono ?_);(case side1=>exact (fun W_ a0_ r0_ hx_ hb_ =>(bU.calls a0_ gb10 a0_0 _ _ l0_1 r0_ W_  (Kd.cA (by repeat (first|exact (Kd.cA HR0_1.out HB.out)|(with_reducible refine Kd.eI ?_ _)|(with_reducible refine Kd.eJ ?_ _)|(with_reducible refine Kd.fB ?_))) hb_) (by exact HC0_1.out) (ej (bk1 BK10.out) hb_) hx_).mono (fun _ _ h_=>h_)));rintro e w7 ⟨v14,rfl,ho0,hb⟩;refine ⟨_,rfl,?_⟩;have HO15:=aM (Kd.cr ho0 (av bw));replace BK10:=aM (bB BK10.out hb);replace BK11:=aM (bB BK11.out hb);replace HB:=aM (ag bw hb);(try clear hb);(try clear ho0);have hcz8_0:=cz BK11.out 0;have hcz8_1:=cz BK11.out 1;have hfz8_0:=af BK11.out 0;have hfz8_1:=af BK11.out 1;obtain ⟨Ao9,co9,eo9⟩:=Kd.b5 HO15.out;subst eo9))
 refine bodyPost_ret (results_cell_row rfl _ _ gb11 56 #[.int .i64 t12,.slice Ao9 t13.length co9] (0,0) _ rfl (by (with_reducible repeat (first|refine ax ?_ _|refine an ?_|refine au ?_ _));refine bI (cs:=#[.int .i64 t12,.slice none 0 0]) ?_ 1 _ rfl;(with_reducible repeat (first|refine ax ?_ _|refine an ?_|refine au ?_ _));refine bI (cs:=#[.int .i64 0,.slice none 0 0]) ?_ 0 _ rfl;(with_reducible repeat (first|refine ax ?_ _|refine an ?_|refine au ?_ _));exact BK11.out) Tryz.underlying56 rfl kR) rfl ?_;exact ⟨_,eE,by (with_reducible repeat (first|apply Kd.ca|apply Kd.b7|apply Kd.cu));exact Kd.cG (Kd.gm (p:=⟨gb11,1,none⟩) (Kd.gm (p:=⟨gb11,0,none⟩) (Kd.dL HO15.out BK11.out (by decide)) (fun _ hk=>hk.2) (.int .i64 t12)) (fun _ hk=>hk.2) (.slice Ao9 t13.length co9)) (fun _ hk=>trivial),by exact bw⟩


def fc.f (a0:Int):Option (Int):=some (Go.bits .and .i64 (wrap64 (IntKind.u64.wrap ((IntKind.u64.wrap ((IntKind.u64.wrap ((Go.bits .and .u64 (IntKind.u64.wrap (((IntKind.u64.wrap ((Go.bits .and .u64 ((IntKind.u64.wrap ((Go.bits .and .u64 (a0 / 2) 6148914691236517205) + (Go.bits .and .u64 a0 6148914691236517205))) / 4) 3689348814741910323) + (Go.bits .and .u64 (IntKind.u64.wrap ((Go.bits .and .u64 (a0 / 2) 6148914691236517205) + (Go.bits .and .u64 a0 6148914691236517205))) 3689348814741910323))) / 16) + (IntKind.u64.wrap ((Go.bits .and .u64 ((IntKind.u64.wrap ((Go.bits .and .u64 (a0 / 2) 6148914691236517205) + (Go.bits .and .u64 a0 6148914691236517205))) / 4) 3689348814741910323) + (Go.bits .and .u64 (IntKind.u64.wrap ((Go.bits .and .u64 (a0 / 2) 6148914691236517205) + (Go.bits .and .u64 a0 6148914691236517205))) 3689348814741910323))))) 1085102592571150095) + ((Go.bits .and .u64 (IntKind.u64.wrap (((IntKind.u64.wrap ((Go.bits .and .u64 ((IntKind.u64.wrap ((Go.bits .and .u64 (a0 / 2) 6148914691236517205) + (Go.bits .and .u64 a0 6148914691236517205))) / 4) 3689348814741910323) + (Go.bits .and .u64 (IntKind.u64.wrap ((Go.bits .and .u64 (a0 / 2) 6148914691236517205) + (Go.bits .and .u64 a0 6148914691236517205))) 3689348814741910323))) / 16) + (IntKind.u64.wrap ((Go.bits .and .u64 ((IntKind.u64.wrap ((Go.bits .and .u64 (a0 / 2) 6148914691236517205) + (Go.bits .and .u64 a0 6148914691236517205))) / 4) 3689348814741910323) + (Go.bits .and .u64 (IntKind.u64.wrap ((Go.bits .and .u64 (a0 / 2) 6148914691236517205) + (Go.bits .and .u64 a0 6148914691236517205))) 3689348814741910323))))) 1085102592571150095) / 256))) + ((IntKind.u64.wrap ((Go.bits .and .u64 (IntKind.u64.wrap (((IntKind.u64.wrap ((Go.bits .and .u64 ((IntKind.u64.wrap ((Go.bits .and .u64 (a0 / 2) 6148914691236517205) + (Go.bits .and .u64 a0 6148914691236517205))) / 4) 3689348814741910323) + (Go.bits .and .u64 (IntKind.u64.wrap ((Go.bits .and .u64 (a0 / 2) 6148914691236517205) + (Go.bits .and .u64 a0 6148914691236517205))) 3689348814741910323))) / 16) + (IntKind.u64.wrap ((Go.bits .and .u64 ((IntKind.u64.wrap ((Go.bits .and .u64 (a0 / 2) 6148914691236517205) + (Go.bits .and .u64 a0 6148914691236517205))) / 4) 3689348814741910323) + (Go.bits .and .u64 (IntKind.u64.wrap ((Go.bits .and .u64 (a0 / 2) 6148914691236517205) + (Go.bits .and .u64 a0 6148914691236517205))) 3689348814741910323))))) 1085102592571150095) + ((Go.bits .and .u64 (IntKind.u64.wrap (((IntKind.u64.wrap ((Go.bits .and .u64 ((IntKind.u64.wrap ((Go.bits .and .u64 (a0 / 2) 6148914691236517205) + (Go.bits .and .u64 a0 6148914691236517205))) / 4) 3689348814741910323) + (Go.bits .and .u64 (IntKind.u64.wrap ((Go.bits .and .u64 (a0 / 2) 6148914691236517205) + (Go.bits .and .u64 a0 6148914691236517205))) 3689348814741910323))) / 16) + (IntKind.u64.wrap ((Go.bits .and .u64 ((IntKind.u64.wrap ((Go.bits .and .u64 (a0 / 2) 6148914691236517205) + (Go.bits .and .u64 a0 6148914691236517205))) / 4) 3689348814741910323) + (Go.bits .and .u64 (IntKind.u64.wrap ((Go.bits .and .u64 (a0 / 2) 6148914691236517205) + (Go.bits .and .u64 a0 6148914691236517205))) 3689348814741910323))))) 1085102592571150095) / 256))) / 65536))) + ((IntKind.u64.wrap ((IntKind.u64.wrap ((Go.bits .and .u64 (IntKind.u64.wrap (((IntKind.u64.wrap ((Go.bits .and .u64 ((IntKind.u64.wrap ((Go.bits .and .u64 (a0 / 2) 6148914691236517205) + (Go.bits .and .u64 a0 6148914691236517205))) / 4) 3689348814741910323) + (Go.bits .and .u64 (IntKind.u64.wrap ((Go.bits .and .u64 (a0 / 2) 6148914691236517205) + (Go.bits .and .u64 a0 6148914691236517205))) 3689348814741910323))) / 16) + (IntKind.u64.wrap ((Go.bits .and .u64 ((IntKind.u64.wrap ((Go.bits .and .u64 (a0 / 2) 6148914691236517205) + (Go.bits .and .u64 a0 6148914691236517205))) / 4) 3689348814741910323) + (Go.bits .and .u64 (IntKind.u64.wrap ((Go.bits .and .u64 (a0 / 2) 6148914691236517205) + (Go.bits .and .u64 a0 6148914691236517205))) 3689348814741910323))))) 1085102592571150095) + ((Go.bits .and .u64 (IntKind.u64.wrap (((IntKind.u64.wrap ((Go.bits .and .u64 ((IntKind.u64.wrap ((Go.bits .and .u64 (a0 / 2) 6148914691236517205) + (Go.bits .and .u64 a0 6148914691236517205))) / 4) 3689348814741910323) + (Go.bits .and .u64 (IntKind.u64.wrap ((Go.bits .and .u64 (a0 / 2) 6148914691236517205) + (Go.bits .and .u64 a0 6148914691236517205))) 3689348814741910323))) / 16) + (IntKind.u64.wrap ((Go.bits .and .u64 ((IntKind.u64.wrap ((Go.bits .and .u64 (a0 / 2) 6148914691236517205) + (Go.bits .and .u64 a0 6148914691236517205))) / 4) 3689348814741910323) + (Go.bits .and .u64 (IntKind.u64.wrap ((Go.bits .and .u64 (a0 / 2) 6148914691236517205) + (Go.bits .and .u64 a0 6148914691236517205))) 3689348814741910323))))) 1085102592571150095) / 256))) + ((IntKind.u64.wrap ((Go.bits .and .u64 (IntKind.u64.wrap (((IntKind.u64.wrap ((Go.bits .and .u64 ((IntKind.u64.wrap ((Go.bits .and .u64 (a0 / 2) 6148914691236517205) + (Go.bits .and .u64 a0 6148914691236517205))) / 4) 3689348814741910323) + (Go.bits .and .u64 (IntKind.u64.wrap ((Go.bits .and .u64 (a0 / 2) 6148914691236517205) + (Go.bits .and .u64 a0 6148914691236517205))) 3689348814741910323))) / 16) + (IntKind.u64.wrap ((Go.bits .and .u64 ((IntKind.u64.wrap ((Go.bits .and .u64 (a0 / 2) 6148914691236517205) + (Go.bits .and .u64 a0 6148914691236517205))) / 4) 3689348814741910323) + (Go.bits .and .u64 (IntKind.u64.wrap ((Go.bits .and .u64 (a0 / 2) 6148914691236517205) + (Go.bits .and .u64 a0 6148914691236517205))) 3689348814741910323))))) 1085102592571150095) + ((Go.bits .and .u64 (IntKind.u64.wrap (((IntKind.u64.wrap ((Go.bits .and .u64 ((IntKind.u64.wrap ((Go.bits .and .u64 (a0 / 2) 6148914691236517205) + (Go.bits .and .u64 a0 6148914691236517205))) / 4) 3689348814741910323) + (Go.bits .and .u64 (IntKind.u64.wrap ((Go.bits .and .u64 (a0 / 2) 6148914691236517205) + (Go.bits .and .u64 a0 6148914691236517205))) 3689348814741910323))) / 16) + (IntKind.u64.wrap ((Go.bits .and .u64 ((IntKind.u64.wrap ((Go.bits .and .u64 (a0 / 2) 6148914691236517205) + (Go.bits .and .u64 a0 6148914691236517205))) / 4) 3689348814741910323) + (Go.bits .and .u64 (IntKind.u64.wrap ((Go.bits .and .u64 (a0 / 2) 6148914691236517205) + (Go.bits .and .u64 a0 6148914691236517205))) 3689348814741910323))))) 1085102592571150095) / 256))) / 65536))) / 4294967296)))) 127)
theorem fc.calls (a0:Int) (r:Int) (w:World) (h:fc.f a0 = some r) :
  Calls Tryz.prog 107 #[.int .u64 a0] w fun e w'=>e = .returned (.int .i64 r) ∧ bi w w':=by
 have H:(some (Go.bits .and .i64 (wrap64 (IntKind.u64.wrap ((IntKind.u64.wrap ((IntKind.u64.wrap ((Go.bits .and .u64 (IntKind.u64.wrap (((IntKind.u64.wrap ((Go.bits .and .u64 ((IntKind.u64.wrap ((Go.bits .and .u64 (a0 / 2) 6148914691236517205) + (Go.bits .and .u64 a0 6148914691236517205))) / 4) 3689348814741910323) + (Go.bits .and .u64 (IntKind.u64.wrap ((Go.bits .and .u64 (a0 / 2) 6148914691236517205) + (Go.bits .and .u64 a0 6148914691236517205))) 3689348814741910323))) / 16) + (IntKind.u64.wrap ((Go.bits .and .u64 ((IntKind.u64.wrap ((Go.bits .and .u64 (a0 / 2) 6148914691236517205) + (Go.bits .and .u64 a0 6148914691236517205))) / 4) 3689348814741910323) + (Go.bits .and .u64 (IntKind.u64.wrap ((Go.bits .and .u64 (a0 / 2) 6148914691236517205) + (Go.bits .and .u64 a0 6148914691236517205))) 3689348814741910323))))) 1085102592571150095) + ((Go.bits .and .u64 (IntKind.u64.wrap (((IntKind.u64.wrap ((Go.bits .and .u64 ((IntKind.u64.wrap ((Go.bits .and .u64 (a0 / 2) 6148914691236517205) + (Go.bits .and .u64 a0 6148914691236517205))) / 4) 3689348814741910323) + (Go.bits .and .u64 (IntKind.u64.wrap ((Go.bits .and .u64 (a0 / 2) 6148914691236517205) + (Go.bits .and .u64 a0 6148914691236517205))) 3689348814741910323))) / 16) + (IntKind.u64.wrap ((Go.bits .and .u64 ((IntKind.u64.wrap ((Go.bits .and .u64 (a0 / 2) 6148914691236517205) + (Go.bits .and .u64 a0 6148914691236517205))) / 4) 3689348814741910323) + (Go.bits .and .u64 (IntKind.u64.wrap ((Go.bits .and .u64 (a0 / 2) 6148914691236517205) + (Go.bits .and .u64 a0 6148914691236517205))) 3689348814741910323))))) 1085102592571150095) / 256))) + ((IntKind.u64.wrap ((Go.bits .and .u64 (IntKind.u64.wrap (((IntKind.u64.wrap ((Go.bits .and .u64 ((IntKind.u64.wrap ((Go.bits .and .u64 (a0 / 2) 6148914691236517205) + (Go.bits .and .u64 a0 6148914691236517205))) / 4) 3689348814741910323) + (Go.bits .and .u64 (IntKind.u64.wrap ((Go.bits .and .u64 (a0 / 2) 6148914691236517205) + (Go.bits .and .u64 a0 6148914691236517205))) 3689348814741910323))) / 16) + (IntKind.u64.wrap ((Go.bits .and .u64 ((IntKind.u64.wrap ((Go.bits .and .u64 (a0 / 2) 6148914691236517205) + (Go.bits .and .u64 a0 6148914691236517205))) / 4) 3689348814741910323) + (Go.bits .and .u64 (IntKind.u64.wrap ((Go.bits .and .u64 (a0 / 2) 6148914691236517205) + (Go.bits .and .u64 a0 6148914691236517205))) 3689348814741910323))))) 1085102592571150095) + ((Go.bits .and .u64 (IntKind.u64.wrap (((IntKind.u64.wrap ((Go.bits .and .u64 ((IntKind.u64.wrap ((Go.bits .and .u64 (a0 / 2) 6148914691236517205) + (Go.bits .and .u64 a0 6148914691236517205))) / 4) 3689348814741910323) + (Go.bits .and .u64 (IntKind.u64.wrap ((Go.bits .and .u64 (a0 / 2) 6148914691236517205) + (Go.bits .and .u64 a0 6148914691236517205))) 3689348814741910323))) / 16) + (IntKind.u64.wrap ((Go.bits .and .u64 ((IntKind.u64.wrap ((Go.bits .and .u64 (a0 / 2) 6148914691236517205) + (Go.bits .and .u64 a0 6148914691236517205))) / 4) 3689348814741910323) + (Go.bits .and .u64 (IntKind.u64.wrap ((Go.bits .and .u64 (a0 / 2) 6148914691236517205) + (Go.bits .and .u64 a0 6148914691236517205))) 3689348814741910323))))) 1085102592571150095) / 256))) / 65536))) + ((IntKind.u64.wrap ((IntKind.u64.wrap ((Go.bits .and .u64 (IntKind.u64.wrap (((IntKind.u64.wrap ((Go.bits .and .u64 ((IntKind.u64.wrap ((Go.bits .and .u64 (a0 / 2) 6148914691236517205) + (Go.bits .and .u64 a0 6148914691236517205))) / 4) 3689348814741910323) + (Go.bits .and .u64 (IntKind.u64.wrap ((Go.bits .and .u64 (a0 / 2) 6148914691236517205) + (Go.bits .and .u64 a0 6148914691236517205))) 3689348814741910323))) / 16) + (IntKind.u64.wrap ((Go.bits .and .u64 ((IntKind.u64.wrap ((Go.bits .and .u64 (a0 / 2) 6148914691236517205) + (Go.bits .and .u64 a0 6148914691236517205))) / 4) 3689348814741910323) + (Go.bits .and .u64 (IntKind.u64.wrap ((Go.bits .and .u64 (a0 / 2) 6148914691236517205) + (Go.bits .and .u64 a0 6148914691236517205))) 3689348814741910323))))) 1085102592571150095) + ((Go.bits .and .u64 (IntKind.u64.wrap (((IntKind.u64.wrap ((Go.bits .and .u64 ((IntKind.u64.wrap ((Go.bits .and .u64 (a0 / 2) 6148914691236517205) + (Go.bits .and .u64 a0 6148914691236517205))) / 4) 3689348814741910323) + (Go.bits .and .u64 (IntKind.u64.wrap ((Go.bits .and .u64 (a0 / 2) 6148914691236517205) + (Go.bits .and .u64 a0 6148914691236517205))) 3689348814741910323))) / 16) + (IntKind.u64.wrap ((Go.bits .and .u64 ((IntKind.u64.wrap ((Go.bits .and .u64 (a0 / 2) 6148914691236517205) + (Go.bits .and .u64 a0 6148914691236517205))) / 4) 3689348814741910323) + (Go.bits .and .u64 (IntKind.u64.wrap ((Go.bits .and .u64 (a0 / 2) 6148914691236517205) + (Go.bits .and .u64 a0 6148914691236517205))) 3689348814741910323))))) 1085102592571150095) / 256))) + ((IntKind.u64.wrap ((Go.bits .and .u64 (IntKind.u64.wrap (((IntKind.u64.wrap ((Go.bits .and .u64 ((IntKind.u64.wrap ((Go.bits .and .u64 (a0 / 2) 6148914691236517205) + (Go.bits .and .u64 a0 6148914691236517205))) / 4) 3689348814741910323) + (Go.bits .and .u64 (IntKind.u64.wrap ((Go.bits .and .u64 (a0 / 2) 6148914691236517205) + (Go.bits .and .u64 a0 6148914691236517205))) 3689348814741910323))) / 16) + (IntKind.u64.wrap ((Go.bits .and .u64 ((IntKind.u64.wrap ((Go.bits .and .u64 (a0 / 2) 6148914691236517205) + (Go.bits .and .u64 a0 6148914691236517205))) / 4) 3689348814741910323) + (Go.bits .and .u64 (IntKind.u64.wrap ((Go.bits .and .u64 (a0 / 2) 6148914691236517205) + (Go.bits .and .u64 a0 6148914691236517205))) 3689348814741910323))))) 1085102592571150095) + ((Go.bits .and .u64 (IntKind.u64.wrap (((IntKind.u64.wrap ((Go.bits .and .u64 ((IntKind.u64.wrap ((Go.bits .and .u64 (a0 / 2) 6148914691236517205) + (Go.bits .and .u64 a0 6148914691236517205))) / 4) 3689348814741910323) + (Go.bits .and .u64 (IntKind.u64.wrap ((Go.bits .and .u64 (a0 / 2) 6148914691236517205) + (Go.bits .and .u64 a0 6148914691236517205))) 3689348814741910323))) / 16) + (IntKind.u64.wrap ((Go.bits .and .u64 ((IntKind.u64.wrap ((Go.bits .and .u64 (a0 / 2) 6148914691236517205) + (Go.bits .and .u64 a0 6148914691236517205))) / 4) 3689348814741910323) + (Go.bits .and .u64 (IntKind.u64.wrap ((Go.bits .and .u64 (a0 / 2) 6148914691236517205) + (Go.bits .and .u64 a0 6148914691236517205))) 3689348814741910323))))) 1085102592571150095) / 256))) / 65536))) / 4294967296)))) 127)) = some r:=h
 clear h;obtain rfl:=Option.some.inj H;go_enter Tryz.func107,Tryz.ntmps107;go_wp2
 go_ret
 exact ⟨qrs,dR⟩


def fD.f (a0:Int):Option (Int):=(fc.f a0).bind fun t1=>(some t1)
theorem fD.calls (a0:Int) (r:Int) (w:World) (h:fD.f a0 = some r) :
  Calls Tryz.prog 90 #[.int .u64 a0] w fun e w'=>e = .returned (.int .i64 r) ∧ bi w w':=by
 have H:((fc.f a0).bind fun t1=>(some t1)) = some r:=h;clear h;replace H:=oB H;obtain ⟨t1,A2,H⟩:=H;(try dsimp only at H)
 obtain rfl:=Option.some.inj H;go_enter Tryz.func90,Tryz.ntmps90;go_wp2_with (first|((with_reducible refine ai (f:=107) rfl ?_);refine gL 7 Tryz.func107 #[.int .u64 a0] ?_;(with_reducible refine (fc.calls a0 t1 _ A2.out).mono ?_);rintro e w' ⟨rfl,⟨nd,rfl⟩⟩;refine ⟨_,rfl,?_⟩))
 go_ret
 exact ⟨qrs,dR⟩


def d6.f (a0:Int):Option (Int):=(fD.f (IntKind.u64.wrap (a0))).bind fun t1=>(some t1)
theorem d6.calls (a0:Int) (r:Int) (w:World) (h:d6.f a0 = some r) :
  Calls Tryz.prog 64 #[.int .i64 a0] w fun e w'=>e = .returned (.int .i64 r) ∧ bi w w':=by
 have H:((fD.f (IntKind.u64.wrap (a0))).bind fun t1=>(some t1)) = some r:=h;clear h;replace H:=oB H;obtain ⟨t1,A2,H⟩:=H;(try dsimp only at H)
 obtain rfl:=Option.some.inj H;go_enter Tryz.func64,Tryz.ntmps64;go_wp2_with (first|((with_reducible refine ai (f:=90) rfl ?_);refine gL 5 Tryz.func90 #[.int .u64 (IntKind.u64.wrap (a0))] ?_;(with_reducible refine (fD.calls (IntKind.u64.wrap (a0)) t1 _ A2.out).mono ?_);rintro e w' ⟨rfl,⟨nd,rfl⟩⟩;refine ⟨_,rfl,?_⟩))
 go_ret
 exact ⟨qrs,dR⟩


def dG.f (a0:Int) (a1_0:Int) (l1_1:List Bool) (a2:Int):Option (Bool):=if 0 ≤ a0 then (if a0 < (l1_1.length:Int) then (if dE false l1_1 a0 = true then ((d6.f a0).bind fun t3=>(some (decide (t3 ≥ a2)))) else (some false)) else (none)) else (none)
theorem dG.calls (a0:Int) (gc1:Nat) (a1_0:Int) (A1_1:Option Addr) (c1_1:Nat) (l1_1:List Bool) (gc2:Nat) (a2:Int) (r:Bool) (w:World) (hr1_1:Kd.C Kd.bool w A1_1 l1_1.length l1_1) (hc1_1:l1_1.length ≤ c1_1) (hb1:w.heap[gc1]? = some (.cells #[.int .i64 a1_0,.slice A1_1 l1_1.length c1_1] 56 (0,0))) (hb2:w.heap[gc2]? = some (.cells #[.int .i64 a2] 3 (0,0))) (hn1_2:gc1 ≠ gc2) (h:dG.f a0 a1_0 l1_1 a2 = some r) :
  Calls Tryz.prog 63 #[.int .i64 a0,.pointer (some ⟨gc1,0,none⟩),.pointer (some ⟨gc2,0,none⟩)] w fun e w'=>e = .returned (.bool r) ∧ bi w w':=by
 have HR1_1:=aM hr1_1;have HC1_1:=aM hc1_1;clear hr1_1 hc1_1;have BK1:=aM hb1;clear hb1;have BK2:=aM hb2;clear hb2;have NB1_2:=aM hn1_2;have NB2_1:=aM (Ne.symm hn1_2);clear hn1_2;have H:(if 0 ≤ a0 then (if a0 < (l1_1.length:Int) then (if dE false l1_1 a0 = true then ((d6.f a0).bind fun t14=>(some (decide (t14 ≥ a2)))) else (some false)) else (none)) else (none)) = some r:=h;clear h;replace H:=iN H;obtain ⟨c4,H⟩:=H;have c4b0:decide (0 ≤ a0) = true:=decide_eq_true c4;clear c4;replace H:=iN H;obtain ⟨c5,H⟩:=H;have c5b0:decide (a0 < (l1_1.length:Int)) = true:=decide_eq_true c5;clear c5;obtain ⟨bq6,hbq6⟩:∃ b_:Bool,b_ = (dE false l1_1 a0):=⟨_,rfl⟩;rw [← hbq6] at H;have Nbq6:=aM hbq6;clear hbq6;by_cases c7:bq6 = true
 ·subst c7;rw [if_pos rfl] at H;replace H:=oB H;obtain ⟨t14,A8,H⟩:=H;(try dsimp only at H)
  obtain rfl:=Option.some.inj H;have hnb9:=NB1_2.out;have hnc9:=NB2_1.out;have hcz10_0:=cz BK1.out 0;have hcz10_1:=cz BK1.out 1;have hfz10_0:=af BK1.out 0;have hfz10_1:=af BK1.out 1;have p3:0 ≤ (a0:Int):=of_decide_eq_true ab;have q3:a0 < (l1_1.length:Int):=of_decide_eq_true ab;obtain ⟨ad3,e3,hx3_0⟩:=Kd.b8 HR1_1.out a0 p3 q3;(try rw [← Nbq6.out] at hx3_0)
  cases e3
  replace p3:=eq_true p3;replace q3:=eq_true q3;go_enter Tryz.func63,Tryz.ntmps63;go_wp2_with (first|(go_at_call 64;(with_reducible refine (d6.calls a0 t14 _ A8.out).mono ?_);rintro e w' ⟨rfl,⟨nd,rfl⟩⟩;(try exact dW);have hcz11_0:=cz BK2.out 0;have hfz11_0:=af BK2.out 0))
  repeat (go_quiet (first|(go_at_call 64;(with_reducible refine (d6.calls a0 t14 _ A8.out).mono ?_);rintro e w' ⟨rfl,⟨nd,rfl⟩⟩;(try exact dW);have hcz11_0:=cz BK2.out 0;have hfz11_0:=af BK2.out 0));try go_wp2_with (first|(go_at_call 64;(with_reducible refine (d6.calls a0 t14 _ A8.out).mono ?_);rintro e w' ⟨rfl,⟨nd,rfl⟩⟩;(try exact dW);have hcz11_0:=cz BK2.out 0;have hfz11_0:=af BK2.out 0)))
  go_ret
  exact ⟨qrs,dR⟩
 ·replace c7:=Bool.eq_false_iff.mpr c7;subst c7;rw [if_neg (show ¬ (false = true) by decide)] at H;obtain rfl:=Option.some.inj H;have hnb12:=NB1_2.out;have hnc12:=NB2_1.out;have hcz13_0:=cz BK1.out 0;have hcz13_1:=cz BK1.out 1;have hfz13_0:=af BK1.out 0;have hfz13_1:=af BK1.out 1;have p3:0 ≤ (a0:Int):=of_decide_eq_true ab;have q3:a0 < (l1_1.length:Int):=of_decide_eq_true ab;obtain ⟨ad3,e3,hx3_0⟩:=Kd.b8 HR1_1.out a0 p3 q3;(try rw [← Nbq6.out] at hx3_0)
  cases e3
  replace p3:=eq_true p3;replace q3:=eq_true q3;go_enter Tryz.func63,Tryz.ntmps63;go_wp2
  repeat (go_quiet (fail);try go_wp2)
  go_ret
  exact ⟨qrs,dR⟩
theorem dG.enters:∀ (args:Array Value) (w:World),(callFunc 63 args).run Tryz.prog w = .ok (.enter 63 args) w:=enters_of Tryz.func63 kR rfl


def bn.l0:Nat → Int → List Bool → Int → Int → Option (Int)
 | 0,_,_,_,_=>none
 | k + 1,x3,x7,x8,x9=>if x9 < x8 then (if 0 ≤ x9 then (if x9 < (x7.length:Int) then (if dE false x7 x9 = true then (bn.l0 k (wrap64 (x3 + 1)) x7 x8 (wrap64 (x9 + 1))) else (bn.l0 k x3 x7 x8 (wrap64 (x9 + 1)))) else (none)) else (none)) else (some x3)
def bn.f (k:Nat) (a0_0:Int) (l0_1:List Bool):Option (Int):=bn.l0 k 0 l0_1 (l0_1.length:Int) 0
theorem bn.calls (k:Nat) (a0_0:Int) (A0_1:Option Addr) (c0_1:Nat) (l0_1:List Bool) (r:Int) (w:World) (hr0_1:Kd.C Kd.bool w A0_1 l0_1.length l0_1) (hc0_1:l0_1.length ≤ c0_1) (h:bn.f k a0_0 l0_1 = some r) :
  Calls Tryz.prog 69 #[.agg #[.int .i64 a0_0,.slice A0_1 l0_1.length c0_1]] w fun e w'=>e = .returned (.int .i64 r) ∧ Below w.heap.size w w':=by
 have hu56:=Tryz.underlying56;have HR0_1:=aM hr0_1;have HC0_1:=aM hc0_1;clear hr0_1 hc0_1;have HB:=aM (Below.refl w.heap.size w);have H:(bn.l0 k 0 l0_1 (l0_1.length:Int) 0) = some r:=h;clear h;have H':=aM H;clear H;go_enter Tryz.func69,Tryz.ntmps69;go_wp2_with (first|((with_reducible refine aC (N:=1) rfl ?_);refine bE 1 #[.int .i64 a0_0,.slice A0_1 l0_1.length c0_1] 56 ?_;intro gb10 hg w2 hbox hb;have BK10:=aM (hbox);have GW10:=aM (gS hg);have GE10:=aM (gS hg);replace HB:=aM (ag bw hb);clear hb hbox hg;have hcz3_0:=cz BK10.out 0;have hcz3_1:=cz BK10.out 1;have hfz3_0:=af BK10.out 0;have hfz3_1:=af BK10.out 1))
 go_loopg [3,9] k (fun kq v3 v9 w'=>∃ (x3_1:Int) (x9_1:Int),v3 = .int .i64 x3_1 ∧ v9 = .int .i64 x9_1 ∧ aj (bn.l0 kq x3_1 l0_1 (l0_1.length:Int) x9_1 = some r) ∧ aj (kq ≤ k) ∧ aj (w'.heap[gb10]? = some (.cells #[.int .i64 a0_0,(.slice A0_1 l0_1.length c0_1)] 56 (0,0))) ∧ aj (Below w.heap.size w w'))
 case atStart=>exact ⟨(0),(0),qrs,qrs,H',⟨Nat.le_refl _⟩,⟨bk1 BK10.out⟩,⟨by exact bw⟩⟩
 case round =>
  clear H';(try clear hcz3_0);(try clear hcz3_1);(try clear hfz3_0);(try clear hfz3_1)
  obtain ⟨x3_1,x9_1,rfl,rfl,HA,HK1,BK10,HB⟩:=hrel
  cases gk with
  | zero=>exact absurd HA.out (by simp [bn.l0])
  | succ k1 =>
   have H:=HA.out;clear HA;simp only [bn.l0] at H;by_cases c4:x9_1 < (l0_1.length:Int)
   ·rw [if_pos c4] at H;have c4b0:=decide_eq_true c4;clear c4;replace H:=iN H;obtain ⟨c5,H⟩:=H;have c5b0:decide (0 ≤ x9_1) = true:=decide_eq_true c5;clear c5;replace H:=iN H;obtain ⟨c6,H⟩:=H;have c6b0:decide (x9_1 < (l0_1.length:Int)) = true:=decide_eq_true c6;clear c6;obtain ⟨bq7,hbq7⟩:∃ b_:Bool,b_ = (dE false l0_1 x9_1):=⟨_,rfl⟩;rw [← hbq7] at H;have Nbq7:=aM hbq7;clear hbq7;by_cases c8:bq7 = true
    ·subst c8;rw [if_pos rfl] at H;have H':=aM H;clear H;have p11:0 ≤ (x9_1:Int):=of_decide_eq_true ab;have q11:x9_1 < (l0_1.length:Int):=of_decide_eq_true ab;obtain ⟨ad11,e11,hx11_0⟩:=Kd.b8 HR0_1.out x9_1 p11 q11;(try rw [← Nbq7.out] at hx11_0)
     cases e11
     replace hx11_0:=(HB.out.cell (World.block_lt_of_cell? w _ hx11_0)).trans hx11_0;replace p11:=eq_true p11;replace q11:=eq_true q11;go_wp2
     go_roundg k1
     case measure=>have:=HK1.out;omega
     case rel=>exact ⟨(wrap64 (x3_1 + 1)),(wrap64 (x9_1 + 1)),qrs,qrs,H',⟨by have:=HK1.out;omega⟩,⟨bk1 BK10.out⟩,⟨by exact bw⟩⟩
    ·replace c8:=Bool.eq_false_iff.mpr c8;subst c8;rw [if_neg (show ¬ (false = true) by decide)] at H;have H':=aM H;clear H;have p11:0 ≤ (x9_1:Int):=of_decide_eq_true ab;have q11:x9_1 < (l0_1.length:Int):=of_decide_eq_true ab;obtain ⟨ad11,e11,hx11_0⟩:=Kd.b8 HR0_1.out x9_1 p11 q11;(try rw [← Nbq7.out] at hx11_0)
     cases e11
     replace hx11_0:=(HB.out.cell (World.block_lt_of_cell? w _ hx11_0)).trans hx11_0;replace p11:=eq_true p11;replace q11:=eq_true q11;go_wp2
     go_roundg k1
     case measure=>have:=HK1.out;omega
     case rel=>exact ⟨(x3_1),(wrap64 (x9_1 + 1)),qrs,qrs,H',⟨by have:=HK1.out;omega⟩,⟨bk1 BK10.out⟩,⟨by exact bw⟩⟩
   ·rw [if_neg c4] at H;have c4b0:=decide_eq_false c4;clear c4;obtain rfl:=Option.some.inj H;go_wp2
    go_ret
    exact ⟨eE,by exact bw⟩


def eF.f (k:Nat) (a0_0:Int) (l0_1:List (List Int)):Option (Int × Bool):=(aK.f k a0_0 l0_1).bind fun t2=>(if t2 = true then ((cF.f k a0_0 l0_1).bind fun bt3=>((bn.f k bt3.1 bt3.2).bind fun t4=>(some (t4,true)))) else (some (0,false)))
theorem eF.calls (k:Nat) (a0_0:Int) (A0_1:Option Addr) (c0_1:Nat) (l0_1:List (List Int)) (r1:Int) (r2:Bool) (w:World) (hr0_1:Kd.C (Kd.slice 3 (Kd.int .i64)) w A0_1 l0_1.length l0_1) (hc0_1:l0_1.length ≤ c0_1) (h:eF.f k a0_0 l0_1 = some (r1,r2)) :
  Calls Tryz.prog 28 #[.agg #[.int .i64 a0_0,.slice A0_1 l0_1.length c0_1]] w fun e w'=>e = .returned (.tuple #[.int .i64 r1,.bool r2]) ∧ Below w.heap.size w w':=by
 have hu30:=Tryz.underlying30;have HR0_1:=aM hr0_1;have HC0_1:=aM hc0_1;clear hr0_1 hc0_1;have HB:=aM (Below.refl w.heap.size w);have H:((aK.f k a0_0 l0_1).bind fun t17=>(if t17 = true then ((cF.f k a0_0 l0_1).bind fun bt18=>((bn.f k bt18.1 bt18.2).bind fun t23=>(some (t23,true)))) else (some (0,false)))) = some (r1,r2):=h;clear h;replace H:=oB H;obtain ⟨t17,A2,H⟩:=H;(try dsimp only at H)
 by_cases c3:t17 = true
 ·subst c3;rw [if_pos rfl] at H;replace H:=oB H;obtain ⟨⟨t18,t19⟩,A4,H⟩:=H;(try dsimp only at H)
  replace H:=oB H;obtain ⟨t23,A5,H⟩:=H;(try dsimp only at H)
  simp only [Option.some.injEq,Prod.mk.injEq] at H;obtain ⟨rfl,rfl⟩:=H;go_enter Tryz.func28,Tryz.ntmps28;go_wp2_with (first|((with_reducible refine aC (N:=1) rfl ?_);refine bE 1 #[.int .i64 a0_0,.slice A0_1 l0_1.length c0_1] 30 ?_;intro gb16 hg w6 hbox hb;have BK16:=aM (hbox);have GW16:=aM (gS hg);have GE16:=aM (gS hg);replace HB:=aM (ag bw hb);clear hb hbox hg;have hcz7_0:=cz BK16.out 0;have hcz7_1:=cz BK16.out 1;have hfz7_0:=af BK16.out 0;have hfz7_1:=af BK16.out 1)|((with_reducible refine ai (f:=22) rfl ?_);refine gL 5 Tryz.func22 #[.agg #[.int .i64 a0_0,.slice A0_1 l0_1.length c0_1]] ?_;(with_reducible refine (aK.calls k a0_0 _ _ l0_1 true _ ?side1 ?side2 A2.out).mono ?_);(case side1=>exact qcs HR0_1.out HB.out);(case side2=>exact HC0_1.out);rintro e w8 ⟨rfl,hb⟩;refine ⟨_,rfl,?_⟩;replace BK16:=aM (bB BK16.out hb);replace HB:=aM (ag bw hb);(try clear hb);have hcz9_0:=cz BK16.out 0;have hcz9_1:=cz BK16.out 1;have hfz9_0:=af BK16.out 0;have hfz9_1:=af BK16.out 1)|((with_reducible refine ai (f:=55) rfl ?_);refine gL 8 Tryz.func55 #[.agg #[.int .i64 a0_0,.slice A0_1 l0_1.length c0_1]] ?_;(with_reducible refine (cF.calls k a0_0 _ _ l0_1 t18 t19 _ ?side1 ?side2 A4.out).mono ?_);(case side1=>exact qcs HR0_1.out HB.out);(case side2=>exact HC0_1.out);rintro e w10 ⟨v20,rfl,ho0,hb⟩;refine ⟨_,rfl,?_⟩;have HO21:=aM (Kd.cr ho0 (av bw));replace BK16:=aM (bB BK16.out hb);replace HB:=aM (ag bw hb);(try clear hb);(try clear ho0);obtain ⟨Ao11,co11,eo11⟩:=Kd.b5 HO21.out;subst eo11)|((with_reducible refine ai (f:=69) rfl ?_);refine gL 9 Tryz.func69 #[.agg #[.int .i64 t18,.slice Ao11 t19.length co11]] ?_;(with_reducible refine (bn.calls k t18 _ _ t19 t23 _ ?side1 ?side2 A5.out).mono ?_);(case side1=>exact qc (Kd.aI HO21.out).2.2);(case side2=>exact (Kd.aI HO21.out).2.1);rintro e w12 ⟨rfl,hb⟩;refine ⟨_,rfl,?_⟩;replace HO21:=aM (Kd.ba (qra HO21.out) hb);replace BK16:=aM (bB BK16.out hb);replace HB:=aM (ag bw hb);(try clear hb)))
  go_ret2
  exact ⟨eE,by exact bw⟩
 ·replace c3:=Bool.eq_false_iff.mpr c3;subst c3;rw [if_neg (show ¬ (false = true) by decide)] at H;simp only [Option.some.injEq,Prod.mk.injEq] at H;obtain ⟨rfl,rfl⟩:=H;go_enter Tryz.func28,Tryz.ntmps28;go_wp2_with (first|((with_reducible refine aC (N:=1) rfl ?_);refine bE 1 #[.int .i64 a0_0,.slice A0_1 l0_1.length c0_1] 30 ?_;intro gb16 hg w13 hbox hb;have BK16:=aM (hbox);have GW16:=aM (gS hg);have GE16:=aM (gS hg);replace HB:=aM (ag bw hb);clear hb hbox hg;have hcz14_0:=cz BK16.out 0;have hcz14_1:=cz BK16.out 1;have hfz14_0:=af BK16.out 0;have hfz14_1:=af BK16.out 1)|((with_reducible refine ai (f:=22) rfl ?_);refine gL 5 Tryz.func22 #[.agg #[.int .i64 a0_0,.slice A0_1 l0_1.length c0_1]] ?_;(with_reducible refine (aK.calls k a0_0 _ _ l0_1 false _ ?side1 ?side2 A2.out).mono ?_);(case side1=>exact qcs HR0_1.out HB.out);(case side2=>exact HC0_1.out);rintro e w15 ⟨rfl,hb⟩;refine ⟨_,rfl,?_⟩;replace BK16:=aM (bB BK16.out hb);replace HB:=aM (ag bw hb);(try clear hb)))
  go_ret2
  exact ⟨eE,by exact bw⟩


mutual
def aX.j0:Nat → Int → Bool → Int → List Int → Option (Int × Bool)
 | 0,_,_,_,_=>none
 | k + 1,x1,x19,x4,x5=>if x19 = true then (some (0,false)) else ((b9.f k x4 x5).bind fun bt2=>(aX.l0 k x1 0 bt2.2 (bt2.2.length:Int) 0))
def aX.l0:Nat → Int → Int → List Bool → Int → Int → Option (Int × Bool)
 | 0,_,_,_,_,_=>none
 | k + 1,x1,x6,x22,x23,x24=>if x24 < x23 then (if 0 ≤ x24 then (if x24 < (x22.length:Int) then (if dE false x22 x24 = true then ((d6.f x24).bind fun t3=>(if t3 = x1 then (aX.l0 k x1 (wrap64 (x6 + 1)) x22 x23 (wrap64 (x24 + 1))) else (aX.l0 k x1 x6 x22 x23 (wrap64 (x24 + 1))))) else (aX.l0 k x1 x6 x22 x23 (wrap64 (x24 + 1)))) else (none)) else (none)) else (some (x6,true))
end
def aX.f (k:Nat) (a0_0:Int) (l0_1:List Int) (a1:Int):Option (Int × Bool):=(aH.f k a0_0 l0_1).bind fun t2=>(if t2 = true then ((b4.f a1 0 (l0_1.length:Int)).bind fun t3=>(aX.j0 k a1 (!t3) a0_0 l0_1)) else (aX.j0 k a1 true a0_0 l0_1))
theorem aX.calls (k:Nat) (a0_0:Int) (A0_1:Option Addr) (c0_1:Nat) (l0_1:List Int) (a1:Int) (r1:Int) (r2:Bool) (w:World) (hr0_1:Kd.C (Kd.int .i64) w A0_1 l0_1.length l0_1) (hc0_1:l0_1.length ≤ c0_1) (h:aX.f k a0_0 l0_1 a1 = some (r1,r2)) :
  Calls Tryz.prog 29 #[.agg #[.int .i64 a0_0,.slice A0_1 l0_1.length c0_1],.int .i64 a1] w fun e w'=>e = .returned (.tuple #[.int .i64 r1,.bool r2]) ∧ Below w.heap.size w w':=by
 have hfd56_1:∀ (z0_ z1_:Value) (w:World),(Instr.field 56 (.agg #[z0_,z1_]) 1).run Tryz.prog w = .ok z1_ w:=fun z0_ z1_ w=>by kernel_rfl
 have hu25:=Tryz.underlying25;have hu56:=Tryz.underlying56;have HR0_1:=aM hr0_1;have HC0_1:=aM hc0_1;clear hr0_1 hc0_1;have HB:=aM (Below.refl w.heap.size w);have H:((aH.f k a0_0 l0_1).bind fun t27=>(if t27 = true then ((b4.f a1 0 (l0_1.length:Int)).bind fun t28=>(aX.j0 k a1 (!t28) a0_0 l0_1)) else (aX.j0 k a1 true a0_0 l0_1))) = some (r1,r2):=h;clear h;have HC3:=aM H;clear H;go_enter Tryz.func29,Tryz.ntmps29;go_upto_region 1 with (first|((with_reducible refine aC (N:=2) rfl ?_);(try (refine bQ (by rfl) ?_;dsimp only));refine bE 2 #[.int .i64 a0_0,.slice A0_1 l0_1.length c0_1] 25 ?_;intro gb26 hg w4 hbox hb;have BK26:=aM (hbox);have GW26:=aM (gS hg);have GE26:=aM (gS hg);replace HB:=aM (ag bw hb);clear hb hbox hg))
 (try simp only [Act.put,sA,sZ,sS])
 go_cut [19] (fun v19 wc=>∃ (kq:Nat) (x19_2:Bool),v19 = .bool x19_2 ∧ aj (aX.j0 kq a1 x19_2 a0_0 l0_1 = some (r1,r2)) ∧ aj (kq ≤ k) ∧ aj (wc.heap[gb26]? = some (.cells #[.int .i64 a0_0,(.slice A0_1 l0_1.length c0_1)] 25 (0,0))) ∧ aj (Below w.heap.size w wc))
 case first =>
  have H:=HC3.out;clear HC3;replace H:=oB H;obtain ⟨t27,A5,H⟩:=H;(try dsimp only at H)
  by_cases c6:t27 = true
  ·subst c6;rw [if_pos rfl] at H;replace H:=oB H;obtain ⟨t28,A7,H⟩:=H;(try dsimp only at H)
   have H':=aM H;clear H;have hcz8_0:=cz BK26.out 0;have hcz8_1:=cz BK26.out 1;have hfz8_0:=af BK26.out 0;have hfz8_1:=af BK26.out 1;go_wp2_with (first|((with_reducible refine ai (f:=50) rfl ?_);refine gL 10 Tryz.func50 #[.agg #[.int .i64 a0_0,.slice A0_1 l0_1.length c0_1]] ?_;(with_reducible refine (aH.calls k a0_0 _ _ l0_1 true _ ?side1 ?side2 A5.out).mono ?_);(case side1=>exact qcs HR0_1.out HB.out);(case side2=>exact HC0_1.out);rintro e w9 ⟨rfl,hb⟩;refine ⟨_,rfl,?_⟩;replace BK26:=aM (bB BK26.out hb);replace HB:=aM (ag bw hb);(try clear hb);have hcz10_0:=cz BK26.out 0;have hcz10_1:=cz BK26.out 1;have hfz10_0:=af BK26.out 0;have hfz10_1:=af BK26.out 1)|(go_at_call 47;(with_reducible refine (b4.calls a1 0 (l0_1.length:Int) t28 _ A7.out).mono ?_);rintro e w' ⟨rfl,⟨nd,rfl⟩⟩))
   go_meet
   case rel=>exact ⟨_,(!t28),qrs,H',⟨by first|omega|exact Nat.le_refl _⟩,⟨bk1 BK26.out⟩,⟨by exact bw⟩⟩
  ·replace c6:=Bool.eq_false_iff.mpr c6;subst c6;rw [if_neg (show ¬ (false = true) by decide)] at H;have H':=aM H;clear H;have hcz11_0:=cz BK26.out 0;have hcz11_1:=cz BK26.out 1;have hfz11_0:=af BK26.out 0;have hfz11_1:=af BK26.out 1;go_wp2_with (first|((with_reducible refine ai (f:=50) rfl ?_);refine gL 10 Tryz.func50 #[.agg #[.int .i64 a0_0,.slice A0_1 l0_1.length c0_1]] ?_;(with_reducible refine (aH.calls k a0_0 _ _ l0_1 false _ ?side1 ?side2 A5.out).mono ?_);(case side1=>exact qcs HR0_1.out HB.out);(case side2=>exact HC0_1.out);rintro e w12 ⟨rfl,hb⟩;refine ⟨_,rfl,?_⟩;replace BK26:=aM (bB BK26.out hb);replace HB:=aM (ag bw hb);(try clear hb)))
   go_meet
   case rel=>exact ⟨_,(true),qrs,H',⟨by first|omega|exact Nat.le_refl _⟩,⟨bk1 BK26.out⟩,⟨by exact bw⟩⟩
 case rest =>
  clear HC3;(try clear c6);(try clear hcz10_0);(try clear hcz10_1);(try clear hcz11_0);(try clear hcz11_1);(try clear hcz8_0);(try clear hcz8_1);(try clear hfz10_0);(try clear hfz10_1);(try clear hfz11_0);(try clear hfz11_1);(try clear hfz8_0);(try clear hfz8_1)
  obtain ⟨kq,x19_2,rfl,HA,HJ2,BK26,HB⟩:=hcut
  cases kq with
  | zero=>exact absurd HA.out (by simp [aX.j0])
  | succ kj2 =>
   have H:=HA.out;clear HA;simp only [aX.j0] at H;by_cases c13:x19_2 = true
   ·subst c13;rw [if_pos rfl] at H;simp only [Option.some.injEq,Prod.mk.injEq] at H;obtain ⟨rfl,rfl⟩:=H;go_wp2
    go_ret2
    exact ⟨eE,by exact bw⟩
   ·replace c13:=Bool.eq_false_iff.mpr c13;subst c13;rw [if_neg (show ¬ (false = true) by decide)] at H;replace H:=oB H;obtain ⟨⟨t30,t31⟩,A14,H⟩:=H;(try dsimp only at H)
    have H':=aM H;clear H;have hcz15_0:=cz BK26.out 0;have hcz15_1:=cz BK26.out 1;have hfz15_0:=af BK26.out 0;have hfz15_1:=af BK26.out 1;go_wp2_with (first|((with_reducible refine ai (f:=61) rfl ?_);refine gL 21 Tryz.func61 #[.agg #[.int .i64 a0_0,.slice A0_1 l0_1.length c0_1]] ?_;(with_reducible refine (b9.calls kj2 a0_0 _ _ l0_1 t30 t31 _ ?side1 ?side2 A14.out).mono ?_);(case side1=>exact qcs HR0_1.out HB.out);(case side2=>exact HC0_1.out);rintro e w16 ⟨v32,rfl,ho0,hb⟩;refine ⟨_,rfl,?_⟩;have HO33:=aM (Kd.cr ho0 (av bw));replace BK26:=aM (bB BK26.out hb);replace HB:=aM (ag bw hb);(try clear hb);(try clear ho0);obtain ⟨Ao17,co17,eo17⟩:=Kd.b5 HO33.out;subst eo17))
    go_loopg [6,24] kj2 (fun kq v6 v24 w'=>∃ (x6_2:Int) (x24_2:Int),v6 = .int .i64 x6_2 ∧ v24 = .int .i64 x24_2 ∧ aj (aX.l0 kq a1 x6_2 t31 (t31.length:Int) x24_2 = some (r1,r2)) ∧ aj (kq ≤ kj2) ∧ aj (Kd.R Kd.bool 4 w' w.heap.size (fun _=>True) (.slice Ao17 t31.length co17) t31) ∧ aj (w'.heap[gb26]? = some (.cells #[.int .i64 a0_0,(.slice A0_1 l0_1.length c0_1)] 25 (0,0))) ∧ aj (Below w.heap.size w w'))
    case atStart=>exact ⟨(0),(0),qrs,qrs,H',⟨Nat.le_refl _⟩,⟨qra HO33.out⟩,⟨bk1 BK26.out⟩,⟨by exact bw⟩⟩
    case round =>
     clear H';(try clear c13);(try clear hcz15_0);(try clear hcz15_1);(try clear hfz15_0);(try clear hfz15_1)
     obtain ⟨x6_2,x24_2,rfl,rfl,HA,HK2,HO_22,BK26,HB⟩:=hrel
     cases gk with
     | zero=>exact absurd HA.out (by simp [aX.l0])
     | succ k2 =>
      have H:=HA.out;clear HA;simp only [aX.l0] at H;by_cases c18:x24_2 < (t31.length:Int)
      ·rw [if_pos c18] at H;have c18b0:=decide_eq_true c18;clear c18;replace H:=iN H;obtain ⟨c19,H⟩:=H;have c19b0:decide (0 ≤ x24_2) = true:=decide_eq_true c19;clear c19;replace H:=iN H;obtain ⟨c20,H⟩:=H;have c20b0:decide (x24_2 < (t31.length:Int)) = true:=decide_eq_true c20;clear c20;obtain ⟨bq21,hbq21⟩:∃ b_:Bool,b_ = (dE false t31 x24_2):=⟨_,rfl⟩;rw [← hbq21] at H;have Nbq21:=aM hbq21;clear hbq21;by_cases c22:bq21 = true
       ·subst c22;rw [if_pos rfl] at H;replace H:=oB H;obtain ⟨t35,A23,H⟩:=H;(try dsimp only at H)
        by_cases c24:t35 = a1
        ·rw [if_pos c24] at H;have c24b0:(t35 == a1) = true:=beq_iff_eq.mpr c24;have c24b1:(t35 != a1) = false:=bne_eq_false_iff_eq.mpr c24;clear c24;have H':=aM H;clear H;have p34:0 ≤ (x24_2:Int):=of_decide_eq_true ab;have q34:x24_2 < (t31.length:Int):=of_decide_eq_true ab;obtain ⟨ad34,e34,hx34_0⟩:=Kd.b8 (Kd.aI HO_22.out).2.2 x24_2 p34 q34;(try rw [← Nbq21.out] at hx34_0)
         cases e34
         replace p34:=eq_true p34;replace q34:=eq_true q34;go_wp2_with (first|(go_at_call 64;(with_reducible refine (d6.calls x24_2 t35 _ A23.out).mono ?_);rintro e w' ⟨rfl,⟨nd,rfl⟩⟩))
         go_roundg k2
         case measure=>have:=HJ2.out;have:=HK2.out;omega
         case rel=>exact ⟨(wrap64 (x6_2 + 1)),(wrap64 (x24_2 + 1)),qrs,qrs,H',⟨by have:=HJ2.out;have:=HK2.out;omega⟩,⟨qra HO_22.out⟩,⟨bk1 BK26.out⟩,⟨by exact bw⟩⟩
        ·rw [if_neg c24] at H;have c24b0:(t35 == a1) = false:=beq_eq_false_iff_ne.mpr c24;have c24b1:(t35 != a1) = true:=bne_iff_ne.mpr c24;have H':=aM H;clear H;have p34:0 ≤ (x24_2:Int):=of_decide_eq_true ab;have q34:x24_2 < (t31.length:Int):=of_decide_eq_true ab;obtain ⟨ad34,e34,hx34_0⟩:=Kd.b8 (Kd.aI HO_22.out).2.2 x24_2 p34 q34;(try rw [← Nbq21.out] at hx34_0)
         cases e34
         replace p34:=eq_true p34;replace q34:=eq_true q34;go_wp2_with (first|(go_at_call 64;(with_reducible refine (d6.calls x24_2 t35 _ A23.out).mono ?_);rintro e w' ⟨rfl,⟨nd,rfl⟩⟩))
         go_roundg k2
         case measure=>have:=HJ2.out;have:=HK2.out;omega
         case rel=>exact ⟨(x6_2),(wrap64 (x24_2 + 1)),qrs,qrs,H',⟨by have:=HJ2.out;have:=HK2.out;omega⟩,⟨qra HO_22.out⟩,⟨bk1 BK26.out⟩,⟨by exact bw⟩⟩
       ·replace c22:=Bool.eq_false_iff.mpr c22;subst c22;rw [if_neg (show ¬ (false = true) by decide)] at H;have H':=aM H;clear H;have p34:0 ≤ (x24_2:Int):=of_decide_eq_true ab;have q34:x24_2 < (t31.length:Int):=of_decide_eq_true ab;obtain ⟨ad34,e34,hx34_0⟩:=Kd.b8 (Kd.aI HO_22.out).2.2 x24_2 p34 q34;(try rw [← Nbq21.out] at hx34_0)
        cases e34
        replace p34:=eq_true p34;replace q34:=eq_true q34;go_wp2
        go_roundg k2
        case measure=>have:=HJ2.out;have:=HK2.out;omega
        case rel=>exact ⟨(x6_2),(wrap64 (x24_2 + 1)),qrs,qrs,H',⟨by have:=HJ2.out;have:=HK2.out;omega⟩,⟨qra HO_22.out⟩,⟨bk1 BK26.out⟩,⟨by exact bw⟩⟩
      ·rw [if_neg c18] at H;have c18b0:=decide_eq_false c18;clear c18;simp only [Option.some.injEq,Prod.mk.injEq] at H;obtain ⟨rfl,rfl⟩:=H;go_wp2
       go_ret2
       exact ⟨eE,by exact bw⟩

end Go.Proofs.YthipiojpoklpgaaGreat.P
