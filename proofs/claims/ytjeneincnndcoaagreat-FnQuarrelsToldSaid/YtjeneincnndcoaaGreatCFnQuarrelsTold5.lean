/- Part 5 of the texts below the law FnQuarrelsTold. Printed by this session's driver over the kit's printer, but for the hand contracts and the plain laws. -/
import Derived.Test.YtjeneincnndcoaaGreatCFnQuarrelsTold1
import Derived.Test.YtjeneincnndcoaaGreatCFnQuarrelsTold2
import Derived.Test.YtjeneincnndcoaaGreatCFnQuarrelsTold3
import Derived.Test.YtjeneincnndcoaaGreatCFnQuarrelsTold4
set_option linter.unusedVariables false
set_option linter.unusedSimpArgs false
set_option maxHeartbeats 8000000
set_option maxRecDepth 100000
namespace Go.Proofs.YtjeneincnndcoaaGreat.P
open Go.RowKit Go.Proofs.YtjeneincnndcoaaGreatW.PrintWords Go.Proofs.YtjeneincnndcoaaGreatW.PrintLast Go.Proofs.YtjeneincnndcoaaGreatW.PrintMore
attribute [local go_sem] ie ig ji iY gE gF il hU   -- for this text's walks alone
set_option linter.unusedVariables false
set_option linter.unusedSimpArgs false

mutual
def ag.j2:Nat → List Int → Option (Bool)
 | 0,_=>none
 | k + 1,x1=>(bQ.f k x1).bind fun bt18=>((dA.f k bt18.1 bt18.2.1 bt18.2.2).bind fun bt19=>((az.f k bt18.1 bt18.2.1 bt18.2.2).bind fun bt22=>((aT.f k bt18.1 bt18.2.1 bt18.2.2).bind fun bt23=>((a6.f k bt18.1 bt18.2.1 bt18.2.2).bind fun bt24=>((bl.f k bt18.1 bt18.2.1 bt18.2.2).bind fun bt27=>((bc.f k bt18.1 bt18.2.1 bt18.2.2).bind fun bt28=>(if (bt19.2 != bt22.2) = true then (some false) else ((cd.f k bt19.1 bt22.1).bind fun t29=>(if t29 = true then (if (bt23.2 != bt24.2) = true then (some false) else ((cd.f k bt23.1 bt24.1).bind fun t30=>(if t30 = true then (if (bt27.2 != bt28.2) = true then (some false) else ((cd.f k bt27.1 bt28.1).bind fun t31=>(if t31 = true then (if bt19.2 = true then (if (bt19.1.length:Int) < 1 then (some false) else ((cg.f k bt19.1).bind fun t33=>(if t33 = true then ((dc.f k bt19.1 bt18.2.2).bind fun t34=>(if t34 = true then (some false) else (if bt23.2 = true then (if (bt23.1.length:Int) < 1 then (some false) else ((cg.f k bt23.1).bind fun t35=>(if t35 = true then (if 0 ≤ (wrap64 ((bt23.1.length:Int) - 1)) then (if (wrap64 ((bt23.1.length:Int) - 1)) < (bt23.1.length:Int) then (if 0 ≤ bt18.2.2 then (if bt18.2.2 < (bt18.2.1.length:Int) then (if 0 < (bt23.1.length:Int) then (if (rd bt23.1 (wrap64 ((bt23.1.length:Int) - 1))) = (wrap64 ((rd bt18.2.1 bt18.2.2) - (rd bt23.1 0))) then (ag.j3 k bt18.2.2 bt27.1 bt27.2 bt18.1 bt18.2.1) else (some false)) else (none)) else (none)) else (none)) else (none)) else (none)) else (some false)))) else (ag.j3 k bt18.2.2 bt27.1 bt27.2 bt18.1 bt18.2.1)))) else (some false)))) else (if bt23.2 = true then (if (bt23.1.length:Int) < 1 then (some false) else ((cg.f k bt23.1).bind fun t40=>(if t40 = true then (if 0 ≤ (wrap64 ((bt23.1.length:Int) - 1)) then (if (wrap64 ((bt23.1.length:Int) - 1)) < (bt23.1.length:Int) then (if 0 ≤ bt18.2.2 then (if bt18.2.2 < (bt18.2.1.length:Int) then (if 0 < (bt23.1.length:Int) then (if (rd bt23.1 (wrap64 ((bt23.1.length:Int) - 1))) = (wrap64 ((rd bt18.2.1 bt18.2.2) - (rd bt23.1 0))) then (ag.j4 k bt18.2.2 bt27.1 bt27.2 bt18.1 bt18.2.1) else (some false)) else (none)) else (none)) else (none)) else (none)) else (none)) else (some false)))) else (ag.j4 k bt18.2.2 bt27.1 bt27.2 bt18.1 bt18.2.1))) else (some false)))) else (some false)))) else (some false))))))))))
def ag.j3:Nat → Int → List Int → Bool → Int → List Int → Option (Bool)
 | 0,_,_,_,_,_=>none
 | k + 1,x32,x41,x42,x49,x50=>if x42 = true then (if (x41.length:Int) < 1 then (some false) else ((cg.f k x41).bind fun t36=>(if t36 = true then (if 0 < (x41.length:Int) then ((cG.f k (rd x41 0) x50).bind fun bt37=>((cG.f k x49 x50).bind fun bt38=>(if bt37.2 = true then (if bt38.2 = true then (if 0 ≤ x32 then (if x32 < (bt38.1.length:Int) then (if x32 < (bt37.1.length:Int) then (if (rd bt38.1 x32) > (rd bt37.1 x32) then (some false) else ((dc.f k x41 x49).bind fun t39=>(if (((rd bt38.1 x32) == (rd bt37.1 x32)) != t39) = true then (some false) else (some true)))) else (none)) else (none)) else (none)) else (some false)) else (some false)))) else (none)) else (some false)))) else (some true)
def ag.j4:Nat → Int → List Int → Bool → Int → List Int → Option (Bool)
 | 0,_,_,_,_,_=>none
 | k + 1,x32,x41,x42,x49,x50=>if x42 = true then (if (x41.length:Int) < 1 then (some false) else ((cg.f k x41).bind fun t43=>(if t43 = true then (if 0 < (x41.length:Int) then ((cG.f k (rd x41 0) x50).bind fun bt44=>((cG.f k x49 x50).bind fun bt45=>(if bt44.2 = true then (if bt45.2 = true then (if 0 ≤ x32 then (if x32 < (bt45.1.length:Int) then (if x32 < (bt44.1.length:Int) then (if (rd bt45.1 x32) > (rd bt44.1 x32) then (some false) else ((dc.f k x41 x49).bind fun t46=>(if (((rd bt45.1 x32) == (rd bt44.1 x32)) != t46) = true then (some false) else (some true)))) else (none)) else (none)) else (none)) else (some false)) else (some false)))) else (none)) else (some false)))) else (some true)
def ag.l0:Nat → List Int → Int → Int → Int → List Int → List Int → Int → List Int → Int → Int → Int → List Int → Option (Bool)
 | 0,_,_,_,_,_,_,_,_,_,_,_,_=>none
 | k + 1,x1,x6,x7,x8,x12,x16,x20,x21,x25,x26,x47,x48=>if 0 ≤ x20 then (if x26 < (shl .i64 1 x20) then (if 0 ≤ x6 then (if (Int.tmod (shr .i64 x26 x6) 2) = 1 then (if 0 ≤ x7 then (if (Int.tmod (shr .i64 x26 x7) 2) = 1 then (ag.l0 k x1 x6 x7 x8 x12 x16 x20 x21 x25 (wrap64 (x26 + 1)) x47 x48) else ((dq.f k x26).bind fun t11=>((cb.f k x47 x48 t11).bind fun bt13=>(if bt13.2 = true then (if bt13.1 = true then (ag.l0 k x1 x6 x7 x8 x12 x16 x20 x21 (wrap64 (x25 + 1)) (wrap64 (x26 + 1)) x47 x48) else (ag.l0 k x1 x6 x7 x8 x12 x16 x20 x21 x25 (wrap64 (x26 + 1)) x47 x48)) else (some false))))) else (none)) else ((dq.f k x26).bind fun t14=>((cb.f k x47 x48 t14).bind fun bt15=>(if bt15.2 = true then (if bt15.1 = true then (ag.l0 k x1 x6 x7 x8 x12 x16 x20 x21 (wrap64 (x25 + 1)) (wrap64 (x26 + 1)) x47 x48) else (ag.l0 k x1 x6 x7 x8 x12 x16 x20 x21 x25 (wrap64 (x26 + 1)) x47 x48)) else (some false))))) else (none)) else (if x25 = x8 then (ag.l1 k x1 x6 x7 x16 x21 x12 (x12.length:Int) 0) else (some false))) else (none)
def ag.l1:Nat → List Int → Int → Int → List Int → List Int → List Int → Int → Int → Option (Bool)
 | 0,_,_,_,_,_,_,_,_=>none
 | k + 1,x1,x6,x7,x16,x21,x5,x9,x10=>if x10 < x9 then (if 0 ≤ x10 then (if x10 < (x5.length:Int) then (if x10 < (x21.length:Int) then ((dc.f k x16 x10).bind fun t17=>(if ((decide ((rd x5 x10) > (rd x21 x10))) != t17) = true then (some false) else (if x10 = x6 then (if (rd x5 x10) > (rd x21 x10) then (some false) else (ag.l1 k x1 x6 x7 x16 x21 x5 x9 (wrap64 (x10 + 1)))) else (if x10 = x7 then (if (rd x5 x10) > (rd x21 x10) then (some false) else (ag.l1 k x1 x6 x7 x16 x21 x5 x9 (wrap64 (x10 + 1)))) else (ag.l1 k x1 x6 x7 x16 x21 x5 x9 (wrap64 (x10 + 1))))))) else (none)) else (none)) else (none)) else (ag.j2 k x1)
end
def ag.f (k:Nat) (l0:List Int) (l1:List Int):Option (Bool):=(fI.f l0 l1).bind fun t3=>(if t3 = true then (some true) else ((cO.f k l0).bind fun bt4=>((cf.f k bt4.1 bt4.2.1 bt4.2.2.1 bt4.2.2.2).bind fun bt5=>((cX.f k bt4.1 bt4.2.1 bt4.2.2.1 bt4.2.2.2).bind fun bt6=>((cy.f k bt4.1 bt4.2.1 bt4.2.2.1 bt4.2.2.2).bind fun bt7=>((bZ.f k bt4.1 bt4.2.1 bt4.2.2.1 bt4.2.2.2).bind fun bt8=>((dy.f k bt4.1 bt4.2.1 bt4.2.2.1 bt4.2.2.2).bind fun bt9=>((ba.f k bt4.1 bt4.2.1 bt4.2.2.1 bt4.2.2.2).bind fun bt10=>(if (bt5.2 != bt6.2) = true then (some false) else (if bt5.1 = bt6.1 then (if (bt7.2 != bt8.2) = true then (some false) else ((cd.f k bt7.1 bt8.1).bind fun t11=>(if t11 = true then (if (bt9.2 != bt10.2) = true then (some false) else ((cd.f k bt9.1 bt10.1).bind fun t12=>(if t12 = true then (if (bt7.2 != bt5.2) = true then (some false) else (if (bt9.2 != bt5.2) = true then (some false) else (if bt5.2 = true then ((dX.f k bt4.1 bt4.2.1).bind fun bt13=>((cf.f k bt4.1 bt4.2.1 bt4.2.2.2 bt4.2.2.1).bind fun bt14=>(if bt13.2 = true then (if bt14.2 = true then (if bt14.1 = bt5.1 then (if (bt7.1.length:Int) = (bt4.2.1.length:Int) then (ag.l0 k l1 bt4.2.2.1 bt4.2.2.2 bt5.1 bt7.1 bt9.1 (bt4.2.1.length:Int) bt13.1 0 0 bt4.1 bt4.2.1) else (some false)) else (some false)) else (some false)) else (some false)))) else (ag.j2 k l1)))) else (some false)))) else (some false)))) else (some false)))))))))))
def ag.T23:Bool × List (List Nat × List Nat):=(true,[([],[]),([],[]),([1],[1]),([0,2,2],[0,2]),([3],[3]),([4],[4]),([4],[4]),([5,3,0,1,2,3,4,5],[5]),([6,7,0,1,2,3,4,5,6,7],[6])])
def ag.B23:List Nat:=[0,0,2,7,15,31,31,63,255]
theorem ag.tab23:fM .any (opsOf Tryz.f3 23) = ag.T23:=by kernel_rfl
theorem ag.bits23:dB ag.T23.2 ag.B23 = true:=by kernel_rfl
def ag.T33:Bool × List (List Nat × List Nat):=(true,[([],[]),([],[]),([],[]),([1,2],[1,2]),([3],[3]),([0,4],[0,4]),([],[]),([],[]),([6,7],[6,7]),([5,8],[5,8]),([9,8],[9]),([10],[10]),([10],[10]),([11,12,10],[10,11,12]),([13,10,10],[10,13]),([14],[14]),([14],[14]),([15,16,14],[14,15,16]),([14,17,10],[10,14,17]),([18,14,10],[10,18]),([19],[19]),([19],[19]),([19],[19]),([21,22,19],[19,21,22]),([23,19],[19,23]),([20,24,19],[19,20,24]),([19,25,10],[10,19,25]),([10,26],[10,26])])
def ag.B33:List Nat:=[0,0,0,6,14,31,0,0,192,511,1023,2047,2047,8191,16383,32767,32767,131071,262143,524287,1048575,1048575,1048575,7340031,15728639,33554431,67108863,134217727]
theorem ag.tab33:fM .any (opsOf Tryz.f3 33) = ag.T33:=by kernel_rfl
theorem ag.bits33:dB ag.T33.2 ag.B33 = true:=by kernel_rfl
def ag.T48:Bool × List (List Nat × List Nat):=(true,[([],[]),([0],[0]),([1],[1]),([2],[2]),([3],[3]),([4,3,3],[3,4]),([5,3],[3,5]),([3,6],[3,6]),([7,5],[7]),([8],[8]),([8],[8]),([10,8],[8,10]),([11,8],[8,11]),([9,12,8],[8,9,12]),([13,8],[8,13]),([8],[8]),([15,8],[8,15]),([8],[8]),([16,17,8],[8,16,17]),([18,8],[8,18]),([8],[8]),([20,8],[8,20]),([21,8],[8,21]),([19,22,8],[8,19,22]),([14,23,8],[8,14,23]),([8,24],[8,24])])
def ag.B48:List Nat:=[0,1,3,7,15,31,63,127,255,511,511,1535,3583,8191,16383,511,33279,511,229887,492031,511,1049087,3146239,8356351,16777215,33554431]
theorem ag.tab48:fM .any (opsOf Tryz.f3 48) = ag.T48:=by kernel_rfl
theorem ag.bits48:dB ag.T48.2 ag.B48 = true:=by kernel_rfl
def ag.T53:Bool × List (List Nat × List Nat):=(true,[([],[]),([0],[0]),([1],[1]),([],[]),([3],[3]),([2,4],[2,4]),([5],[5]),([6],[6]),([7],[7]),([7],[7]),([8,6,0,1,2,3,4,5,6,7,8],[8]),([9,10,0,1,2,3,4,5,6,7,8,9,10],[9])])
def ag.B53:List Nat:=[0,1,3,0,8,31,63,127,255,255,511,2047]
theorem ag.tab53:fM .any (opsOf Tryz.f3 53) = ag.T53:=by kernel_rfl
theorem ag.bits53:dB ag.T53.2 ag.B53 = true:=by kernel_rfl
def ag.T55:Bool × List (List Nat × List Nat):=(true,[([],[]),([0],[0]),([1],[1]),([2],[2]),([3,2],[2,3]),([2,4],[2,4]),([5,2],[5]),([6],[6]),([6],[6]),([7,8,6],[6,7,8]),([9,6],[6,9]),([6],[6]),([6],[6]),([11,12,6],[6,11,12]),([13,6],[6,13]),([10,14,6],[6,10,14]),([6,15],[6,15]),([16,6],[16]),([17],[17]),([17],[17]),([18,19,17],[17,18,19]),([20,17],[17,20]),([17],[17]),([17],[17]),([22,23,17],[17,22,23]),([24,17],[17,24]),([21,25,17],[17,21,25]),([17],[17]),([17],[17]),([28,17],[17,28]),([27,29,17,17],[17,27,29]),([26,30,17],[17,26,30]),([17,31],[17,31])])
def ag.B55:List Nat:=[0,1,3,7,15,31,63,127,127,511,1023,127,127,6271,14463,32767,65535,131071,262143,262143,1048575,2097151,262143,262143,12845055,29622271,67108863,262143,262143,268697599,939786239,2147483647,4294967295]
theorem ag.tab55:fM .any (opsOf Tryz.f3 55) = ag.T55:=by kernel_rfl
theorem ag.bits55:dB ag.T55.2 ag.B55 = true:=by kernel_rfl
theorem fx {p:Prop} (h:∀ q:Prop,(p → q) → q):p:=h p id
section
variable {α:Type} {d:Kd α} {e base g n:Nat} {W W1 w0:World} {ok:Nat → Prop} {v:Value} {xs:List α} {o:Obj}
theorem hqR (hq:W.drewN n = W1) (h:d.R e W base ok v xs):d.R e W1 base ok v xs:=hq ▸ Kd.aK h n
theorem hqS (hq:W.drewN n = W1) (h:Kd.S d e W base ok v xs):Kd.S d e W1 base ok v xs:=hq ▸ Kd.j9 h n
theorem hqN (hq:W.drewN n = W1) (h:Kd.N d e W base ok v xs):Kd.N d e W1 base ok v xs:=hq ▸ Kd.kT h n
theorem hqB (hq:W.drewN n = W1) (h:W.heap[g]? = some o):W1.heap[g]? = some o:=hq ▸ ar h n
theorem hqH (hq:W.drewN n = W1) (h:Below base w0 W):Below base w0 W1:=hq ▸ ax h n
end
def patch:List Nat → (Nat → Value) → Nat → List Value → List Value
 | [],_,_,l=>l
 | _ :: _,_,_,[]=>[]
 | 0 :: m,f,k,x :: l=>x :: patch m f k l
 | (_ + 1) :: m,f,k,_ :: l=>f k :: patch m f (k + 1) l
def picks:List Nat → List Value → List Value
 | [],_=>[]
 | _ :: _,[]=>[]
 | 0 :: m,_ :: l=>picks m l
 | (_ + 1) :: m,x :: l=>x :: picks m l
theorem cutP {P:Program} {s:Code} {K:Act → World → Prop} {Q':Exit → Act → World → Prop} {L:List Value} {df} {w:World} (m:List Nat) (R:(Nat → Value) → World → Prop)
  (rest:∀ f wc,R f wc → K ⟨(patch m f 0 L).toArray,df⟩ wc)
  (first:∀ J K':Act → World → Prop,(∀ f wc,R f wc → J ⟨(patch m f 0 L).toArray,df⟩ wc) → (∀ a' w',Met J a' w' → K' a' w') → s.wp P (Exit.then K' Q') ⟨L.toArray,df⟩ w):s.wp P (Exit.then K Q') ⟨L.toArray,df⟩ w:=by
 refine wp_cut (fun a' w'=>∃ f,R f w' ∧ a' = ⟨(patch m f 0 L).toArray,df⟩) ?_ ?_
 ·rintro a' w' ⟨f,h,rfl⟩
  exact rest f w' h
 ·intro J K' hJ hK;exact first J K' (fun f wc h=>hJ _ _ ⟨f,h,rfl⟩) hK
theorem lL {J:Act → World → Prop} {m:List Nat} {L L':List Value} {df} {R:(Nat → Value) → World → Prop} {w':World} (hJ:∀ f wc,R f wc → J ⟨(patch m f 0 L).toArray,df⟩ wc) (h:R (fun k=>(picks m L').getD k (.bool false)) w')
  (e:patch m (fun k=>(picks m L').getD k (.bool false)) 0 L = L':=by as_aux_lemma=>kernel_rfl):J ⟨L'.toArray,df⟩ w':=by
 have h1:=hJ (fun k=>(picks m L').getD k (.bool false)) _ h;rw [e] at h1;exact h1
theorem ag.calls (k:Nat) (A0:Option Addr) (c0:Nat) (l0:List Int) (A1:Option Addr) (c1:Nat) (l1:List Int) (r:Bool) (w:World) (hr0:Kd.C (Kd.int .u8) w A0 l0.length l0) (hc0:l0.length ≤ c0) (hr1:Kd.C (Kd.int .u8) w A1 l1.length l1) (hc1:l1.length ≤ c1) (hr_:ak (r = true)) (h:ag.f k l0 l1 = some r) :
  Calls Tryz.prog 3 #[.slice A0 l0.length c0,.slice A1 l1.length c1] w fun e w'=>e = .returned (.bool r) ∧ Below w.heap.size w w':=by
 have hu26:=Tryz.underlying26;have HR0:=aM hr0;have HC0:=aM hc0;clear hr0 hc0;have HR1:=aM hr1;have HC1:=aM hc1;clear hr1 hc1;have HB:=aM (Below.refl w.heap.size w);have H:((fI.f l0 l1).bind fun t241=>(if t241 = true then (some true) else ((cO.f k l0).bind fun bt242=>((cf.f k bt242.1 bt242.2.1 bt242.2.2.1 bt242.2.2.2).bind fun bt249=>((cX.f k bt242.1 bt242.2.1 bt242.2.2.1 bt242.2.2.2).bind fun bt251=>((cy.f k bt242.1 bt242.2.1 bt242.2.2.1 bt242.2.2.2).bind fun bt253=>((bZ.f k bt242.1 bt242.2.1 bt242.2.2.1 bt242.2.2.2).bind fun bt257=>((dy.f k bt242.1 bt242.2.1 bt242.2.2.1 bt242.2.2.2).bind fun bt261=>((ba.f k bt242.1 bt242.2.1 bt242.2.2.1 bt242.2.2.2).bind fun bt265=>(if (bt249.2 != bt251.2) = true then (some false) else (if bt249.1 = bt251.1 then (if (bt253.2 != bt257.2) = true then (some false) else ((cd.f k bt253.1 bt257.1).bind fun t269=>(if t269 = true then (if (bt261.2 != bt265.2) = true then (some false) else ((cd.f k bt261.1 bt265.1).bind fun t270=>(if t270 = true then (if (bt253.2 != bt249.2) = true then (some false) else (if (bt261.2 != bt249.2) = true then (some false) else (if bt249.2 = true then ((dX.f k bt242.1 bt242.2.1).bind fun bt271=>((cf.f k bt242.1 bt242.2.1 bt242.2.2.2 bt242.2.2.1).bind fun bt275=>(if bt271.2 = true then (if bt275.2 = true then (if bt275.1 = bt249.1 then (if (bt253.1.length:Int) = (bt242.2.1.length:Int) then (ag.l0 k l1 bt242.2.2.1 bt242.2.2.2 bt249.1 bt253.1 bt261.1 (bt242.2.1.length:Int) bt271.1 0 0 bt242.1 bt242.2.1) else (some false)) else (some false)) else (some false)) else (some false)))) else (ag.j2 k l1)))) else (some false)))) else (some false)))) else (some false)))))))))))) = some r:=h;clear h;as_aux_lemma =>
 replace H:=oB H;obtain ⟨t241,A3,H⟩:=H;(try dsimp only at H)
 by_cases c4:t241 = true
 ·subst c4;rw [if_pos rfl] at H;obtain rfl:=Option.some.inj H;as_aux_lemma =>
  go_enter Tryz.func3,Tryz.ntmps3;go_wp2_with (first|((with_reducible refine ah (f:=4) rfl ?_);refine gL 51 Tryz.func4 #[.slice A0 l0.length c0,.slice A1 l1.length c1] ?_;(with_reducible refine (fI.calls _ _ l0 _ _ l1 true _ ?side1 ?side2 ?side3 ?side4 A3.out).mono ?_);(case side1=>exact qc HR0.out);(case side2=>exact HC0.out);(case side3=>exact qc HR1.out);(case side4=>exact HC1.out);rintro e w' ⟨rfl,⟨nd,rfl⟩⟩;refine ⟨_,rfl,?_⟩))
  go_ret
  exact ⟨eE,by exact bw⟩
 ·replace c4:=Bool.eq_false_iff.mpr c4;subst c4;rw [if_neg (show ¬ (false = true) by decide)] at H;as_aux_lemma =>
  replace H:=oB H;obtain ⟨⟨t242,t243,t246,t247⟩,A5,H⟩:=H;(try dsimp only at H)
  replace H:=oB H;obtain ⟨⟨t249,t250⟩,A6,H⟩:=H;(try dsimp only at H)
  as_aux_lemma =>
  replace H:=oB H;obtain ⟨⟨t251,t252⟩,A7,H⟩:=H;(try dsimp only at H)
  replace H:=oB H;obtain ⟨⟨t253,t256⟩,A8,H⟩:=H;(try dsimp only at H)
  as_aux_lemma =>
  replace H:=oB H;obtain ⟨⟨t257,t260⟩,A9,H⟩:=H;(try dsimp only at H)
  replace H:=oB H;obtain ⟨⟨t261,t264⟩,A10,H⟩:=H;(try dsimp only at H)
  as_aux_lemma =>
  replace H:=oB H;obtain ⟨⟨t265,t268⟩,A11,H⟩:=H;(try dsimp only at H)
  replace H:=dM H hr_.out;obtain ⟨c12,H⟩:=H;have c12b0:(t250 != t252) = false:=by simpa using c12
  (try (have c12b1:decide (t250 = t252) = true:=by simpa using c12))
  (try (have c12b2:(t250 == t252) = true:=by simpa using c12))
  clear c12;as_aux_lemma =>
  replace H:=dN H hr_.out;obtain ⟨c13,H⟩:=H;have c13b0:(t249 == t251) = true:=beq_iff_eq.mpr c13;have c13b1:(t249 != t251) = false:=bne_eq_false_iff_eq.mpr c13;clear c13;as_aux_lemma =>
  replace H:=dM H hr_.out;obtain ⟨c14,H⟩:=H;have c14b0:(t256 != t260) = false:=by simpa using c14
  (try (have c14b1:decide (t256 = t260) = true:=by simpa using c14))
  (try (have c14b2:(t256 == t260) = true:=by simpa using c14))
  clear c14;as_aux_lemma =>
  replace H:=oB H;obtain ⟨t269,A15,H⟩:=H;(try dsimp only at H)
  replace H:=dN H hr_.out;obtain ⟨c16,H⟩:=H;subst c16;as_aux_lemma =>
  replace H:=dM H hr_.out;obtain ⟨c17,H⟩:=H;have c17b0:(t264 != t268) = false:=by simpa using c17
  (try (have c17b1:decide (t264 = t268) = true:=by simpa using c17))
  (try (have c17b2:(t264 == t268) = true:=by simpa using c17))
  clear c17;as_aux_lemma =>
  replace H:=oB H;obtain ⟨t270,A18,H⟩:=H;(try dsimp only at H)
  replace H:=dN H hr_.out;obtain ⟨c19,H⟩:=H;subst c19;as_aux_lemma =>
  replace H:=dM H hr_.out;obtain ⟨c20,H⟩:=H;have c20b0:(t256 != t250) = false:=by simpa using c20
  (try (have c20b1:decide (t256 = t250) = true:=by simpa using c20))
  (try (have c20b2:(t256 == t250) = true:=by simpa using c20))
  clear c20;as_aux_lemma =>
  replace H:=dM H hr_.out;obtain ⟨c21,H⟩:=H;have c21b0:(t264 != t250) = false:=by simpa using c21
  (try (have c21b1:decide (t264 = t250) = true:=by simpa using c21))
  (try (have c21b2:(t264 == t250) = true:=by simpa using c21))
  clear c21;have HC22:=aM H;clear H;as_aux_lemma =>
  go_enter Tryz.func3,Tryz.ntmps3;go_wp2_with (first|((with_reducible refine ah (f:=4) rfl ?_);refine gL 51 Tryz.func4 #[.slice A0 l0.length c0,.slice A1 l1.length c1] ?_;(with_reducible refine (fI.calls _ _ l0 _ _ l1 false _ ?side1 ?side2 ?side3 ?side4 A3.out).mono ?_);(case side1=>exact qc HR0.out);(case side2=>exact HC0.out);(case side3=>exact qc HR1.out);(case side4=>exact HC1.out);rintro e w' ⟨rfl,⟨nd,rfl⟩⟩;refine ⟨_,rfl,?_⟩)|((with_reducible refine ah (f:=5) rfl ?_);refine fx ?_))
  intro q_ hq_;refine hq_ ?_;clear hq_ q_;as_aux_lemma =>
  go_wp2_with (first|((with_reducible refine ah (f:=5) rfl ?_);refine gL 54 Tryz.func5 #[.slice A0 l0.length c0] ?_;(with_reducible refine (cO.calls k _ _ l0 t242 t243 t246 t247 _ ?side1 ?side2 A5.out).mono ?_);(case side1=>exact qc HR0.out);(case side2=>exact HC0.out);rintro e w23 ⟨v244,rfl,ho0,hb⟩;refine ⟨_,rfl,?_⟩;have HO245:=aM (Kd.bg ho0 (au bw));replace HB:=aM (ae bw hb);(try clear hb);(try clear ho0))|((with_reducible refine aC (N:=5) rfl ?_);refine fx ?_))
  intro q_ hq_;refine hq_ ?_;clear hq_ q_;as_aux_lemma =>
  go_wp2_with (first|((with_reducible refine aC (N:=5) rfl ?_);(try (refine cm (by rfl) ?_;dsimp only));refine bE 5 #[.int .i64 0,.slice none 0 0] 26 ?_;intro gb248 hg w24 hbox hb;replace HO245:=aM (Kd.aG (qra HO245.out) hb);have BK248:=aM (hbox);have GW248:=aM (gS hg);have GE248:=aM (gS hg);replace HB:=aM (ae bw hb);clear hb hbox hg;have hcz25_0:=cz BK248.out 0;have hcz25_1:=cz BK248.out 1;have hfz25_0:=aa BK248.out 0;have hfz25_1:=aa BK248.out 1;obtain ⟨Ao26,co26,eo26⟩:=Kd.aX HO245.out;subst eo26)|((with_reducible refine ah (f:=6) rfl ?_);refine fx ?_))
  intro q_ hq_;refine hq_ ?_;clear hq_ q_;as_aux_lemma =>
  go_wp2_with (first|((with_reducible refine ah (f:=6) rfl ?_);refine gL 62 Tryz.func6 #[.agg #[.int .i64 t242,.slice Ao26 t243.length co26],.int .i64 t246,.int .i64 t247] ?_;(with_reducible refine (cf.calls k t242 _ _ t243 t246 t247 t249 t250 _ ?side1 ?side2 A6.out).mono ?_);(case side1=>refine (Kd.aj (e:=3) (base:=w.heap.size) (ok:=fun k_=>True) (n:=t243.length) (c:=co26) ?_).2.2;exact (tR HO245.out BK248.out));(case side2=>exact (Kd.aj HO245.out).2.1);rintro e w27 ⟨rfl,hb⟩;refine ⟨_,rfl,?_⟩;replace HO245:=aM (Kd.aG (tR HO245.out BK248.out) hb);replace BK248:=aM (bP BK248.out hb);replace HB:=aM (ae bw hb);(try clear hb);(try clear hk);have hcz28_0:=cz BK248.out 0;have hcz28_1:=cz BK248.out 1;have hfz28_0:=aa BK248.out 0;have hfz28_1:=aa BK248.out 1)|((with_reducible refine ah (f:=7) rfl ?_);refine fx ?_))
  intro q_ hq_;refine hq_ ?_;clear hq_ q_;as_aux_lemma =>
  go_wp2_with (first|((with_reducible refine ah (f:=7) rfl ?_);refine gL 69 Tryz.func7 #[.agg #[.int .i64 t242,.slice Ao26 t243.length co26],.int .i64 t246,.int .i64 t247] ?_;(with_reducible refine (cX.calls k t242 _ _ t243 t246 t247 t251 t252 _ ?side1 ?side2 A7.out).mono ?_);(case side1=>exact qc (Kd.aj HO245.out).2.2);(case side2=>exact (Kd.aj HO245.out).2.1);rintro e w29 ⟨rfl,hb⟩;refine ⟨_,rfl,?_⟩;replace HO245:=aM (Kd.aG (qra HO245.out) hb);replace BK248:=aM (bB BK248.out hb);replace HB:=aM (ae bw hb);(try clear hb);have hcz30_0:=cz BK248.out 0;have hcz30_1:=cz BK248.out 1;have hfz30_0:=aa BK248.out 0;have hfz30_1:=aa BK248.out 1)|((with_reducible refine ah (f:=8) rfl ?_);refine fx ?_))
  intro q_ hq_;refine hq_ ?_;clear hq_ q_;as_aux_lemma =>
  go_wp2_with (first|((with_reducible refine ah (f:=8) rfl ?_);refine gL 76 Tryz.func8 #[.agg #[.int .i64 t242,.slice Ao26 t243.length co26],.int .i64 t246,.int .i64 t247] ?_;(with_reducible refine (cy.calls k t242 _ _ t243 t246 t247 t253 t256 _ ?side1 ?side2 A8.out).mono ?_);(case side1=>exact qc (Kd.aj HO245.out).2.2);(case side2=>exact (Kd.aj HO245.out).2.1);rintro e w31 ⟨v254,rfl,ho0,hb⟩;refine ⟨_,rfl,?_⟩;have HO255:=aM (Kd.bg (Kd.bj ho0 (Kd.dd (qra HO245.out))) (au bw));replace HO245:=aM (Kd.aH (qra HO245.out) (Kd.bi ho0) hb);replace BK248:=aM (bB BK248.out hb);replace HB:=aM (ae bw hb);(try clear hb);(try clear ho0);have hcz32_0:=cz BK248.out 0;have hcz32_1:=cz BK248.out 1;have hfz32_0:=aa BK248.out 0;have hfz32_1:=aa BK248.out 1)|((with_reducible refine ah (f:=9) rfl ?_);refine fx ?_))
  intro q_ hq_;refine hq_ ?_;clear hq_ q_;as_aux_lemma =>
  go_wp2_with (first|((with_reducible refine ah (f:=9) rfl ?_);refine gL 83 Tryz.func9 #[.agg #[.int .i64 t242,.slice Ao26 t243.length co26],.int .i64 t246,.int .i64 t247] ?_;(with_reducible refine (bZ.calls k t242 _ _ t243 t246 t247 t257 t260 _ ?side1 ?side2 A9.out).mono ?_);(case side1=>exact qc (Kd.aj HO245.out).2.2);(case side2=>exact (Kd.aj HO245.out).2.1);rintro e w33 ⟨v258,rfl,ho0,hb⟩;refine ⟨_,rfl,?_⟩;have HO259:=aM (Kd.bg (Kd.bj (Kd.bj ho0 (Kd.dd (qra HO245.out))) (Kd.dd (qra HO255.out))) (au bw));replace HO245:=aM (Kd.aH (qra HO245.out) (Kd.bi ho0) hb);replace HO255:=aM (Kd.aH (qra HO255.out) (Kd.bi ho0) hb);replace BK248:=aM (bB BK248.out hb);replace HB:=aM (ae bw hb);(try clear hb);(try clear ho0);have hcz34_0:=cz BK248.out 0;have hcz34_1:=cz BK248.out 1;have hfz34_0:=aa BK248.out 0;have hfz34_1:=aa BK248.out 1)|((with_reducible refine ah (f:=10) rfl ?_);refine fx ?_))
  intro q_ hq_;refine hq_ ?_;clear hq_ q_;as_aux_lemma =>
  go_wp2_with (first|((with_reducible refine ah (f:=10) rfl ?_);refine gL 90 Tryz.func10 #[.agg #[.int .i64 t242,.slice Ao26 t243.length co26],.int .i64 t246,.int .i64 t247] ?_;(with_reducible refine (dy.calls k t242 _ _ t243 t246 t247 t261 t264 _ ?side1 ?side2 A10.out).mono ?_);(case side1=>exact qc (Kd.aj HO245.out).2.2);(case side2=>exact (Kd.aj HO245.out).2.1);rintro e w35 ⟨v262,rfl,ho0,hb⟩;refine ⟨_,rfl,?_⟩;have HO263:=aM (Kd.bg (Kd.bj (Kd.bj (Kd.bj ho0 (Kd.dd (qra HO245.out))) (Kd.dd (qra HO255.out))) (Kd.dd (qra HO259.out))) (au bw));replace HO245:=aM (Kd.aH (qra HO245.out) (Kd.bi ho0) hb);replace HO255:=aM (Kd.aH (qra HO255.out) (Kd.bi ho0) hb);replace HO259:=aM (Kd.aH (qra HO259.out) (Kd.bi ho0) hb);replace BK248:=aM (bB BK248.out hb);replace HB:=aM (ae bw hb);(try clear hb);(try clear ho0);have hcz36_0:=cz BK248.out 0;have hcz36_1:=cz BK248.out 1;have hfz36_0:=aa BK248.out 0;have hfz36_1:=aa BK248.out 1)|((with_reducible refine ah (f:=11) rfl ?_);refine fx ?_))
  intro q_ hq_;refine hq_ ?_;clear hq_ q_;as_aux_lemma =>
  go_wp2_with (first|((with_reducible refine ah (f:=11) rfl ?_);refine gL 97 Tryz.func11 #[.agg #[.int .i64 t242,.slice Ao26 t243.length co26],.int .i64 t246,.int .i64 t247] ?_;(with_reducible refine (ba.calls k t242 _ _ t243 t246 t247 t265 t268 _ ?side1 ?side2 A11.out).mono ?_);(case side1=>exact qc (Kd.aj HO245.out).2.2);(case side2=>exact (Kd.aj HO245.out).2.1);rintro e w37 ⟨v266,rfl,ho0,hb⟩;refine ⟨_,rfl,?_⟩;have HO267:=aM (Kd.bg (Kd.bj (Kd.bj (Kd.bj (Kd.bj ho0 (Kd.dd (qra HO245.out))) (Kd.dd (qra HO255.out))) (Kd.dd (qra HO259.out))) (Kd.dd (qra HO263.out))) (au bw));replace HO245:=aM (Kd.aH (qra HO245.out) (Kd.bi ho0) hb);replace HO255:=aM (Kd.aH (qra HO255.out) (Kd.bi ho0) hb);replace HO259:=aM (Kd.aH (qra HO259.out) (Kd.bi ho0) hb);replace HO263:=aM (Kd.aH (qra HO263.out) (Kd.bi ho0) hb);replace BK248:=aM (bB BK248.out hb);replace HB:=aM (ae bw hb);(try clear hb);(try clear ho0);obtain ⟨Ao38,co38,eo38⟩:=Kd.aX HO255.out;subst eo38;obtain ⟨Ao39,co39,eo39⟩:=Kd.aX HO259.out;subst eo39)|(go_at_call 12;refine fx ?_))
  intro q_ hq_;refine hq_ ?_;clear hq_ q_;as_aux_lemma =>
  go_upto_if 140 with (first|(go_at_call 12;(with_reducible refine (cd.calls k _ _ t253 _ _ t257 true _ ?side1 ?side2 ?side3 ?side4 A15.out).mono ?_);(case side1=>exact qc (Kd.aj HO255.out).2.2);(case side2=>exact (Kd.aj HO255.out).2.1);(case side3=>exact qc (Kd.aj HO259.out).2.2);(case side4=>exact (Kd.aj HO259.out).2.1);rintro e w' ⟨rfl,⟨nd,rfl⟩⟩;obtain ⟨Ao40,co40,eo40⟩:=Kd.aX HO263.out;subst eo40;obtain ⟨Ao41,co41,eo41⟩:=Kd.aX HO267.out;subst eo41)|(go_at_call 12;(with_reducible refine (cd.calls k _ _ t261 _ _ t265 true _ ?side1 ?side2 ?side3 ?side4 A18.out).mono ?_);(case side1=>exact qc (Kd.aj HO263.out).2.2);(case side2=>exact (Kd.aj HO263.out).2.1);(case side3=>exact qc (Kd.aj HO267.out).2.2);(case side4=>exact (Kd.aj HO267.out).2.1);rintro e w' ⟨rfl,⟨nd,rfl⟩⟩))
  (try simp only [Act.put,sA,sZ,sS])
  refine cutP [0,0,0,0,1,0,0,0,0,0,0,0,0,0,0,0,0,0,0,0,1,1,1,1,1,1,1,1,1,1,1,0,0,0,0,0,0,0,0,0,0,0,0,0,0,0,0,0,0,0,0,0,0,0,0,0,0,0,0,0,0,0,0,0,0,0,0,0,0,0,0,0,0,0,0,0,0,0,0,0,0,0,0,0,0,0,0,0,0,0,0,0,0,0,0,0,0,0,0,0,0,0,0,0,0,0,0,0,0,0,0,0,0,0,0,0,0,0,0,0,0,0,0,0,0,0,0,0,0,0,0,0,0,0,0,0,0,0,0,0,0,1,1,1,1,1,1,1,1,1,1,1,1,1,1,1,1,1,1,1,1,1,1,1,1,1,1,1,1,1,1,1,1,1,1,1,1,1,1,1,1,1,1,1,1,1,1,1,1,1,1,1,1,1,1,1,1,1,1,1,1,1,1,1,1,1,1,1,1,1,1,1,1,1,1,1,1,1,1,1,1,1,1,1,1,1,1,1,1,1,1,1,1,1,1,1,1,1,1,1,1,1] (fun f_ wc=>∃ (kq:Nat),ak (ag.j2 kq l1 = some r) ∧ ak (kq ≤ k) ∧ ak (Kd.R (Kd.int .i64) 3 wc w.heap.size (fun _=>True) (.slice Ao26 t243.length co26) t243) ∧ ak (wc.heap[gb248]? = some (.cells #[.int .i64 t242,(.slice Ao26 t243.length co26)] 26 (0,0))) ∧ ak (Below w.heap.size w wc)) ?rest ?first
  case first =>
   intro _ _ hJ_ _;have H:=HC22.out;clear HC22;as_aux_lemma =>
   by_cases c42:t250 = true
   ·subst c42;rw [if_pos rfl] at H;as_aux_lemma =>
    replace H:=oB H;obtain ⟨⟨t271,t274⟩,A43,H⟩:=H;(try dsimp only at H)
    replace H:=oB H;obtain ⟨⟨t275,t276⟩,A44,H⟩:=H;(try dsimp only at H)
    as_aux_lemma =>
    replace H:=dN H hr_.out;obtain ⟨c45,H⟩:=H;subst c45;replace H:=dN H hr_.out;obtain ⟨c46,H⟩:=H;subst c46;as_aux_lemma =>
    replace H:=dN H hr_.out;obtain ⟨c47,H⟩:=H;have c47b0:(t275 == t249) = true:=beq_iff_eq.mpr c47;have c47b1:(t275 != t249) = false:=bne_eq_false_iff_eq.mpr c47;clear c47;(first|rw [c47b0]|(simp only [dl,dG];rw [c47b0])|skip)
    as_aux_lemma =>
    replace H:=dN H hr_.out;obtain ⟨c48,H⟩:=H;have c48b0:((t253.length:Int) == (t243.length:Int)) = true:=beq_iff_eq.mpr c48;have c48b1:((t253.length:Int) != (t243.length:Int)) = false:=bne_eq_false_iff_eq.mpr c48;have c48b2:(t253.length == t243.length) = true:=by first|simpa using c48|(simp at c48 ⊢;omega)
    clear c48;have H':=aM H;clear H;have hcz49_0:=cz BK248.out 0;have hcz49_1:=cz BK248.out 1;have hfz49_0:=aa BK248.out 0;have hfz49_1:=aa BK248.out 1;as_aux_lemma =>
    go_wp2_with (first|((with_reducible refine ah (f:=13) rfl ?_);refine gL 146 Tryz.func13 #[.agg #[.int .i64 t242,.slice Ao26 t243.length co26]] ?_;(with_reducible refine (dX.calls k t242 _ _ t243 t271 true _ ?side1 ?side2 A43.out).mono ?_);(case side1=>exact qc (Kd.aj HO245.out).2.2);(case side2=>exact (Kd.aj HO245.out).2.1);rintro e w50 ⟨v272,rfl,ho0,hb⟩;refine ⟨_,rfl,?_⟩;have HO273:=aM (Kd.bg (Kd.bj (Kd.bj (Kd.bj (Kd.bj (Kd.bj ho0 (Kd.dd (qra HO245.out))) (Kd.dd (qra HO255.out))) (Kd.dd (qra HO259.out))) (Kd.dd (qra HO263.out))) (Kd.dd (qra HO267.out))) (au bw));replace HO245:=aM (Kd.aH (qra HO245.out) (Kd.bi ho0) hb);replace HO255:=aM (Kd.aH (qra HO255.out) (Kd.bi ho0) hb);replace HO259:=aM (Kd.aH (qra HO259.out) (Kd.bi ho0) hb);replace HO263:=aM (Kd.aH (qra HO263.out) (Kd.bi ho0) hb);replace HO267:=aM (Kd.aH (qra HO267.out) (Kd.bi ho0) hb);replace BK248:=aM (bB BK248.out hb);replace HB:=aM (ae bw hb);(try clear hb);(try clear ho0);have hcz51_0:=cz BK248.out 0;have hcz51_1:=cz BK248.out 1;have hfz51_0:=aa BK248.out 0;have hfz51_1:=aa BK248.out 1)|((with_reducible refine ah (f:=6) rfl ?_);refine fx ?_))
    intro q_ hq_;refine hq_ ?_;clear hq_ q_;as_aux_lemma =>
    try go_wp2_with (first|((with_reducible refine ah (f:=6) rfl ?_);refine gL 153 Tryz.func6 #[.agg #[.int .i64 t242,.slice Ao26 t243.length co26],.int .i64 t247,.int .i64 t246] ?_;(with_reducible refine (cf.calls k t242 _ _ t243 t247 t246 t275 true _ ?side1 ?side2 A44.out).mono ?_);(case side1=>exact qc (Kd.aj HO245.out).2.2);(case side2=>exact (Kd.aj HO245.out).2.1);rintro e w52 ⟨rfl,hb⟩;refine ⟨_,rfl,?_⟩;replace HO245:=aM (Kd.aG (qra HO245.out) hb);replace HO255:=aM (Kd.aG (qra HO255.out) hb);replace HO259:=aM (Kd.aG (qra HO259.out) hb);replace HO263:=aM (Kd.aG (qra HO263.out) hb);replace HO267:=aM (Kd.aG (qra HO267.out) hb);replace HO273:=aM (Kd.aG (qra HO273.out) hb);replace BK248:=aM (bB BK248.out hb);replace HB:=aM (ae bw hb);(try clear hb)))
    go_loopg [25,26] k (fun kq v25 v26 w'=>∃ (x25_1:Int) (x26_1:Int),v25 = .int .i64 x25_1 ∧ v26 = .int .i64 x26_1 ∧ ak (ag.l0 kq l1 t246 t247 t249 t253 t261 (t243.length:Int) t271 x25_1 x26_1 t242 t243 = some r) ∧ ak (kq ≤ k) ∧ ak (Kd.R (Kd.int .i64) 3 w' w.heap.size (fun k_=>some k_ ≠ ((.slice Ao40 t261.length co40):Value).ownBlock ∧ some k_ ≠ (v272:Value).ownBlock ∧ some k_ ≠ ((.slice Ao26 t243.length co26):Value).ownBlock) (.slice Ao38 t253.length co38) t253) ∧ ak (Kd.R (Kd.int .i64) 3 w' w.heap.size (fun k_=>some k_ ≠ ((.slice Ao38 t253.length co38):Value).ownBlock ∧ some k_ ≠ (v272:Value).ownBlock ∧ some k_ ≠ ((.slice Ao26 t243.length co26):Value).ownBlock) (.slice Ao40 t261.length co40) t261) ∧ ak (Kd.R (Kd.int .i64) 3 w' w.heap.size (fun k_=>some k_ ≠ ((.slice Ao38 t253.length co38):Value).ownBlock ∧ some k_ ≠ ((.slice Ao40 t261.length co40):Value).ownBlock ∧ some k_ ≠ ((.slice Ao26 t243.length co26):Value).ownBlock) v272 t271) ∧ ak (Kd.R (Kd.int .i64) 3 w' w.heap.size (fun k_=>some k_ ≠ ((.slice Ao38 t253.length co38):Value).ownBlock ∧ some k_ ≠ ((.slice Ao40 t261.length co40):Value).ownBlock ∧ some k_ ≠ (v272:Value).ownBlock) (.slice Ao26 t243.length co26) t243) ∧ ak (w'.heap[gb248]? = some (.cells #[.int .i64 t242,(.slice Ao26 t243.length co26)] 26 (0,0))) ∧ ak (Below w.heap.size w w'))
    case atStart=>exact ⟨(0),(0),qrs,qrs,H',⟨Nat.le_refl _⟩,⟨by (with_reducible repeat (first|apply Kd.aN|apply Kd.aK|apply Kd.aE));exact Kd.bf HO255.out (fun _ hk=>cj hk)⟩,⟨by (with_reducible repeat (first|apply Kd.aN|apply Kd.aK|apply Kd.aE));exact Kd.bf HO263.out (fun _ hk=>cj hk)⟩,⟨by (with_reducible repeat (first|apply Kd.aN|apply Kd.aK|apply Kd.aE));exact Kd.bf HO273.out (fun _ hk=>cj hk)⟩,⟨by (with_reducible repeat (first|apply Kd.aN|apply Kd.aK|apply Kd.aE));exact Kd.bf HO245.out (fun _ hk=>cj hk)⟩,⟨bk1 BK248.out⟩,⟨by exact bw⟩⟩
    case round =>
     clear H';(try clear c1);(try clear c4);(try clear c12);(try clear c12b0);(try clear c12b1);(try clear c12b2);(try clear c13);(try clear c13b0);(try clear c13b1);(try clear c14);(try clear c14b0);(try clear c14b1);(try clear c14b2);(try clear c16);(try clear c17);(try clear c17b0);(try clear c17b1);(try clear c17b2);(try clear c19);(try clear c20);(try clear c20b0);(try clear c20b1);(try clear c20b2);(try clear c21);(try clear c21b0);(try clear c21b1);(try clear c21b2);(try clear c42);(try clear c45);(try clear c46);(try clear c47);(try clear c47b0);(try clear c47b1);(try clear c48);(try clear c48b0);(try clear c48b1);(try clear c48b2);(try clear hcz25_0);(try clear hcz25_1);(try clear hcz28_0);(try clear hcz28_1);(try clear hcz30_0);(try clear hcz30_1);(try clear hcz32_0);(try clear hcz32_1);(try clear hcz34_0);(try clear hcz34_1);(try clear hcz36_0);(try clear hcz36_1);(try clear hcz49_0);(try clear hcz49_1);(try clear hcz51_0);(try clear hcz51_1);(try clear hfz25_0);(try clear hfz25_1);(try clear hfz28_0);(try clear hfz28_1);(try clear hfz30_0);(try clear hfz30_1);(try clear hfz32_0);(try clear hfz32_1);(try clear hfz34_0);(try clear hfz34_1);(try clear hfz36_0);(try clear hfz36_1);(try clear hfz49_0);(try clear hfz49_1);(try clear hfz51_0);(try clear hfz51_1)
     obtain ⟨x25_1,x26_1,rfl,rfl,HA,HK1,HO_12,HO_16,HO_21,HO_365,BK248,HB⟩:=hrel
     cases gk with
     | zero=>exact absurd HA.out (by simp [ag.l0])
     | succ k1 =>
      have H:=HA.out;clear HA;simp only [ag.l0] at H;as_aux_lemma =>
      replace H:=iN H;obtain ⟨c53,H⟩:=H;have c53b0:=eq_true c53;have c53b1:decide (0 ≤ (t243.length:Int)) = true:=decide_eq_true c53;clear c53;obtain ⟨ji54,hji54⟩:∃ j_:Int,(shl .i64 1 (t243.length:Int)) = j_:=⟨_,rfl⟩;(first|rw [hji54] at H|simp only [hji54] at H)
      have hji54_:(IntKind.i64.wrap (1 * 2 ^ min (t243.length:Int).toNat 64)) = ji54:=hji54;have hji54z:(t243.length:Int) ≤ 64 → (IntKind.i64.wrap (1 * 2 ^ (t243.length:Int).toNat)) = ji54:=fX hji54;have hji54p:(IntKind.i64.wrap (1 * 2 ^ min t243.length 64)) = ji54:=hji54_;have hji54q:(t243.length:Int) ≤ 64 → (IntKind.i64.wrap (1 * 2 ^ t243.length)) = ji54:=hji54z;have hji54r:(IntKind.i64.wrap (2 ^ min t243.length 64)) = ji54:=by have h_:=hji54p;rw [Int.one_mul] at h_;exact h_
      have hji54s:(t243.length:Int) ≤ 64 → (IntKind.i64.wrap (2 ^ t243.length)) = ji54:=fun hle_=>by have h_:=hji54q hle_;rw [Int.one_mul] at h_;exact h_
      have hji54u:(IntKind.i64.wrap (2 ^ min (t243.length:Int).toNat 64)) = ji54:=by have h_:=hji54_;rw [Int.one_mul] at h_;exact h_
      have hji54v:(t243.length:Int) ≤ 64 → (IntKind.i64.wrap (2 ^ (t243.length:Int).toNat)) = ji54:=fun hle_=>by have h_:=hji54z hle_;rw [Int.one_mul] at h_;exact h_
      have hji54y:(wrap64 (1 * 2 ^ min (t243.length:Int).toNat 64)) = ji54:=(dl _).symm.trans hji54_;have hji54x:(t243.length:Int) ≤ 64 → (wrap64 (1 * 2 ^ (t243.length:Int).toNat)) = ji54:=fun h_=>(dl _).symm.trans (hji54z h_)
      as_aux_lemma =>
      by_cases c55:x26_1 < (ji54)
      ·rw [if_pos c55] at H;have c55b0:=decide_eq_true c55;clear c55;replace H:=iN H;obtain ⟨c56,H⟩:=H;have c56b0:=eq_true c56;have c56b1:decide (0 ≤ t246) = true:=decide_eq_true c56;clear c56;obtain ⟨ji57,hji57⟩:∃ j_:Int,(shr .i64 x26_1 t246) = j_:=⟨_,rfl⟩;(first|rw [hji57] at H|simp only [hji57] at H)
       have hji57_:(x26_1 / 2 ^ min t246.toNat 64) = ji57:=hji57;have hji57z:t246 ≤ 64 → (x26_1 / 2 ^ t246.toNat) = ji57:=fu hji57;as_aux_lemma =>
       by_cases c58:(Int.tmod (ji57) 2) = 1
       ·rw [if_pos c58] at H;have c58b0:((Int.tmod (ji57) 2) == 1) = true:=beq_iff_eq.mpr c58;have c58b1:((Int.tmod (ji57) 2) != 1) = false:=bne_eq_false_iff_eq.mpr c58;clear c58;replace H:=iN H;obtain ⟨c59,H⟩:=H;have c59b0:=eq_true c59;have c59b1:decide (0 ≤ t247) = true:=decide_eq_true c59;clear c59;obtain ⟨ji60,hji60⟩:∃ j_:Int,(shr .i64 x26_1 t247) = j_:=⟨_,rfl⟩;(first|rw [hji60] at H|simp only [hji60] at H)
        have hji60_:(x26_1 / 2 ^ min t247.toNat 64) = ji60:=hji60;have hji60z:t247 ≤ 64 → (x26_1 / 2 ^ t247.toNat) = ji60:=fu hji60;as_aux_lemma =>
        by_cases c61:(Int.tmod (ji60) 2) = 1
        ·rw [if_pos c61] at H;have c61b0:((Int.tmod (ji60) 2) == 1) = true:=beq_iff_eq.mpr c61;have c61b1:((Int.tmod (ji60) 2) != 1) = false:=bne_eq_false_iff_eq.mpr c61;clear c61;have H':=aM H;clear H;go_wp2
         go_roundg k1
         case measure=>have:=HK1.out;omega
         case rel=>exact ⟨(x25_1),(wrap64 (x26_1 + 1)),qrs,qrs,H',⟨by have:=HK1.out;omega⟩,⟨qra HO_12.out⟩,⟨qra HO_16.out⟩,⟨qra HO_21.out⟩,⟨qra HO_365.out⟩,⟨bk1 BK248.out⟩,⟨by exact bw⟩⟩
        ·rw [if_neg c61] at H;have c61b0:((Int.tmod (ji60) 2) == 1) = false:=beq_eq_false_iff_ne.mpr c61;have c61b1:((Int.tmod (ji60) 2) != 1) = true:=bne_iff_ne.mpr c61;as_aux_lemma =>
         replace H:=oB H;obtain ⟨t277,A62,H⟩:=H;(try dsimp only at H)
         replace H:=oB H;obtain ⟨⟨t280,t281⟩,A63,H⟩:=H;(try dsimp only at H)
         as_aux_lemma =>
         replace H:=dN H hr_.out;obtain ⟨c64,H⟩:=H;subst c64;by_cases c65:t280 = true
         ·subst c65;rw [if_pos rfl] at H;have H':=aM H;clear H
          try go_wp2
          as_aux_lemma =>
          replace HO_12:=aM (Kd.aE HO_12.out);replace HO_16:=aM (Kd.aE HO_16.out);replace HO_21:=aM (Kd.aE HO_21.out);replace HO_365:=aM (Kd.aE HO_365.out);replace BK248:=aM (al BK248.out);replace HB:=aM (av HB.out);refine dx (n:=9) (S:=fun w'=>w'.cell? ⟨gb248,0,none⟩ = some (.int .i64 t242) ∧ w'.cell? ⟨gb248,1,none⟩ = some (.slice Ao26 t243.length co26)) (ds:=[]) (mA 9 0) kR rfl rfl ⟨(ai BK248.out 0).trans rfl,(ai BK248.out 1).trans rfl⟩ (fun hHeld=>?_);refine cu ag.tab23 ag.bits23 (fun HT_ HW_=>?_)
          generalize wr.drew = w66 at HO_12 HO_16 HO_21 HO_365 BK248 HB hHeld ⊢
          refine pT 1 193 HT_.out ?_;refine pK 0 192 HT_.out HW_.out hHeld ?_;as_aux_lemma =>
          refine oN 2 (some 194) HT_.out fun K hK=>?_
          refine gC Tryz.func15 #[.int .i64 x26_1] ?_
          with_reducible refine (dq.calls k1 x26_1 t277 _ A62.out).mono ?_
          rintro e w67 ⟨v278,rfl,ho0,hb⟩
          refine ⟨_,rfl,?_⟩;have HO279:=aM (Kd.bg (Kd.bj (Kd.bj (Kd.bj (Kd.bj ho0 (Kd.dd (qra HO_12.out))) (Kd.dd (qra HO_16.out))) (Kd.dd (qra HO_21.out))) (Kd.dd (qra HO_365.out))) (au bw));replace HO_12:=aM (Kd.aH (qra HO_12.out) (Kd.bi ho0) hb);replace HO_16:=aM (Kd.aH (qra HO_16.out) (Kd.bi ho0) hb);replace HO_21:=aM (Kd.aH (qra HO_21.out) (Kd.bi ho0) hb);replace HO_365:=aM (Kd.aH (qra HO_365.out) (Kd.bi ho0) hb);replace BK248:=aM (bB BK248.out hb);replace HB:=aM (ae bw hb);(try clear hb)
          (try clear hk)
          (try clear ho0)
          obtain ⟨Ao68,co68,eo68⟩:=Kd.aX HO279.out;(first|subst eo68|(injection eo68 with f1_ f2_ f3_;have f4_:=f1_.symm;have f5_:=f3_.symm;clear f1_ f2_ f3_;subst f4_;subst f5_))
          refine hK.out _ _ ⟨(ai BK248.out 0).trans rfl,(ai BK248.out 1).trans rfl⟩ (fun hHeld=>?_);clear hK K;refine nM 194 ?_;as_aux_lemma =>
          refine oN 3 (some 195) HT_.out fun K hK=>?_
          refine gC Tryz.func14 #[.agg #[.int .i64 t242,.slice Ao26 t243.length co26],.slice Ao68 t277.length co68] ?_
          with_reducible refine (cb.calls k1 t242 _ _ t243 _ _ t277 true true _ ?side1 ?side2 ?side3 ?side4 A63.out).mono ?_
          (case side1=>exact qc (Kd.aj HO_365.out).2.2)
          (case side2=>exact (Kd.aj HO_365.out).2.1)
          (case side3=>exact qc (Kd.aj HO279.out).2.2)
          (case side4=>exact (Kd.aj HO279.out).2.1)
          rintro e w69 ⟨rfl,hb⟩
          refine ⟨_,rfl,?_⟩;replace HO_12:=aM (Kd.aG (qra HO_12.out) hb);replace HO_16:=aM (Kd.aG (qra HO_16.out) hb);replace HO_21:=aM (Kd.aG (qra HO_21.out) hb);replace HO_365:=aM (Kd.aG (qra HO_365.out) hb);replace HO279:=aM (Kd.aG (qra HO279.out) hb);replace BK248:=aM (bB BK248.out hb);replace HB:=aM (ae bw hb);(try clear hb)
          refine hK.out _ _ ⟨(ai BK248.out 0).trans rfl,(ai BK248.out 1).trans rfl⟩ (fun hHeld=>?_);clear hK K;refine nM 195 ?_;refine pT 4 191 HT_.out ?_;refine pT 5 196 HT_.out ?_;refine pT 6 197 HT_.out ?_;refine pT 7 27 HT_.out ?_;refine pT 8 28 HT_.out ?_;refine d9 (dp HT_.out kR) ?_
          try go_wp2
          go_roundg k1
          case measure=>have:=HK1.out;omega
          case rel=>exact ⟨(wrap64 (x25_1 + 1)),(wrap64 (x26_1 + 1)),qrs,qrs,H',⟨by have:=HK1.out;omega⟩,⟨by (with_reducible repeat (first|apply Kd.aN|apply Kd.aK|apply Kd.aE));exact Kd.bf HO_12.out (fun _ hk=>cj hk)⟩,⟨by (with_reducible repeat (first|apply Kd.aN|apply Kd.aK|apply Kd.aE));exact Kd.bf HO_16.out (fun _ hk=>cj hk)⟩,⟨by (with_reducible repeat (first|apply Kd.aN|apply Kd.aK|apply Kd.aE));exact Kd.bf HO_21.out (fun _ hk=>cj hk)⟩,⟨by (with_reducible repeat (first|apply Kd.aN|apply Kd.aK|apply Kd.aE));exact Kd.bf HO_365.out (fun _ hk=>cj hk)⟩,⟨bk1 BK248.out⟩,⟨by exact bw⟩⟩
         ·replace c65:=Bool.eq_false_iff.mpr c65;subst c65;rw [if_neg (show ¬ (false = true) by decide)] at H;have H':=aM H;clear H
          try go_wp2
          as_aux_lemma =>
          replace HO_12:=aM (Kd.aE HO_12.out);replace HO_16:=aM (Kd.aE HO_16.out);replace HO_21:=aM (Kd.aE HO_21.out);replace HO_365:=aM (Kd.aE HO_365.out);replace BK248:=aM (al BK248.out);replace HB:=aM (av HB.out);refine dx (n:=9) (S:=fun w'=>w'.cell? ⟨gb248,0,none⟩ = some (.int .i64 t242) ∧ w'.cell? ⟨gb248,1,none⟩ = some (.slice Ao26 t243.length co26)) (ds:=[]) (mA 9 0) kR rfl rfl ⟨(ai BK248.out 0).trans rfl,(ai BK248.out 1).trans rfl⟩ (fun hHeld=>?_);refine cu ag.tab23 ag.bits23 (fun HT_ HW_=>?_)
          generalize wr.drew = w70 at HO_12 HO_16 HO_21 HO_365 BK248 HB hHeld ⊢
          refine pT 1 193 HT_.out ?_;refine pK 0 192 HT_.out HW_.out hHeld ?_;as_aux_lemma =>
          refine oN 2 (some 194) HT_.out fun K hK=>?_
          refine gC Tryz.func15 #[.int .i64 x26_1] ?_
          with_reducible refine (dq.calls k1 x26_1 t277 _ A62.out).mono ?_
          rintro e w71 ⟨v278,rfl,ho0,hb⟩
          refine ⟨_,rfl,?_⟩;have HO279:=aM (Kd.bg (Kd.bj (Kd.bj (Kd.bj (Kd.bj ho0 (Kd.dd (qra HO_12.out))) (Kd.dd (qra HO_16.out))) (Kd.dd (qra HO_21.out))) (Kd.dd (qra HO_365.out))) (au bw));replace HO_12:=aM (Kd.aH (qra HO_12.out) (Kd.bi ho0) hb);replace HO_16:=aM (Kd.aH (qra HO_16.out) (Kd.bi ho0) hb);replace HO_21:=aM (Kd.aH (qra HO_21.out) (Kd.bi ho0) hb);replace HO_365:=aM (Kd.aH (qra HO_365.out) (Kd.bi ho0) hb);replace BK248:=aM (bB BK248.out hb);replace HB:=aM (ae bw hb);(try clear hb)
          (try clear hk)
          (try clear ho0)
          obtain ⟨Ao72,co72,eo72⟩:=Kd.aX HO279.out;(first|subst eo72|(injection eo72 with f1_ f2_ f3_;have f4_:=f1_.symm;have f5_:=f3_.symm;clear f1_ f2_ f3_;subst f4_;subst f5_))
          refine hK.out _ _ ⟨(ai BK248.out 0).trans rfl,(ai BK248.out 1).trans rfl⟩ (fun hHeld=>?_);clear hK K;refine nM 194 ?_;as_aux_lemma =>
          refine oN 3 (some 195) HT_.out fun K hK=>?_
          refine gC Tryz.func14 #[.agg #[.int .i64 t242,.slice Ao26 t243.length co26],.slice Ao72 t277.length co72] ?_
          with_reducible refine (cb.calls k1 t242 _ _ t243 _ _ t277 false true _ ?side1 ?side2 ?side3 ?side4 A63.out).mono ?_
          (case side1=>exact qc (Kd.aj HO_365.out).2.2)
          (case side2=>exact (Kd.aj HO_365.out).2.1)
          (case side3=>exact qc (Kd.aj HO279.out).2.2)
          (case side4=>exact (Kd.aj HO279.out).2.1)
          rintro e w73 ⟨rfl,hb⟩
          refine ⟨_,rfl,?_⟩;replace HO_12:=aM (Kd.aG (qra HO_12.out) hb);replace HO_16:=aM (Kd.aG (qra HO_16.out) hb);replace HO_21:=aM (Kd.aG (qra HO_21.out) hb);replace HO_365:=aM (Kd.aG (qra HO_365.out) hb);replace HO279:=aM (Kd.aG (qra HO279.out) hb);replace BK248:=aM (bB BK248.out hb);replace HB:=aM (ae bw hb);(try clear hb)
          refine hK.out _ _ ⟨(ai BK248.out 0).trans rfl,(ai BK248.out 1).trans rfl⟩ (fun hHeld=>?_);clear hK K;refine nM 195 ?_;refine pT 4 191 HT_.out ?_;refine pT 5 196 HT_.out ?_;refine pT 6 197 HT_.out ?_;refine pT 7 27 HT_.out ?_;refine pT 8 28 HT_.out ?_;refine d9 (dp HT_.out kR) ?_
          try go_wp2
          go_roundg k1
          case measure=>have:=HK1.out;omega
          case rel=>exact ⟨(x25_1),(wrap64 (x26_1 + 1)),qrs,qrs,H',⟨by have:=HK1.out;omega⟩,⟨by (with_reducible repeat (first|apply Kd.aN|apply Kd.aK|apply Kd.aE));exact Kd.bf HO_12.out (fun _ hk=>cj hk)⟩,⟨by (with_reducible repeat (first|apply Kd.aN|apply Kd.aK|apply Kd.aE));exact Kd.bf HO_16.out (fun _ hk=>cj hk)⟩,⟨by (with_reducible repeat (first|apply Kd.aN|apply Kd.aK|apply Kd.aE));exact Kd.bf HO_21.out (fun _ hk=>cj hk)⟩,⟨by (with_reducible repeat (first|apply Kd.aN|apply Kd.aK|apply Kd.aE));exact Kd.bf HO_365.out (fun _ hk=>cj hk)⟩,⟨bk1 BK248.out⟩,⟨by exact bw⟩⟩
       ·rw [if_neg c58] at H;have c58b0:((Int.tmod (ji57) 2) == 1) = false:=beq_eq_false_iff_ne.mpr c58;have c58b1:((Int.tmod (ji57) 2) != 1) = true:=bne_iff_ne.mpr c58;as_aux_lemma =>
        replace H:=oB H;obtain ⟨t282,A74,H⟩:=H;(try dsimp only at H)
        replace H:=oB H;obtain ⟨⟨t285,t286⟩,A75,H⟩:=H;(try dsimp only at H)
        as_aux_lemma =>
        replace H:=dN H hr_.out;obtain ⟨c76,H⟩:=H;subst c76;by_cases c77:t285 = true
        ·subst c77;rw [if_pos rfl] at H;have H':=aM H;clear H
         try go_wp2
         as_aux_lemma =>
         replace HO_12:=aM (Kd.aE HO_12.out);replace HO_16:=aM (Kd.aE HO_16.out);replace HO_21:=aM (Kd.aE HO_21.out);replace HO_365:=aM (Kd.aE HO_365.out);replace BK248:=aM (al BK248.out);replace HB:=aM (av HB.out);refine dx (n:=9) (S:=fun w'=>w'.cell? ⟨gb248,0,none⟩ = some (.int .i64 t242) ∧ w'.cell? ⟨gb248,1,none⟩ = some (.slice Ao26 t243.length co26)) (ds:=[]) (mA 9 0) kR rfl rfl ⟨(ai BK248.out 0).trans rfl,(ai BK248.out 1).trans rfl⟩ (fun hHeld=>?_);refine cu ag.tab23 ag.bits23 (fun HT_ HW_=>?_)
         generalize wr.drew = w78 at HO_12 HO_16 HO_21 HO_365 BK248 HB hHeld ⊢
         refine pT 1 193 HT_.out ?_;refine pK 0 192 HT_.out HW_.out hHeld ?_;as_aux_lemma =>
         refine oN 2 (some 194) HT_.out fun K hK=>?_
         refine gC Tryz.func15 #[.int .i64 x26_1] ?_
         with_reducible refine (dq.calls k1 x26_1 t282 _ A74.out).mono ?_
         rintro e w79 ⟨v283,rfl,ho0,hb⟩
         refine ⟨_,rfl,?_⟩;have HO284:=aM (Kd.bg (Kd.bj (Kd.bj (Kd.bj (Kd.bj ho0 (Kd.dd (qra HO_12.out))) (Kd.dd (qra HO_16.out))) (Kd.dd (qra HO_21.out))) (Kd.dd (qra HO_365.out))) (au bw));replace HO_12:=aM (Kd.aH (qra HO_12.out) (Kd.bi ho0) hb);replace HO_16:=aM (Kd.aH (qra HO_16.out) (Kd.bi ho0) hb);replace HO_21:=aM (Kd.aH (qra HO_21.out) (Kd.bi ho0) hb);replace HO_365:=aM (Kd.aH (qra HO_365.out) (Kd.bi ho0) hb);replace BK248:=aM (bB BK248.out hb);replace HB:=aM (ae bw hb);(try clear hb)
         (try clear hk)
         (try clear ho0)
         obtain ⟨Ao80,co80,eo80⟩:=Kd.aX HO284.out;(first|subst eo80|(injection eo80 with f1_ f2_ f3_;have f4_:=f1_.symm;have f5_:=f3_.symm;clear f1_ f2_ f3_;subst f4_;subst f5_))
         refine hK.out _ _ ⟨(ai BK248.out 0).trans rfl,(ai BK248.out 1).trans rfl⟩ (fun hHeld=>?_);clear hK K;refine nM 194 ?_;as_aux_lemma =>
         refine oN 3 (some 195) HT_.out fun K hK=>?_
         refine gC Tryz.func14 #[.agg #[.int .i64 t242,.slice Ao26 t243.length co26],.slice Ao80 t282.length co80] ?_
         with_reducible refine (cb.calls k1 t242 _ _ t243 _ _ t282 true true _ ?side1 ?side2 ?side3 ?side4 A75.out).mono ?_
         (case side1=>exact qc (Kd.aj HO_365.out).2.2)
         (case side2=>exact (Kd.aj HO_365.out).2.1)
         (case side3=>exact qc (Kd.aj HO284.out).2.2)
         (case side4=>exact (Kd.aj HO284.out).2.1)
         rintro e w81 ⟨rfl,hb⟩
         refine ⟨_,rfl,?_⟩;replace HO_12:=aM (Kd.aG (qra HO_12.out) hb);replace HO_16:=aM (Kd.aG (qra HO_16.out) hb);replace HO_21:=aM (Kd.aG (qra HO_21.out) hb);replace HO_365:=aM (Kd.aG (qra HO_365.out) hb);replace HO284:=aM (Kd.aG (qra HO284.out) hb);replace BK248:=aM (bB BK248.out hb);replace HB:=aM (ae bw hb);(try clear hb)
         refine hK.out _ _ ⟨(ai BK248.out 0).trans rfl,(ai BK248.out 1).trans rfl⟩ (fun hHeld=>?_);clear hK K;refine nM 195 ?_;refine pT 4 191 HT_.out ?_;refine pT 5 196 HT_.out ?_;refine pT 6 197 HT_.out ?_;refine pT 7 27 HT_.out ?_;refine pT 8 28 HT_.out ?_;refine d9 (dp HT_.out kR) ?_
         try go_wp2
         go_roundg k1
         case measure=>have:=HK1.out;omega
         case rel=>exact ⟨(wrap64 (x25_1 + 1)),(wrap64 (x26_1 + 1)),qrs,qrs,H',⟨by have:=HK1.out;omega⟩,⟨by (with_reducible repeat (first|apply Kd.aN|apply Kd.aK|apply Kd.aE));exact Kd.bf HO_12.out (fun _ hk=>cj hk)⟩,⟨by (with_reducible repeat (first|apply Kd.aN|apply Kd.aK|apply Kd.aE));exact Kd.bf HO_16.out (fun _ hk=>cj hk)⟩,⟨by (with_reducible repeat (first|apply Kd.aN|apply Kd.aK|apply Kd.aE));exact Kd.bf HO_21.out (fun _ hk=>cj hk)⟩,⟨by (with_reducible repeat (first|apply Kd.aN|apply Kd.aK|apply Kd.aE));exact Kd.bf HO_365.out (fun _ hk=>cj hk)⟩,⟨bk1 BK248.out⟩,⟨by exact bw⟩⟩
        ·replace c77:=Bool.eq_false_iff.mpr c77;subst c77;rw [if_neg (show ¬ (false = true) by decide)] at H;have H':=aM H;clear H
         try go_wp2
         as_aux_lemma =>
         replace HO_12:=aM (Kd.aE HO_12.out);replace HO_16:=aM (Kd.aE HO_16.out);replace HO_21:=aM (Kd.aE HO_21.out);replace HO_365:=aM (Kd.aE HO_365.out);replace BK248:=aM (al BK248.out);replace HB:=aM (av HB.out);refine dx (n:=9) (S:=fun w'=>w'.cell? ⟨gb248,0,none⟩ = some (.int .i64 t242) ∧ w'.cell? ⟨gb248,1,none⟩ = some (.slice Ao26 t243.length co26)) (ds:=[]) (mA 9 0) kR rfl rfl ⟨(ai BK248.out 0).trans rfl,(ai BK248.out 1).trans rfl⟩ (fun hHeld=>?_);refine cu ag.tab23 ag.bits23 (fun HT_ HW_=>?_)
         generalize wr.drew = w82 at HO_12 HO_16 HO_21 HO_365 BK248 HB hHeld ⊢
         refine pT 1 193 HT_.out ?_;refine pK 0 192 HT_.out HW_.out hHeld ?_;as_aux_lemma =>
         refine oN 2 (some 194) HT_.out fun K hK=>?_
         refine gC Tryz.func15 #[.int .i64 x26_1] ?_
         with_reducible refine (dq.calls k1 x26_1 t282 _ A74.out).mono ?_
         rintro e w83 ⟨v283,rfl,ho0,hb⟩
         refine ⟨_,rfl,?_⟩;have HO284:=aM (Kd.bg (Kd.bj (Kd.bj (Kd.bj (Kd.bj ho0 (Kd.dd (qra HO_12.out))) (Kd.dd (qra HO_16.out))) (Kd.dd (qra HO_21.out))) (Kd.dd (qra HO_365.out))) (au bw));replace HO_12:=aM (Kd.aH (qra HO_12.out) (Kd.bi ho0) hb);replace HO_16:=aM (Kd.aH (qra HO_16.out) (Kd.bi ho0) hb);replace HO_21:=aM (Kd.aH (qra HO_21.out) (Kd.bi ho0) hb);replace HO_365:=aM (Kd.aH (qra HO_365.out) (Kd.bi ho0) hb);replace BK248:=aM (bB BK248.out hb);replace HB:=aM (ae bw hb);(try clear hb)
         (try clear hk)
         (try clear ho0)
         obtain ⟨Ao84,co84,eo84⟩:=Kd.aX HO284.out;(first|subst eo84|(injection eo84 with f1_ f2_ f3_;have f4_:=f1_.symm;have f5_:=f3_.symm;clear f1_ f2_ f3_;subst f4_;subst f5_))
         refine hK.out _ _ ⟨(ai BK248.out 0).trans rfl,(ai BK248.out 1).trans rfl⟩ (fun hHeld=>?_);clear hK K;refine nM 194 ?_;as_aux_lemma =>
         refine oN 3 (some 195) HT_.out fun K hK=>?_
         refine gC Tryz.func14 #[.agg #[.int .i64 t242,.slice Ao26 t243.length co26],.slice Ao84 t282.length co84] ?_
         with_reducible refine (cb.calls k1 t242 _ _ t243 _ _ t282 false true _ ?side1 ?side2 ?side3 ?side4 A75.out).mono ?_
         (case side1=>exact qc (Kd.aj HO_365.out).2.2)
         (case side2=>exact (Kd.aj HO_365.out).2.1)
         (case side3=>exact qc (Kd.aj HO284.out).2.2)
         (case side4=>exact (Kd.aj HO284.out).2.1)
         rintro e w85 ⟨rfl,hb⟩
         refine ⟨_,rfl,?_⟩;replace HO_12:=aM (Kd.aG (qra HO_12.out) hb);replace HO_16:=aM (Kd.aG (qra HO_16.out) hb);replace HO_21:=aM (Kd.aG (qra HO_21.out) hb);replace HO_365:=aM (Kd.aG (qra HO_365.out) hb);replace HO284:=aM (Kd.aG (qra HO284.out) hb);replace BK248:=aM (bB BK248.out hb);replace HB:=aM (ae bw hb);(try clear hb)
         refine hK.out _ _ ⟨(ai BK248.out 0).trans rfl,(ai BK248.out 1).trans rfl⟩ (fun hHeld=>?_);clear hK K;refine nM 195 ?_;refine pT 4 191 HT_.out ?_;refine pT 5 196 HT_.out ?_;refine pT 6 197 HT_.out ?_;refine pT 7 27 HT_.out ?_;refine pT 8 28 HT_.out ?_;refine d9 (dp HT_.out kR) ?_
         try go_wp2
         go_roundg k1
         case measure=>have:=HK1.out;omega
         case rel=>exact ⟨(x25_1),(wrap64 (x26_1 + 1)),qrs,qrs,H',⟨by have:=HK1.out;omega⟩,⟨by (with_reducible repeat (first|apply Kd.aN|apply Kd.aK|apply Kd.aE));exact Kd.bf HO_12.out (fun _ hk=>cj hk)⟩,⟨by (with_reducible repeat (first|apply Kd.aN|apply Kd.aK|apply Kd.aE));exact Kd.bf HO_16.out (fun _ hk=>cj hk)⟩,⟨by (with_reducible repeat (first|apply Kd.aN|apply Kd.aK|apply Kd.aE));exact Kd.bf HO_21.out (fun _ hk=>cj hk)⟩,⟨by (with_reducible repeat (first|apply Kd.aN|apply Kd.aK|apply Kd.aE));exact Kd.bf HO_365.out (fun _ hk=>cj hk)⟩,⟨bk1 BK248.out⟩,⟨by exact bw⟩⟩
      ·rw [if_neg c55] at H;have c55b0:=decide_eq_false c55;clear c55;as_aux_lemma =>
       replace H:=dN H hr_.out;obtain ⟨c86,H⟩:=H;have c86b0:(x25_1 == t249) = true:=beq_iff_eq.mpr c86;have c86b1:(x25_1 != t249) = false:=bne_eq_false_iff_eq.mpr c86;clear c86;have H':=aM H;clear H;go_wp2
       as_aux_lemma =>
       go_loopg [208] k1 (fun kq v208 w'=>∃ (x208_2:Int),v208 = .int .i64 x208_2 ∧ ak (ag.l1 kq l1 t246 t247 t261 t271 t253 (t253.length:Int) x208_2 = some r) ∧ ak (kq ≤ k1) ∧ ak (Kd.R (Kd.int .i64) 3 w' w.heap.size (fun k_=>some k_ ≠ (v272:Value).ownBlock ∧ some k_ ≠ ((.slice Ao38 t253.length co38):Value).ownBlock ∧ some k_ ≠ ((.slice Ao26 t243.length co26):Value).ownBlock) (.slice Ao40 t261.length co40) t261) ∧ ak (Kd.R (Kd.int .i64) 3 w' w.heap.size (fun k_=>some k_ ≠ ((.slice Ao40 t261.length co40):Value).ownBlock ∧ some k_ ≠ ((.slice Ao38 t253.length co38):Value).ownBlock ∧ some k_ ≠ ((.slice Ao26 t243.length co26):Value).ownBlock) v272 t271) ∧ ak (Kd.R (Kd.int .i64) 3 w' w.heap.size (fun k_=>some k_ ≠ ((.slice Ao40 t261.length co40):Value).ownBlock ∧ some k_ ≠ (v272:Value).ownBlock ∧ some k_ ≠ ((.slice Ao26 t243.length co26):Value).ownBlock) (.slice Ao38 t253.length co38) t253) ∧ ak (Kd.R (Kd.int .i64) 3 w' w.heap.size (fun k_=>some k_ ≠ ((.slice Ao40 t261.length co40):Value).ownBlock ∧ some k_ ≠ (v272:Value).ownBlock ∧ some k_ ≠ ((.slice Ao38 t253.length co38):Value).ownBlock) (.slice Ao26 t243.length co26) t243) ∧ ak (w'.heap[gb248]? = some (.cells #[.int .i64 t242,(.slice Ao26 t243.length co26)] 26 (0,0))) ∧ ak (Below w.heap.size w w'))
       case atStart=>exact ⟨(0),qrs,H',⟨Nat.le_refl _⟩,⟨by (with_reducible repeat (first|apply Kd.aN|apply Kd.aK|apply Kd.aE));exact Kd.bf HO_16.out (fun _ hk=>cj hk)⟩,⟨by (with_reducible repeat (first|apply Kd.aN|apply Kd.aK|apply Kd.aE));exact Kd.bf HO_21.out (fun _ hk=>cj hk)⟩,⟨qra HO_12.out⟩,⟨by (with_reducible repeat (first|apply Kd.aN|apply Kd.aK|apply Kd.aE));exact Kd.bf HO_365.out (fun _ hk=>cj hk)⟩,⟨bk1 BK248.out⟩,⟨by exact bw⟩⟩
       case round =>
        clear H';(try clear c55);(try clear c55b0);(try clear c58);(try clear c58b0);(try clear c58b1);(try clear c65);(try clear c76);(try clear c77);(try clear c86);(try clear c86b0);(try clear c86b1)
        obtain ⟨x208_2,rfl,HA,HK2,HO_16,HO_21,HO_206,HO_365,BK248,HB⟩:=hrel
        cases gk with
        | zero=>exact absurd HA.out (by simp [ag.l1])
        | succ k2 =>
         have H:=HA.out;clear HA;simp only [ag.l1] at H;as_aux_lemma =>
         by_cases c87:x208_2 < (t253.length:Int)
         ·rw [if_pos c87] at H;have c87b0:=decide_eq_true c87;clear c87;replace H:=iN H;obtain ⟨c88,H⟩:=H;have c88b0:decide (0 ≤ x208_2) = true:=decide_eq_true c88;clear c88;as_aux_lemma =>
          replace H:=iN H;obtain ⟨c89,H⟩:=H;have c89b0:decide (x208_2 < (t253.length:Int)) = true:=decide_eq_true c89;clear c89;replace H:=iN H;obtain ⟨c90,H⟩:=H;have c90b0:decide (x208_2 < (t271.length:Int)) = true:=decide_eq_true c90;clear c90;as_aux_lemma =>
          replace H:=oB H;obtain ⟨t289,A91,H⟩:=H;(try dsimp only at H)
          replace H:=dM H hr_.out;obtain ⟨c92,H⟩:=H;have c92b0:((decide ((rd t253 x208_2) > (rd t271 x208_2))) != t289) = false:=by simpa using c92
          (try (have c92b1:decide ((decide ((rd t253 x208_2) > (rd t271 x208_2))) = t289) = true:=by simpa using c92))
          (try (have c92b2:((decide ((rd t253 x208_2) > (rd t271 x208_2))) == t289) = true:=by simpa using c92))
          clear c92;as_aux_lemma =>
          by_cases c93:x208_2 = t246
          ·rw [if_pos c93] at H;have c93b0:(x208_2 == t246) = true:=beq_iff_eq.mpr c93;have c93b1:(x208_2 != t246) = false:=bne_eq_false_iff_eq.mpr c93;clear c93;replace H:=dM H hr_.out;obtain ⟨c94,H⟩:=H;have c94b0:decide ((rd t271 x208_2) < (rd t253 x208_2)) = false:=decide_eq_false c94;(try (have c9k_:=c92b0;simp [gt_iff_lt,c94b0] at c9k_))
           clear c94;have H':=aM H;clear H;have p287:0 ≤ (x208_2:Int):=of_decide_eq_true ab;have q287:x208_2 < (t253.length:Int):=of_decide_eq_true ab;obtain ⟨ad287,e287,hx287_0⟩:=Kd.bK (Kd.aj HO_206.out).2.2 x208_2 p287 q287;cases e287
           replace p287:=eq_true p287;replace q287:=eq_true q287
           try go_wp2
           as_aux_lemma =>
           replace HO_16:=aM (Kd.aE HO_16.out);replace HO_21:=aM (Kd.aE HO_21.out);replace HO_206:=aM (Kd.aE HO_206.out);replace HO_365:=aM (Kd.aE HO_365.out);replace BK248:=aM (al BK248.out);replace HB:=aM (av HB.out);obtain ⟨Ao96,co96,eo96⟩:=Kd.aX HO_21.out;(first|subst eo96|(injection eo96 with f1_ f2_ f3_;have f4_:=f1_.symm;have f5_:=f3_.symm;clear f1_ f2_ f3_;subst f4_;subst f5_))
           have p288:0 ≤ (x208_2:Int):=of_decide_eq_true ab;have q288:x208_2 < (t271.length:Int):=of_decide_eq_true ab;obtain ⟨ad288,e288,hx288_0⟩:=Kd.bK (Kd.aj HO_21.out).2.2 x208_2 p288 q288;cases e288
           replace p288:=eq_true p288;replace q288:=eq_true q288;have p290:0 ≤ (x208_2:Int):=of_decide_eq_true ab;have q290:x208_2 < (t271.length:Int):=of_decide_eq_true ab;obtain ⟨ad290,e290,hx290_0⟩:=Kd.bK (Kd.aj HO_21.out).2.2 x208_2 p290 q290;obtain rfl:ad288 = ad290:=(by injection e290);replace p290:=eq_true p290;replace q290:=eq_true q290;refine dx (n:=28) (S:=fun w'=>w'.cell? (ad288.add (x208_2).toNat) = some (.int .i64 (rd t271 x208_2)) ∧ w'.cell? (ad288.add (x208_2).toNat) = some (.int .i64 (rd t271 x208_2))) (ds:=[]) (mA 28 0) kR rfl rfl ⟨hx288_0,hx290_0⟩ (fun hHeld=>?_);refine cu ag.tab33 ag.bits33 (fun HT_ HW_=>?_)
           generalize wr.drew = w95 at HO_16 HO_21 HO_206 HO_365 BK248 HB hx288_0 hx290_0 hHeld ⊢
           refine pT 0 213 HT_.out ?_;refine pT 1 214 HT_.out ?_;refine pT 2 215 HT_.out ?_;refine pT 3 216 HT_.out ?_;refine pT 6 219 HT_.out ?_;refine pT 7 220 HT_.out ?_;refine pK 4 217 HT_.out HW_.out hHeld ?_;refine pT 5 218 HT_.out ?_;as_aux_lemma =>
           refine oN 8 (some 221) HT_.out fun K hK=>?_
           refine gC Tryz.func16 #[.slice Ao40 t261.length co40,.int .i64 x208_2] ?_
           with_reducible refine (dc.calls k2 _ _ t261 x208_2 t289 _ ?side1 ?side2 A91.out).mono ?_
           (case side1=>exact qc (Kd.aj HO_16.out).2.2)
           (case side2=>exact (Kd.aj HO_16.out).2.1)
           rintro e w' ⟨rfl,⟨nd,rfl⟩⟩
           refine ⟨_,rfl,?_⟩;refine hK.out _ _ ⟨hHeld.1,hHeld.2⟩ (fun hHeld=>?_);clear hK K;refine nM 221 ?_;refine pT 9 222 HT_.out ?_;refine pT 10 223 HT_.out ?_;refine pT 11 224 HT_.out ?_;refine pT 12 225 HT_.out ?_;refine pT 13 226 HT_.out ?_;refine pT 14 227 HT_.out ?_;refine pU 15 228 HT_.out ?_;refine pU 16 229 HT_.out ?_;refine pU 17 230 HT_.out ?_;refine pT 18 231 HT_.out ?_;refine pT 19 232 HT_.out ?_;refine pT 20 233 HT_.out ?_;refine pT 21 234 HT_.out ?_;refine pT 22 235 HT_.out ?_;refine pT 23 236 HT_.out ?_;refine pK 24 237 HT_.out HW_.out hHeld ?_;refine pT 25 238 HT_.out ?_;refine pT 26 239 HT_.out ?_;refine pT 27 240 HT_.out ?_;refine d9 (dp HT_.out kR) ?_
           try go_wp2
           go_roundg k2
           case measure=>have:=HK1.out;have:=HK2.out;omega
           case rel=>exact ⟨(wrap64 (x208_2 + 1)),qrs,H',⟨by have:=HK1.out;have:=HK2.out;omega⟩,⟨qra HO_16.out⟩,⟨qra HO_21.out⟩,⟨qra HO_206.out⟩,⟨qra HO_365.out⟩,⟨bk1 BK248.out⟩,⟨by exact bw⟩⟩
          ·rw [if_neg c93] at H;have c93b0:(x208_2 == t246) = false:=beq_eq_false_iff_ne.mpr c93;have c93b1:(x208_2 != t246) = true:=bne_iff_ne.mpr c93;as_aux_lemma =>
           by_cases c97:x208_2 = t247
           ·rw [if_pos c97] at H;have c97b0:(x208_2 == t247) = true:=beq_iff_eq.mpr c97;have c97b1:(x208_2 != t247) = false:=bne_eq_false_iff_eq.mpr c97;clear c97;replace H:=dM H hr_.out;obtain ⟨c98,H⟩:=H;have c98b0:decide ((rd t271 x208_2) < (rd t253 x208_2)) = false:=decide_eq_false c98;(try (have c9k_:=c92b0;simp [gt_iff_lt,c98b0] at c9k_))
            clear c98;have H':=aM H;clear H;have p287:0 ≤ (x208_2:Int):=of_decide_eq_true ab;have q287:x208_2 < (t253.length:Int):=of_decide_eq_true ab;obtain ⟨ad287,e287,hx287_0⟩:=Kd.bK (Kd.aj HO_206.out).2.2 x208_2 p287 q287;cases e287
            replace p287:=eq_true p287;replace q287:=eq_true q287
            try go_wp2
            as_aux_lemma =>
            replace HO_16:=aM (Kd.aE HO_16.out);replace HO_21:=aM (Kd.aE HO_21.out);replace HO_206:=aM (Kd.aE HO_206.out);replace HO_365:=aM (Kd.aE HO_365.out);replace BK248:=aM (al BK248.out);replace HB:=aM (av HB.out);obtain ⟨Ao100,co100,eo100⟩:=Kd.aX HO_21.out;(first|subst eo100|(injection eo100 with f1_ f2_ f3_;have f4_:=f1_.symm;have f5_:=f3_.symm;clear f1_ f2_ f3_;subst f4_;subst f5_))
            have p288:0 ≤ (x208_2:Int):=of_decide_eq_true ab;have q288:x208_2 < (t271.length:Int):=of_decide_eq_true ab;obtain ⟨ad288,e288,hx288_0⟩:=Kd.bK (Kd.aj HO_21.out).2.2 x208_2 p288 q288;cases e288
            replace p288:=eq_true p288;replace q288:=eq_true q288;have p291:0 ≤ (x208_2:Int):=of_decide_eq_true ab;have q291:x208_2 < (t271.length:Int):=of_decide_eq_true ab;obtain ⟨ad291,e291,hx291_0⟩:=Kd.bK (Kd.aj HO_21.out).2.2 x208_2 p291 q291;obtain rfl:ad288 = ad291:=(by injection e291);replace p291:=eq_true p291;replace q291:=eq_true q291;refine dx (n:=28) (S:=fun w'=>w'.cell? (ad288.add (x208_2).toNat) = some (.int .i64 (rd t271 x208_2)) ∧ w'.cell? (ad288.add (x208_2).toNat) = some (.int .i64 (rd t271 x208_2))) (ds:=[]) (mA 28 0) kR rfl rfl ⟨hx288_0,hx291_0⟩ (fun hHeld=>?_);refine cu ag.tab33 ag.bits33 (fun HT_ HW_=>?_)
            generalize wr.drew = w99 at HO_16 HO_21 HO_206 HO_365 BK248 HB hx288_0 hx291_0 hHeld ⊢
            refine pT 0 213 HT_.out ?_;refine pT 1 214 HT_.out ?_;refine pT 2 215 HT_.out ?_;refine pT 3 216 HT_.out ?_;refine pT 6 219 HT_.out ?_;refine pT 7 220 HT_.out ?_;refine pK 4 217 HT_.out HW_.out hHeld ?_;refine pT 5 218 HT_.out ?_;as_aux_lemma =>
            refine oN 8 (some 221) HT_.out fun K hK=>?_
            refine gC Tryz.func16 #[.slice Ao40 t261.length co40,.int .i64 x208_2] ?_
            with_reducible refine (dc.calls k2 _ _ t261 x208_2 t289 _ ?side1 ?side2 A91.out).mono ?_
            (case side1=>exact qc (Kd.aj HO_16.out).2.2)
            (case side2=>exact (Kd.aj HO_16.out).2.1)
            rintro e w' ⟨rfl,⟨nd,rfl⟩⟩
            refine ⟨_,rfl,?_⟩;refine hK.out _ _ ⟨hHeld.1,hHeld.2⟩ (fun hHeld=>?_);clear hK K;refine nM 221 ?_;refine pT 9 222 HT_.out ?_;refine pT 10 223 HT_.out ?_;refine pT 11 224 HT_.out ?_;refine pT 12 225 HT_.out ?_;refine pT 13 226 HT_.out ?_;refine pT 14 227 HT_.out ?_;refine pT 15 228 HT_.out ?_;refine pT 16 229 HT_.out ?_;refine pT 17 230 HT_.out ?_;refine pT 18 231 HT_.out ?_;refine pT 19 232 HT_.out ?_;refine pT 20 233 HT_.out ?_;refine pT 21 234 HT_.out ?_;refine pT 22 235 HT_.out ?_;refine pT 23 236 HT_.out ?_;refine pK 24 237 HT_.out HW_.out hHeld ?_;refine pT 25 238 HT_.out ?_;refine pT 26 239 HT_.out ?_;refine pT 27 240 HT_.out ?_;refine d9 (dp HT_.out kR) ?_
            try go_wp2
            go_roundg k2
            case measure=>have:=HK1.out;have:=HK2.out;omega
            case rel=>exact ⟨(wrap64 (x208_2 + 1)),qrs,H',⟨by have:=HK1.out;have:=HK2.out;omega⟩,⟨qra HO_16.out⟩,⟨qra HO_21.out⟩,⟨qra HO_206.out⟩,⟨qra HO_365.out⟩,⟨bk1 BK248.out⟩,⟨by exact bw⟩⟩
           ·rw [if_neg c97] at H;have c97b0:(x208_2 == t247) = false:=beq_eq_false_iff_ne.mpr c97;have c97b1:(x208_2 != t247) = true:=bne_iff_ne.mpr c97;have H':=aM H;clear H;have p287:0 ≤ (x208_2:Int):=of_decide_eq_true ab;have q287:x208_2 < (t253.length:Int):=of_decide_eq_true ab;obtain ⟨ad287,e287,hx287_0⟩:=Kd.bK (Kd.aj HO_206.out).2.2 x208_2 p287 q287;cases e287
            replace p287:=eq_true p287;replace q287:=eq_true q287
            try go_wp2
            as_aux_lemma =>
            replace HO_16:=aM (Kd.aE HO_16.out);replace HO_21:=aM (Kd.aE HO_21.out);replace HO_206:=aM (Kd.aE HO_206.out);replace HO_365:=aM (Kd.aE HO_365.out);replace BK248:=aM (al BK248.out);replace HB:=aM (av HB.out);obtain ⟨Ao102,co102,eo102⟩:=Kd.aX HO_21.out;(first|subst eo102|(injection eo102 with f1_ f2_ f3_;have f4_:=f1_.symm;have f5_:=f3_.symm;clear f1_ f2_ f3_;subst f4_;subst f5_))
            have p288:0 ≤ (x208_2:Int):=of_decide_eq_true ab;have q288:x208_2 < (t271.length:Int):=of_decide_eq_true ab;obtain ⟨ad288,e288,hx288_0⟩:=Kd.bK (Kd.aj HO_21.out).2.2 x208_2 p288 q288;cases e288
            replace p288:=eq_true p288;replace q288:=eq_true q288;refine dx (n:=28) (S:=fun w'=>w'.cell? (ad288.add (x208_2).toNat) = some (.int .i64 (rd t271 x208_2))) (ds:=[]) (mA 28 0) kR rfl rfl (hx288_0) (fun hHeld=>?_);refine cu ag.tab33 ag.bits33 (fun HT_ HW_=>?_)
            generalize wr.drew = w101 at HO_16 HO_21 HO_206 HO_365 BK248 HB hx288_0 hHeld ⊢
            refine pT 0 213 HT_.out ?_;refine pT 1 214 HT_.out ?_;refine pT 2 215 HT_.out ?_;refine pT 3 216 HT_.out ?_;refine pT 6 219 HT_.out ?_;refine pT 7 220 HT_.out ?_;refine pK 4 217 HT_.out HW_.out hHeld ?_;refine pT 5 218 HT_.out ?_;as_aux_lemma =>
            refine oN 8 (some 221) HT_.out fun K hK=>?_
            refine gC Tryz.func16 #[.slice Ao40 t261.length co40,.int .i64 x208_2] ?_
            with_reducible refine (dc.calls k2 _ _ t261 x208_2 t289 _ ?side1 ?side2 A91.out).mono ?_
            (case side1=>exact qc (Kd.aj HO_16.out).2.2)
            (case side2=>exact (Kd.aj HO_16.out).2.1)
            rintro e w' ⟨rfl,⟨nd,rfl⟩⟩
            refine ⟨_,rfl,?_⟩;refine hK.out _ _ (hHeld) (fun hHeld=>?_);clear hK K;refine nM 221 ?_;refine pT 9 222 HT_.out ?_;refine pT 10 223 HT_.out ?_;refine pT 11 224 HT_.out ?_;refine pT 12 225 HT_.out ?_;refine pT 13 226 HT_.out ?_;refine pT 14 227 HT_.out ?_;refine pT 15 228 HT_.out ?_;refine pT 16 229 HT_.out ?_;refine pT 17 230 HT_.out ?_;refine pT 18 231 HT_.out ?_;refine pT 19 232 HT_.out ?_;refine pU 20 233 HT_.out ?_;refine pU 21 234 HT_.out ?_;refine pU 22 235 HT_.out ?_;refine pU 23 236 HT_.out ?_;refine pU 24 237 HT_.out ?_;refine pU 25 238 HT_.out ?_;refine pT 26 239 HT_.out ?_;refine pT 27 240 HT_.out ?_;refine d9 (dp HT_.out kR) ?_
            try go_wp2
            go_roundg k2
            case measure=>have:=HK1.out;have:=HK2.out;omega
            case rel=>exact ⟨(wrap64 (x208_2 + 1)),qrs,H',⟨by have:=HK1.out;have:=HK2.out;omega⟩,⟨qra HO_16.out⟩,⟨qra HO_21.out⟩,⟨qra HO_206.out⟩,⟨qra HO_365.out⟩,⟨bk1 BK248.out⟩,⟨by exact bw⟩⟩
         ·rw [if_neg c87] at H;have c87b0:=decide_eq_false c87;clear c87;have H':=aM H;clear H;go_wp2
          refine Met.intro ?_;refine lL hJ_ ?rel
          case rel=>exact ⟨_,H',⟨by have:=HK1.out;have:=HK2.out;first|omega|exact Nat.le_refl _⟩,⟨by (with_reducible repeat (first|apply Kd.aN|apply Kd.aK|apply Kd.aE));exact Kd.bf HO_365.out (fun _ hk=>trivial)⟩,⟨bk1 BK248.out⟩,⟨by exact bw⟩⟩
   ·replace c42:=Bool.eq_false_iff.mpr c42;subst c42;rw [if_neg (show ¬ (false = true) by decide)] at H;have H':=aM H;clear H;go_wp2
    refine Met.intro ?_;refine lL hJ_ ?rel
    case rel=>exact ⟨_,H',⟨by first|omega|exact Nat.le_refl _⟩,⟨by (with_reducible repeat (first|apply Kd.aN|apply Kd.aK|apply Kd.aE));exact Kd.bf HO245.out (fun _ hk=>trivial)⟩,⟨bk1 BK248.out⟩,⟨by exact bw⟩⟩
  case rest =>
   intro f_ wc hcut;simp only [patch,Nat.reduceAdd];clear HC22;(try clear c42);(try clear c87);(try clear c87b0);(try clear c93);(try clear c93b0);(try clear c93b1);(try clear c97);(try clear c97b0);(try clear c97b1);(try clear c98);(try clear c98b0);(try clear hx287_0);(try clear hx288_0);(try clear hx291_0);(try clear p287);(try clear p288);(try clear p291);(try clear q287);(try clear q288);(try clear q291)
   obtain ⟨kq,HA,HJ21,HO_365,BK248,HB⟩:=hcut
   cases kq with
   | zero=>exact absurd HA.out (by simp [ag.j2])
   | succ kj21 =>
    have H:=HA.out;clear HA;simp only [ag.j2] at H;as_aux_lemma =>
    replace H:=oB H;obtain ⟨⟨t292,t293,t296⟩,A103,H⟩:=H;(try dsimp only at H)
    replace H:=oB H;obtain ⟨⟨t298,t301⟩,A104,H⟩:=H;(try dsimp only at H)
    as_aux_lemma =>
    replace H:=oB H;obtain ⟨⟨t302,t305⟩,A105,H⟩:=H;(try dsimp only at H)
    replace H:=oB H;obtain ⟨⟨t306,t309⟩,A106,H⟩:=H;(try dsimp only at H)
    as_aux_lemma =>
    replace H:=oB H;obtain ⟨⟨t310,t313⟩,A107,H⟩:=H;(try dsimp only at H)
    replace H:=oB H;obtain ⟨⟨t314,t317⟩,A108,H⟩:=H;(try dsimp only at H)
    as_aux_lemma =>
    replace H:=oB H;obtain ⟨⟨t318,t321⟩,A109,H⟩:=H;(try dsimp only at H)
    replace H:=dM H hr_.out;obtain ⟨c110,H⟩:=H;have c110b0:(t301 != t305) = false:=by simpa using c110
    (try (have c110b1:decide (t301 = t305) = true:=by simpa using c110))
    (try (have c110b2:(t301 == t305) = true:=by simpa using c110))
    clear c110;as_aux_lemma =>
    replace H:=oB H;obtain ⟨t322,A111,H⟩:=H;(try dsimp only at H)
    replace H:=dN H hr_.out;obtain ⟨c112,H⟩:=H;subst c112;as_aux_lemma =>
    replace H:=dM H hr_.out;obtain ⟨c113,H⟩:=H;have c113b0:(t309 != t313) = false:=by simpa using c113
    (try (have c113b1:decide (t309 = t313) = true:=by simpa using c113))
    (try (have c113b2:(t309 == t313) = true:=by simpa using c113))
    clear c113;as_aux_lemma =>
    replace H:=oB H;obtain ⟨t323,A114,H⟩:=H;(try dsimp only at H)
    replace H:=dN H hr_.out;obtain ⟨c115,H⟩:=H;subst c115;as_aux_lemma =>
    replace H:=dM H hr_.out;obtain ⟨c116,H⟩:=H;have c116b0:(t317 != t321) = false:=by simpa using c116
    (try (have c116b1:decide (t317 = t321) = true:=by simpa using c116))
    (try (have c116b2:(t317 == t321) = true:=by simpa using c116))
    clear c116;as_aux_lemma =>
    replace H:=oB H;obtain ⟨t324,A117,H⟩:=H;(try dsimp only at H)
    replace H:=dN H hr_.out;obtain ⟨c118,H⟩:=H;subst c118;as_aux_lemma =>
    by_cases c119:t301 = true
    ·subst c119;rw [if_pos rfl] at H;as_aux_lemma =>
     replace H:=dM H hr_.out;obtain ⟨c120,H⟩:=H;have c120b0:decide ((t298.length:Int) < 1) = false:=decide_eq_false c120;have c120b1:decide (t298.length < 1) = false:=decide_eq_false (by omega);clear c120;as_aux_lemma =>
     replace H:=oB H;obtain ⟨t325,A121,H⟩:=H;(try dsimp only at H)
     replace H:=dN H hr_.out;obtain ⟨c122,H⟩:=H;subst c122;as_aux_lemma =>
     replace H:=oB H;obtain ⟨t326,A123,H⟩:=H;(try dsimp only at H)
     replace H:=dM H hr_.out;obtain ⟨c124,H⟩:=H;replace c124:=Bool.eq_false_iff.mpr c124;subst c124;have HC125:=aM H;clear H;go_wp2_with (first|((with_reducible refine ah (f:=17) rfl ?_);refine gL 244 Tryz.func17 #[.slice A1 l1.length c1] ?_;(with_reducible refine (bQ.calls kj21 _ _ l1 t292 t293 t296 _ ?side1 ?side2 A103.out).mono ?_);(case side1=>exact qcs HR1.out HB.out);(case side2=>exact HC1.out);rintro e w126 ⟨v294,rfl,ho0,hb⟩;refine ⟨_,rfl,?_⟩;have HO295:=aM (Kd.bg (Kd.bj ho0 (Kd.dd (qra HO_365.out))) (au bw));replace HO_365:=aM (Kd.aH (qra HO_365.out) (Kd.bi ho0) hb);replace BK248:=aM (bB BK248.out hb);replace HB:=aM (ae bw hb);(try clear hb);(try clear hk);(try clear ho0))|((with_reducible refine aC (N:=31) rfl ?_);refine fx ?_))
     intro q_ hq_;refine hq_ ?_;clear hq_ q_;as_aux_lemma =>
     go_wp2_with (first|((with_reducible refine aC (N:=31) rfl ?_);(try (refine cm (by rfl) ?_;dsimp only));refine bE 31 #[.int .i64 0,.slice none 0 0] 26 ?_;intro gb297 hg w127 hbox hb;replace HO_365:=aM (Kd.aG (qra HO_365.out) hb);replace HO295:=aM (Kd.aG (qra HO295.out) hb);have BK297:=aM (hbox);have GW297:=aM (gS hg);have GE297:=aM (gS hg);replace HB:=aM (ae bw hb);have NB248_297:=aM (nL BK248.out hg);have NB297_248:=aM (nR BK248.out hg);replace BK248:=aM (bB BK248.out hb);clear hb hbox hg;have hnb128:=NB297_248.out;have hnc128:=NB248_297.out;have hcz129_0:=cz BK297.out 0;have hcz129_1:=cz BK297.out 1;have hfz129_0:=aa BK297.out 0;have hfz129_1:=aa BK297.out 1;obtain ⟨Ao130,co130,eo130⟩:=Kd.aX HO295.out;subst eo130)|((with_reducible refine ah (f:=18) rfl ?_);refine fx ?_))
     intro q_ hq_;refine hq_ ?_;clear hq_ q_;as_aux_lemma =>
     go_wp2_with (first|((with_reducible refine ah (f:=18) rfl ?_);refine gL 250 Tryz.func18 #[.agg #[.int .i64 t292,.slice Ao130 t293.length co130],.int .i64 t296] ?_;(with_reducible refine (dA.calls kj21 t292 _ _ t293 t296 t298 true _ ?side1 ?side2 A104.out).mono ?_);(case side1=>refine (Kd.aj (e:=3) (base:=w.heap.size) (ok:=fun k_=>(True ∧ some k_ ≠ (.slice Ao26 t243.length co26:Value).ownBlock)) (n:=t293.length) (c:=co130) ?_).2.2;exact (tR HO295.out BK297.out));(case side2=>exact (Kd.aj HO295.out).2.1);rintro e w131 ⟨v299,rfl,ho0,hb⟩;refine ⟨_,rfl,?_⟩;have HO300:=aM (Kd.bg (Kd.bj (Kd.bj ho0 (Kd.dd (tR HO_365.out BK297.out))) (Kd.dd (tR HO295.out BK297.out))) (au bw));replace HO_365:=aM (Kd.aH (tR HO_365.out BK297.out) (Kd.bi ho0) hb);replace HO295:=aM (Kd.aH (tR HO295.out BK297.out) (Kd.bi ho0) hb);replace BK248:=aM (bG BK248.out NB248_297.out hb);replace BK297:=aM (bP BK297.out hb);replace HB:=aM (ae bw hb);(try clear hb);(try clear hk);(try clear ho0);have hcz132_0:=cz BK297.out 0;have hcz132_1:=cz BK297.out 1;have hfz132_0:=aa BK297.out 0;have hfz132_1:=aa BK297.out 1)|((with_reducible refine ah (f:=19) rfl ?_);refine fx ?_))
     intro q_ hq_;refine hq_ ?_;clear hq_ q_;as_aux_lemma =>
     go_wp2_with (first|((with_reducible refine ah (f:=19) rfl ?_);refine gL 256 Tryz.func19 #[.agg #[.int .i64 t292,.slice Ao130 t293.length co130],.int .i64 t296] ?_;(with_reducible refine (az.calls kj21 t292 _ _ t293 t296 t302 t305 _ ?side1 ?side2 A105.out).mono ?_);(case side1=>exact qc (Kd.aj HO295.out).2.2);(case side2=>exact (Kd.aj HO295.out).2.1);rintro e w133 ⟨v303,rfl,ho0,hb⟩;refine ⟨_,rfl,?_⟩;have HO304:=aM (Kd.bg (Kd.bj (Kd.bj (Kd.bj ho0 (Kd.dd (qra HO_365.out))) (Kd.dd (qra HO295.out))) (Kd.dd (qra HO300.out))) (au bw));replace HO_365:=aM (Kd.aH (qra HO_365.out) (Kd.bi ho0) hb);replace HO295:=aM (Kd.aH (qra HO295.out) (Kd.bi ho0) hb);replace HO300:=aM (Kd.aH (qra HO300.out) (Kd.bi ho0) hb);replace BK248:=aM (bB BK248.out hb);replace BK297:=aM (bB BK297.out hb);replace HB:=aM (ae bw hb);(try clear hb);(try clear ho0);have hcz134_0:=cz BK297.out 0;have hcz134_1:=cz BK297.out 1;have hfz134_0:=aa BK297.out 0;have hfz134_1:=aa BK297.out 1)|((with_reducible refine ah (f:=20) rfl ?_);refine fx ?_))
     intro q_ hq_;refine hq_ ?_;clear hq_ q_;as_aux_lemma =>
     go_wp2_with (first|((with_reducible refine ah (f:=20) rfl ?_);refine gL 262 Tryz.func20 #[.agg #[.int .i64 t292,.slice Ao130 t293.length co130],.int .i64 t296] ?_;(with_reducible refine (aT.calls kj21 t292 _ _ t293 t296 t306 t309 _ ?side1 ?side2 A106.out).mono ?_);(case side1=>exact qc (Kd.aj HO295.out).2.2);(case side2=>exact (Kd.aj HO295.out).2.1);rintro e w135 ⟨v307,rfl,ho0,hb⟩;refine ⟨_,rfl,?_⟩;have HO308:=aM (Kd.bg (Kd.bj (Kd.bj (Kd.bj (Kd.bj ho0 (Kd.dd (qra HO_365.out))) (Kd.dd (qra HO295.out))) (Kd.dd (qra HO300.out))) (Kd.dd (qra HO304.out))) (au bw));replace HO_365:=aM (Kd.aH (qra HO_365.out) (Kd.bi ho0) hb);replace HO295:=aM (Kd.aH (qra HO295.out) (Kd.bi ho0) hb);replace HO300:=aM (Kd.aH (qra HO300.out) (Kd.bi ho0) hb);replace HO304:=aM (Kd.aH (qra HO304.out) (Kd.bi ho0) hb);replace BK248:=aM (bB BK248.out hb);replace BK297:=aM (bB BK297.out hb);replace HB:=aM (ae bw hb);(try clear hb);(try clear ho0);have hcz136_0:=cz BK297.out 0;have hcz136_1:=cz BK297.out 1;have hfz136_0:=aa BK297.out 0;have hfz136_1:=aa BK297.out 1)|((with_reducible refine ah (f:=21) rfl ?_);refine fx ?_))
     intro q_ hq_;refine hq_ ?_;clear hq_ q_;as_aux_lemma =>
     go_wp2_with (first|((with_reducible refine ah (f:=21) rfl ?_);refine gL 268 Tryz.func21 #[.agg #[.int .i64 t292,.slice Ao130 t293.length co130],.int .i64 t296] ?_;(with_reducible refine (a6.calls kj21 t292 _ _ t293 t296 t310 t313 _ ?side1 ?side2 A107.out).mono ?_);(case side1=>exact qc (Kd.aj HO295.out).2.2);(case side2=>exact (Kd.aj HO295.out).2.1);rintro e w137 ⟨v311,rfl,ho0,hb⟩;refine ⟨_,rfl,?_⟩;have HO312:=aM (Kd.bg (Kd.bj (Kd.bj (Kd.bj (Kd.bj (Kd.bj ho0 (Kd.dd (qra HO_365.out))) (Kd.dd (qra HO295.out))) (Kd.dd (qra HO300.out))) (Kd.dd (qra HO304.out))) (Kd.dd (qra HO308.out))) (au bw));replace HO_365:=aM (Kd.aH (qra HO_365.out) (Kd.bi ho0) hb);replace HO295:=aM (Kd.aH (qra HO295.out) (Kd.bi ho0) hb);replace HO300:=aM (Kd.aH (qra HO300.out) (Kd.bi ho0) hb);replace HO304:=aM (Kd.aH (qra HO304.out) (Kd.bi ho0) hb);replace HO308:=aM (Kd.aH (qra HO308.out) (Kd.bi ho0) hb);replace BK248:=aM (bB BK248.out hb);replace BK297:=aM (bB BK297.out hb);replace HB:=aM (ae bw hb);(try clear hb);(try clear ho0);have hcz138_0:=cz BK297.out 0;have hcz138_1:=cz BK297.out 1;have hfz138_0:=aa BK297.out 0;have hfz138_1:=aa BK297.out 1)|((with_reducible refine ah (f:=22) rfl ?_);refine fx ?_))
     intro q_ hq_;refine hq_ ?_;clear hq_ q_;as_aux_lemma =>
     go_wp2_with (first|((with_reducible refine ah (f:=22) rfl ?_);refine gL 274 Tryz.func22 #[.agg #[.int .i64 t292,.slice Ao130 t293.length co130],.int .i64 t296] ?_;(with_reducible refine (bl.calls kj21 t292 _ _ t293 t296 t314 t317 _ ?side1 ?side2 A108.out).mono ?_);(case side1=>exact qc (Kd.aj HO295.out).2.2);(case side2=>exact (Kd.aj HO295.out).2.1);rintro e w139 ⟨v315,rfl,ho0,hb⟩;refine ⟨_,rfl,?_⟩;have HO316:=aM (Kd.bg (Kd.bj (Kd.bj (Kd.bj (Kd.bj (Kd.bj (Kd.bj ho0 (Kd.dd (qra HO_365.out))) (Kd.dd (qra HO295.out))) (Kd.dd (qra HO300.out))) (Kd.dd (qra HO304.out))) (Kd.dd (qra HO308.out))) (Kd.dd (qra HO312.out))) (au bw));replace HO_365:=aM (Kd.aH (qra HO_365.out) (Kd.bi ho0) hb);replace HO295:=aM (Kd.aH (qra HO295.out) (Kd.bi ho0) hb);replace HO300:=aM (Kd.aH (qra HO300.out) (Kd.bi ho0) hb);replace HO304:=aM (Kd.aH (qra HO304.out) (Kd.bi ho0) hb);replace HO308:=aM (Kd.aH (qra HO308.out) (Kd.bi ho0) hb);replace HO312:=aM (Kd.aH (qra HO312.out) (Kd.bi ho0) hb);replace BK248:=aM (bB BK248.out hb);replace BK297:=aM (bB BK297.out hb);replace HB:=aM (ae bw hb);(try clear hb);(try clear ho0);have hcz140_0:=cz BK297.out 0;have hcz140_1:=cz BK297.out 1;have hfz140_0:=aa BK297.out 0;have hfz140_1:=aa BK297.out 1)|((with_reducible refine ah (f:=23) rfl ?_);refine fx ?_))
     intro q_ hq_;refine hq_ ?_;clear hq_ q_;as_aux_lemma =>
     go_wp2_with (first|((with_reducible refine ah (f:=23) rfl ?_);refine gL 280 Tryz.func23 #[.agg #[.int .i64 t292,.slice Ao130 t293.length co130],.int .i64 t296] ?_;(with_reducible refine (bc.calls kj21 t292 _ _ t293 t296 t318 t321 _ ?side1 ?side2 A109.out).mono ?_);(case side1=>exact qc (Kd.aj HO295.out).2.2);(case side2=>exact (Kd.aj HO295.out).2.1);rintro e w141 ⟨v319,rfl,ho0,hb⟩;refine ⟨_,rfl,?_⟩;have HO320:=aM (Kd.bg (Kd.bj (Kd.bj (Kd.bj (Kd.bj (Kd.bj (Kd.bj (Kd.bj ho0 (Kd.dd (qra HO_365.out))) (Kd.dd (qra HO295.out))) (Kd.dd (qra HO300.out))) (Kd.dd (qra HO304.out))) (Kd.dd (qra HO308.out))) (Kd.dd (qra HO312.out))) (Kd.dd (qra HO316.out))) (au bw));replace HO_365:=aM (Kd.aH (qra HO_365.out) (Kd.bi ho0) hb);replace HO295:=aM (Kd.aH (qra HO295.out) (Kd.bi ho0) hb);replace HO300:=aM (Kd.aH (qra HO300.out) (Kd.bi ho0) hb);replace HO304:=aM (Kd.aH (qra HO304.out) (Kd.bi ho0) hb);replace HO308:=aM (Kd.aH (qra HO308.out) (Kd.bi ho0) hb);replace HO312:=aM (Kd.aH (qra HO312.out) (Kd.bi ho0) hb);replace HO316:=aM (Kd.aH (qra HO316.out) (Kd.bi ho0) hb);replace BK248:=aM (bB BK248.out hb);replace BK297:=aM (bB BK297.out hb);replace HB:=aM (ae bw hb);(try clear hb);(try clear ho0);obtain ⟨Ao142,co142,eo142⟩:=Kd.aX HO300.out;subst eo142;obtain ⟨Ao143,co143,eo143⟩:=Kd.aX HO304.out;subst eo143)|(go_at_call 12;refine fx ?_))
     intro q_ hq_;refine hq_ ?_;clear hq_ q_;as_aux_lemma =>
     go_wp2_with (first|(go_at_call 12;(with_reducible refine (cd.calls kj21 _ _ t298 _ _ t302 true _ ?side1 ?side2 ?side3 ?side4 A111.out).mono ?_);(case side1=>exact qc (Kd.aj HO300.out).2.2);(case side2=>exact (Kd.aj HO300.out).2.1);(case side3=>exact qc (Kd.aj HO304.out).2.2);(case side4=>exact (Kd.aj HO304.out).2.1);rintro e w' ⟨rfl,⟨nd,rfl⟩⟩;obtain ⟨Ao144,co144,eo144⟩:=Kd.aX HO308.out;subst eo144;obtain ⟨Ao145,co145,eo145⟩:=Kd.aX HO312.out;subst eo145)|(go_at_call 12;refine fx ?_))
     intro q_ hq_;refine hq_ ?_;clear hq_ q_;as_aux_lemma =>
     go_wp2_with (first|(go_at_call 12;(with_reducible refine (cd.calls kj21 _ _ t306 _ _ t310 true _ ?side1 ?side2 ?side3 ?side4 A114.out).mono ?_);(case side1=>exact qc (Kd.aj HO308.out).2.2);(case side2=>exact (Kd.aj HO308.out).2.1);(case side3=>exact qc (Kd.aj HO312.out).2.2);(case side4=>exact (Kd.aj HO312.out).2.1);rintro e w' ⟨rfl,⟨nd,rfl⟩⟩;obtain ⟨Ao146,co146,eo146⟩:=Kd.aX HO316.out;subst eo146;obtain ⟨Ao147,co147,eo147⟩:=Kd.aX HO320.out;subst eo147)|(go_at_call 12;(with_reducible refine (cd.calls kj21 _ _ t314 _ _ t318 true _ ?side1 ?side2 ?side3 ?side4 A117.out).mono ?_);(case side1=>exact qc (Kd.aj HO316.out).2.2);(case side2=>exact (Kd.aj HO316.out).2.1);(case side3=>exact qc (Kd.aj HO320.out).2.2);(case side4=>exact (Kd.aj HO320.out).2.1);rintro e w' ⟨rfl,⟨nd,rfl⟩⟩)|(go_at_call 24;refine fx ?_))
     intro q_ hq_;refine hq_ ?_;clear hq_ q_;as_aux_lemma =>
     go_upto_if 330 with (first|(go_at_call 24;(with_reducible refine (cg.calls kj21 _ _ t298 true _ ?side1 ?side2 A121.out).mono ?_);(case side1=>exact qc (Kd.aj HO300.out).2.2);(case side2=>exact (Kd.aj HO300.out).2.1);rintro e w' ⟨rfl,⟨nd,rfl⟩⟩)|(go_at_call 16;(with_reducible refine (dc.calls kj21 _ _ t298 t296 false _ ?side1 ?side2 A123.out).mono ?_);(case side1=>exact qc (Kd.aj HO300.out).2.2);(case side2=>exact (Kd.aj HO300.out).2.1);rintro e w' ⟨rfl,⟨nd,rfl⟩⟩))
     (try simp only [Act.put,sA,sZ,sS])
     refine cutP [0,0,0,0,1,0,0,0,0,0,0,0,0,0,0,0,0,0,0,0,0,0,0,0,0,0,0,0,0,0,0,0,0,0,0,0,0,0,0,0,0,0,0,0,0,0,0,0,0,0,0,0,0,0,0,0,0,0,0,0,0,0,0,0,0,0,0,0,0,0,0,0,0,0,0,0,0,0,0,0,0,0,0,0,0,0,0,0,0,0,0,0,0,0,0,0,0,0,0,0,0,0,0,0,0,0,0,0,0,0,0,0,0,0,0,0,0,0,0,0,0,0,0,0,0,0,0,0,0,0,0,0,0,0,0,0,0,0,0,0,0,0,0,0,0,0,0,0,0,0,0,0,0,0,0,0,0,0,0,0,0,0,0,0,0,0,0,0,0,0,0,0,0,0,0,0,0,0,0,0,0,0,0,0,0,0,0,0,0,0,0,0,0,0,0,0,0,0,0,0,0,0,0,0,0,0,0,0,0,0,0,0,0,0,0,0,0,0,0,0,0,0,0,0,0,0,0,0,0,0,0,0,0,0,0,0,0,0,0,0,0,0,0,0,0,0,0,0,0,0,0,0,0,0,0,0,0,0,0,0,0,0,0,0,0,0,0,0,0,0,0,0,0,0,0,0,0,0,0,0,0,0,0,0,0,0,0,0,0,0,0,0,0,0,0,0,0,0,0,0,0,0,0,0,0,0,0,0,0,0,0,0,0,0,0,0,0,0,0,0,0,0,0,0,0,0,0,0,0,0,0,1,1,1,1,1,1,1,1,1,1,1,1,1,1,1,1,1,1,1,1,1,1,1,1,1,1] (fun f_ wc=>∃ (kq:Nat),ak (ag.j3 kq t296 t314 t317 t292 t293 = some r) ∧ ak (kq ≤ kj21) ∧ ak (Kd.R (Kd.int .i64) 3 wc w.heap.size (fun k_=>some k_ ≠ ((.slice Ao26 t243.length co26):Value).ownBlock ∧ some k_ ≠ ((.slice Ao130 t293.length co130):Value).ownBlock) (.slice Ao146 t314.length co146) t314) ∧ ak (Kd.R (Kd.int .i64) 3 wc w.heap.size (fun k_=>some k_ ≠ ((.slice Ao146 t314.length co146):Value).ownBlock ∧ some k_ ≠ ((.slice Ao130 t293.length co130):Value).ownBlock) (.slice Ao26 t243.length co26) t243) ∧ ak (Kd.R (Kd.int .i64) 3 wc w.heap.size (fun k_=>some k_ ≠ ((.slice Ao146 t314.length co146):Value).ownBlock ∧ some k_ ≠ ((.slice Ao26 t243.length co26):Value).ownBlock) (.slice Ao130 t293.length co130) t293) ∧ ak (wc.heap[gb248]? = some (.cells #[.int .i64 t242,(.slice Ao26 t243.length co26)] 26 (0,0))) ∧ ak (wc.heap[gb297]? = some (.cells #[.int .i64 t292,(.slice Ao130 t293.length co130)] 26 (0,0))) ∧ ak (Below w.heap.size w wc)) ?rest ?first
     case first =>
      intro _ _ hJ_ _;have H:=HC125.out;clear HC125;as_aux_lemma =>
      by_cases c148:t309 = true
      ·subst c148;rw [if_pos rfl] at H;as_aux_lemma =>
       replace H:=dM H hr_.out;obtain ⟨c149,H⟩:=H;have c149b0:decide ((t306.length:Int) < 1) = false:=decide_eq_false c149;have c149b1:decide (t306.length < 1) = false:=decide_eq_false (by omega);clear c149;(first|rw [c149b0]|(simp only [dl,dG];rw [c149b0])|skip)
       as_aux_lemma =>
       replace H:=oB H;obtain ⟨t327,A150,H⟩:=H;(try dsimp only at H)
       replace H:=dN H hr_.out;obtain ⟨c151,H⟩:=H;subst c151;obtain ⟨ji152,hji152⟩:∃ j_:Int,(wrap64 ((t306.length:Int) - 1)) = j_:=⟨_,rfl⟩;(first|rw [hji152] at H|simp only [hji152] at H)
       (try rw [hji152] at A150)
       have hji152w:(IntKind.i64.wrap ((t306.length:Int) - 1)) = ji152:=(dl _).trans hji152;as_aux_lemma =>
       replace H:=iN H;obtain ⟨c153,H⟩:=H;have c153b0:decide (0 ≤ (ji152)) = true:=decide_eq_true c153;clear c153;replace H:=iN H;obtain ⟨c154,H⟩:=H;have c154b0:decide ((ji152) < (t306.length:Int)) = true:=decide_eq_true c154;clear c154;as_aux_lemma =>
       replace H:=iN H;obtain ⟨c155,H⟩:=H;have c155b0:decide (0 ≤ t296) = true:=decide_eq_true c155;clear c155;replace H:=iN H;obtain ⟨c156,H⟩:=H;have c156b0:decide (t296 < (t293.length:Int)) = true:=decide_eq_true c156;clear c156;as_aux_lemma =>
       replace H:=iN H;obtain ⟨c157,H⟩:=H;have c157b0:decide (0 < (t306.length:Int)) = true:=decide_eq_true c157;have c157b1:decide (0 < t306.length) = true:=decide_eq_true (by omega);clear c157;as_aux_lemma =>
       replace H:=dN H hr_.out;obtain ⟨c158,H⟩:=H;have c158b0:((rd t306 (ji152)) == (wrap64 ((rd t293 t296) - (rd t306 0)))) = true:=beq_iff_eq.mpr c158;have c158b1:((rd t306 (ji152)) != (wrap64 ((rd t293 t296) - (rd t306 0)))) = false:=bne_eq_false_iff_eq.mpr c158;clear c158;have H':=aM H;clear H
       try go_wp2
       (try (rw [eb w141];generalize hq_:World.drewN w141 _ = w141;replace HO_365:=aM (hqR hq_ HO_365.out);replace HO295:=aM (hqR hq_ HO295.out);replace HO300:=aM (hqR hq_ HO300.out);replace HO304:=aM (hqR hq_ HO304.out);replace HO308:=aM (hqR hq_ HO308.out);replace HO312:=aM (hqR hq_ HO312.out);replace HO316:=aM (hqR hq_ HO316.out);replace HO320:=aM (hqR hq_ HO320.out);replace BK248:=aM (hqB hq_ BK248.out);replace BK297:=aM (hqB hq_ BK297.out);replace HB:=aM (hqH hq_ HB.out);clear hq_))
       as_aux_lemma =>
       replace HO_365:=aM (Kd.aE HO_365.out);replace HO295:=aM (Kd.aE HO295.out);replace HO300:=aM (Kd.aE HO300.out);replace HO304:=aM (Kd.aE HO304.out);replace HO308:=aM (Kd.aE HO308.out);replace HO312:=aM (Kd.aE HO312.out);replace HO316:=aM (Kd.aE HO316.out);replace HO320:=aM (Kd.aE HO320.out);replace BK248:=aM (al BK248.out);replace BK297:=aM (al BK297.out);replace HB:=aM (av HB.out);have p328:0 ≤ ((ji152):Int):=of_decide_eq_true ab;have q328:(ji152) < (t306.length:Int):=of_decide_eq_true ab;obtain ⟨ad328,e328,hx328_0⟩:=Kd.bK (Kd.aj HO308.out).2.2 (ji152) p328 q328;cases e328
       replace p328:=eq_true p328;replace q328:=eq_true q328;have p329:0 ≤ (t296:Int):=of_decide_eq_true ab;have q329:t296 < (t293.length:Int):=of_decide_eq_true ab;obtain ⟨ad329,e329,hx329_0⟩:=Kd.bK (Kd.aj HO295.out).2.2 t296 p329 q329;cases e329
       replace p329:=eq_true p329;replace q329:=eq_true q329;have p330:0 ≤ (0:Int):=(by omega);have q330:0 < (t306.length:Int):=of_decide_eq_true ab;obtain ⟨ad330,e330,hx330_0⟩:=Kd.bK (Kd.aj HO308.out).2.2 0 p330 q330;obtain rfl:ad328 = ad330:=(by injection e330);have qi859:(0 < t306.length) = True:=eq_true (by omega);(try rw [show ((0:Int)).toNat = 0 from rfl] at hx330_0)
       (try rw [Addr.add_zero'] at hx330_0)
       replace p330:=eq_true p330;replace q330:=eq_true q330;refine dx (n:=26) (S:=fun w'=>w'.cell? ⟨gb297,0,none⟩ = some (.int .i64 t292) ∧ w'.cell? ⟨gb297,1,none⟩ = some (.slice (some ad329) t293.length co130) ∧ w'.cell? (ad328.add ((ji152)).toNat) = some (.int .i64 (rd t306 (ji152))) ∧ w'.cell? (ad329.add (t296).toNat) = some (.int .i64 (rd t293 t296)) ∧ w'.cell? ad328 = some (.int .i64 (rd t306 0))) (ds:=[]) (mA 26 0) kR rfl rfl ⟨(ai BK297.out 0).trans rfl,(ai BK297.out 1).trans rfl,hx328_0,hx329_0,hx330_0⟩ (fun hHeld=>?_);refine cu ag.tab48 ag.bits48 (fun HT_ HW_=>?_)
       generalize w141.drew = w159 at HO_365 HO295 HO300 HO304 HO308 HO312 HO316 HO320 BK248 BK297 HB hx328_0 hx329_0 hx330_0 hHeld ⊢
       refine pT 0 331 HT_.out ?_;refine pT 1 332 HT_.out ?_;refine pT 2 333 HT_.out ?_;refine pT 3 334 HT_.out ?_;refine pT 4 335 HT_.out ?_;as_aux_lemma =>
       refine oN 5 (some 336) HT_.out fun K hK=>?_
       refine gC Tryz.func24 #[.slice (some ad328) t306.length co144] ?_
       with_reducible refine (cg.calls kj21 _ _ t306 true _ ?side1 ?side2 A150.out).mono ?_
       (case side1=>exact qc (Kd.aj HO308.out).2.2)
       (case side2=>exact (Kd.aj HO308.out).2.1)
       rintro e w' ⟨rfl,⟨nd,rfl⟩⟩
       refine ⟨_,rfl,?_⟩;refine hK.out _ _ ⟨(ai BK297.out 0).trans rfl,(ai BK297.out 1).trans rfl,hHeld.2.2.1,hHeld.2.2.2.1,hHeld.2.2.2.2⟩ (fun hHeld=>?_);clear hK K;refine nM 336 ?_;refine pT 6 337 HT_.out ?_;refine pT 7 338 HT_.out ?_;refine pT 8 339 HT_.out ?_;refine pT 9 340 HT_.out ?_;refine pT 10 341 HT_.out ?_;refine pT 11 342 HT_.out ?_;refine pT 12 343 HT_.out ?_;refine pT 13 344 HT_.out ?_;refine pT 15 346 HT_.out ?_;refine pT 17 348 HT_.out ?_;refine pT 20 351 HT_.out ?_;refine pT 21 352 HT_.out ?_;refine pK 14 345 HT_.out HW_.out hHeld ?_;refine pK 16 347 HT_.out HW_.out hHeld ?_;refine pT 18 349 HT_.out ?_;refine pK 19 350 HT_.out HW_.out hHeld ?_;refine pK 22 353 HT_.out HW_.out hHeld ?_;refine pT 23 354 HT_.out ?_;refine pT 24 355 HT_.out ?_;refine pT 25 356 HT_.out ?_;refine d9 (dp HT_.out kR) ?_
       try go_wp2
       refine Met.intro ?_;refine lL hJ_ ?rel
       case rel=>exact ⟨_,H',⟨by have:=HJ21.out;first|omega|exact Nat.le_refl _⟩,⟨by (with_reducible repeat (first|apply Kd.aN|apply Kd.aK|apply Kd.aE));exact Kd.bf HO316.out (fun _ hk=>cj hk)⟩,⟨by (with_reducible repeat (first|apply Kd.aN|apply Kd.aK|apply Kd.aE));exact Kd.bf HO_365.out (fun _ hk=>cj hk)⟩,⟨by (with_reducible repeat (first|apply Kd.aN|apply Kd.aK|apply Kd.aE));exact Kd.bf HO295.out (fun _ hk=>cj hk)⟩,⟨bk1 BK248.out⟩,⟨bk1 BK297.out⟩,⟨by exact bw⟩⟩
      ·replace c148:=Bool.eq_false_iff.mpr c148;subst c148;rw [if_neg (show ¬ (false = true) by decide)] at H;have H':=aM H;clear H;go_wp2
       refine Met.intro ?_;refine lL hJ_ ?rel
       case rel=>exact ⟨_,H',⟨by have:=HJ21.out;first|omega|exact Nat.le_refl _⟩,⟨by (with_reducible repeat (first|apply Kd.aN|apply Kd.aK|apply Kd.aE));exact Kd.bf HO316.out (fun _ hk=>cj hk)⟩,⟨by (with_reducible repeat (first|apply Kd.aN|apply Kd.aK|apply Kd.aE));exact Kd.bf HO_365.out (fun _ hk=>cj hk)⟩,⟨by (with_reducible repeat (first|apply Kd.aN|apply Kd.aK|apply Kd.aE));exact Kd.bf HO295.out (fun _ hk=>cj hk)⟩,⟨bk1 BK248.out⟩,⟨bk1 BK297.out⟩,⟨by exact bw⟩⟩
     case rest =>
      intro f_ wc hcut;simp only [patch,Nat.reduceAdd];clear HC125;(try clear c1);(try clear c110);(try clear c110b0);(try clear c110b1);(try clear c110b2);(try clear c112);(try clear c113);(try clear c113b0);(try clear c113b1);(try clear c113b2);(try clear c115);(try clear c116);(try clear c116b0);(try clear c116b1);(try clear c116b2);(try clear c118);(try clear c119);(try clear c120);(try clear c120b0);(try clear c120b1);(try clear c122);(try clear c124);(try clear c148);(try clear c149);(try clear c149b0);(try clear c149b1);(try clear c151);(try clear c153);(try clear c153b0);(try clear c154);(try clear c154b0);(try clear c155);(try clear c155b0);(try clear c156);(try clear c156b0);(try clear c157);(try clear c157b0);(try clear c157b1);(try clear c158);(try clear c158b0);(try clear c158b1);(try clear hcz129_0);(try clear hcz129_1);(try clear hcz132_0);(try clear hcz132_1);(try clear hcz134_0);(try clear hcz134_1);(try clear hcz136_0);(try clear hcz136_1);(try clear hcz138_0);(try clear hcz138_1);(try clear hcz140_0);(try clear hcz140_1);(try clear hfz129_0);(try clear hfz129_1);(try clear hfz132_0);(try clear hfz132_1);(try clear hfz134_0);(try clear hfz134_1);(try clear hfz136_0);(try clear hfz136_1);(try clear hfz138_0);(try clear hfz138_1);(try clear hfz140_0);(try clear hfz140_1);(try clear hx328_0);(try clear hx329_0);(try clear hx330_0);(try clear p328);(try clear p329);(try clear p330);(try clear q328);(try clear q329);(try clear q330)
      obtain ⟨kq,HA,HJ124,HO_41,HO_365,HO_366,BK248,BK297,HB⟩:=hcut
      cases kq with
      | zero=>exact absurd HA.out (by simp [ag.j3])
      | succ kj124 =>
       have H:=HA.out;clear HA;simp only [ag.j3] at H;as_aux_lemma =>
       by_cases c160:t317 = true
       ·subst c160;rw [if_pos rfl] at H;as_aux_lemma =>
        replace H:=dM H hr_.out;obtain ⟨c161,H⟩:=H;have c161b0:decide ((t314.length:Int) < 1) = false:=decide_eq_false c161;have c161b1:decide (t314.length < 1) = false:=decide_eq_false (by omega);clear c161;as_aux_lemma =>
        replace H:=oB H;obtain ⟨t331,A162,H⟩:=H;(try dsimp only at H)
        replace H:=dN H hr_.out;obtain ⟨c163,H⟩:=H;subst c163;as_aux_lemma =>
        replace H:=iN H;obtain ⟨c164,H⟩:=H;have c164b0:decide (0 < (t314.length:Int)) = true:=decide_eq_true c164;have c164b1:decide (0 < t314.length) = true:=decide_eq_true (by omega);clear c164;as_aux_lemma =>
        replace H:=oB H;obtain ⟨⟨t333,t336⟩,A165,H⟩:=H;(try dsimp only at H)
        replace H:=oB H;obtain ⟨⟨t337,t340⟩,A166,H⟩:=H;(try dsimp only at H)
        as_aux_lemma =>
        replace H:=dN H hr_.out;obtain ⟨c167,H⟩:=H;subst c167;replace H:=dN H hr_.out;obtain ⟨c168,H⟩:=H;subst c168;as_aux_lemma =>
        replace H:=iN H;obtain ⟨c169,H⟩:=H;have c169b0:decide (0 ≤ t296) = true:=decide_eq_true c169;clear c169;replace H:=iN H;obtain ⟨c170,H⟩:=H;have c170b0:decide (t296 < (t337.length:Int)) = true:=decide_eq_true c170;clear c170;as_aux_lemma =>
        replace H:=iN H;obtain ⟨c171,H⟩:=H;have c171b0:decide (t296 < (t333.length:Int)) = true:=decide_eq_true c171;clear c171;replace H:=dM H hr_.out;obtain ⟨c172,H⟩:=H;have c172b0:decide ((rd t333 t296) < (rd t337 t296)) = false:=decide_eq_false c172;(try (have c9k_:=c92b0;simp [gt_iff_lt,c172b0] at c9k_))
        clear c172;as_aux_lemma =>
        replace H:=oB H;obtain ⟨t345,A173,H⟩:=H;(try dsimp only at H)
        replace H:=dM H hr_.out;obtain ⟨c174,H⟩:=H;have c174b0:(((rd t337 t296) == (rd t333 t296)) != t345) = false:=by simpa using c174
        (try (have c174b1:decide (((rd t337 t296) == (rd t333 t296)) = t345) = true:=by simpa using c174))
        (try (have c174b2:(((rd t337 t296) == (rd t333 t296)) == t345) = true:=by simpa using c174))
        clear c174;obtain rfl:=Option.some.inj H;as_aux_lemma =>
        try go_wp2_with (first|(go_at_call 24;(with_reducible refine (cg.calls kj124 _ _ t314 true _ ?side1 ?side2 A162.out).mono ?_);(case side1=>exact qc (Kd.aj HO_41.out).2.2);(case side2=>exact (Kd.aj HO_41.out).2.1);rintro e w' ⟨rfl,⟨nd,rfl⟩⟩))
        (try (rw [eb wc];generalize hq_:World.drewN wc _ = wc;have n0_:ak (Kd.R (Kd.int .i64) 3 wc w.heap.size (fun k_=>some k_ ≠ (.slice Ao26 t243.length co26:Value).ownBlock ∧ some k_ ≠ (.slice Ao130 t293.length co130:Value).ownBlock) (.slice Ao146 t314.length co146) t314):=⟨by rw [← hq_];exact (qra HO_41.out)⟩;have n1_:ak (Kd.R (Kd.int .i64) 3 wc w.heap.size (fun k_=>some k_ ≠ (.slice Ao146 t314.length co146:Value).ownBlock ∧ some k_ ≠ (.slice Ao130 t293.length co130:Value).ownBlock) (.slice Ao26 t243.length co26) t243):=⟨by rw [← hq_];exact (qra HO_365.out)⟩;have n2_:ak (Kd.R (Kd.int .i64) 3 wc w.heap.size (fun k_=>some k_ ≠ (.slice Ao146 t314.length co146:Value).ownBlock ∧ some k_ ≠ (.slice Ao26 t243.length co26:Value).ownBlock) (.slice Ao130 t293.length co130) t293):=⟨by rw [← hq_];exact (qra HO_366.out)⟩;have n3_:ak (wc.heap[gb248]? = some (.cells #[.int .i64 t242,.slice Ao26 t243.length co26] 26 (0,0))):=⟨by rw [← hq_];exact (bk1 BK248.out)⟩;have n4_:ak (wc.heap[gb297]? = some (.cells #[.int .i64 t292,.slice Ao130 t293.length co130] 26 (0,0))):=⟨by rw [← hq_];exact (bk1 BK297.out)⟩;have n5_:ak (Below w.heap.size w wc):=⟨by rw [← hq_];exact bw⟩;clear HO_41 HO_365 HO_366 BK248 BK297 HB hq_;have HO_41:=n0_;have HO_365:=n1_;have HO_366:=n2_;have BK248:=n3_;have BK297:=n4_;have HB:=n5_;clear n0_ n1_ n2_ n3_ n4_ n5_))
        replace HO_41:=aM (Kd.aE HO_41.out);replace HO_365:=aM (Kd.aE HO_365.out);replace HO_366:=aM (Kd.aE HO_366.out);replace BK248:=aM (al BK248.out);replace BK297:=aM (al BK297.out);replace HB:=aM (av HB.out);have p332:0 ≤ (0:Int):=(by omega);have q332:0 < (t314.length:Int):=of_decide_eq_true ab;obtain ⟨ad332,e332,hx332_0⟩:=Kd.bK (Kd.aj HO_41.out).2.2 0 p332 q332;cases e332
        have qi861:(0 < t314.length) = True:=eq_true (by omega);(try rw [show ((0:Int)).toNat = 0 from rfl] at hx332_0)
        (try rw [Addr.add_zero'] at hx332_0)
        replace p332:=eq_true p332;replace q332:=eq_true q332;refine dx (n:=12) (S:=fun w'=>w'.cell? ⟨gb297,0,none⟩ = some (.int .i64 t292) ∧ w'.cell? ⟨gb297,1,none⟩ = some (.slice Ao130 t293.length co130) ∧ w'.cell? ad332 = some (.int .i64 (rd t314 0))) (ds:=[]) (mA 12 0) kR rfl rfl ⟨(ai BK297.out 0).trans rfl,(ai BK297.out 1).trans rfl,hx332_0⟩ (fun hHeld=>?_);refine cu ag.tab53 ag.bits53 (fun HT_ HW_=>?_)
        generalize wc.drew = w175 at HO_41 HO_365 HO_366 BK248 BK297 HB hx332_0 hHeld ⊢
        refine pT 0 367 HT_.out ?_;refine pT 1 368 HT_.out ?_;refine pT 3 370 HT_.out ?_;refine pK 2 369 HT_.out HW_.out hHeld ?_;refine pK 4 371 HT_.out HW_.out hHeld ?_;refine pT 5 372 HT_.out ?_;as_aux_lemma =>
        refine oN 6 (some 373) HT_.out fun K hK=>?_
        refine gC Tryz.func25 #[.agg #[.int .i64 (rd t314 0),.slice Ao130 t293.length co130]] ?_
        with_reducible refine (cG.calls kj124 (rd t314 0) _ _ t293 t333 true _ ?side1 ?side2 A165.out).mono ?_
        (case side1=>exact qc (Kd.aj HO_366.out).2.2)
        (case side2=>exact (Kd.aj HO_366.out).2.1)
        rintro e w176 ⟨v334,rfl,ho0,hb⟩
        have HS2_:=(hb.cell (World.block_lt_of_cell? _ _ (hHeld.2.2))).trans (hHeld.2.2);refine ⟨_,rfl,?_⟩;have HO335:=aM (Kd.bg (Kd.bj (Kd.bj (Kd.bj ho0 (Kd.dd (qra HO_41.out))) (Kd.dd (qra HO_365.out))) (Kd.dd (qra HO_366.out))) (au bw));replace HO_41:=aM (Kd.aH (qra HO_41.out) (Kd.bi ho0) hb);replace HO_365:=aM (Kd.aH (qra HO_365.out) (Kd.bi ho0) hb);replace HO_366:=aM (Kd.aH (qra HO_366.out) (Kd.bi ho0) hb);replace BK248:=aM (bB BK248.out hb);replace BK297:=aM (bB BK297.out hb);replace HB:=aM (ae bw hb);(try clear hb)
        (try clear hk)
        (try clear ho0)
        refine hK.out _ _ ⟨(ai BK297.out 0).trans rfl,(ai BK297.out 1).trans rfl,HS2_⟩ (fun hHeld=>?_);clear hK K;refine nM 373 ?_;refine pT 7 366 HT_.out ?_;refine pT 8 374 HT_.out ?_;refine pT 9 375 HT_.out ?_;refine pT 10 45 HT_.out ?_;refine pT 11 46 HT_.out ?_;refine d9 (dp HT_.out kR) ?_;have hnb177:=NB297_248.out;have hnc177:=NB248_297.out;have hcz178_0:=cz BK297.out 0;have hcz178_1:=cz BK297.out 1;have hfz178_0:=aa BK297.out 0;have hfz178_1:=aa BK297.out 1;as_aux_lemma =>
        try go_wp2_with (first|((with_reducible refine ah (f:=25) rfl ?_);refine gL 378 Tryz.func25 #[.agg #[.int .i64 t292,.slice Ao130 t293.length co130]] ?_;(with_reducible refine (cG.calls kj124 t292 _ _ t293 t337 true _ ?side1 ?side2 A166.out).mono ?_);(case side1=>exact qc (Kd.aj HO_366.out).2.2);(case side2=>exact (Kd.aj HO_366.out).2.1);rintro e w179 ⟨v338,rfl,ho0,hb⟩;refine ⟨_,rfl,?_⟩;have HO339:=aM (Kd.bg (Kd.bj (Kd.bj (Kd.bj (Kd.bj ho0 (Kd.dd (qra HO_41.out))) (Kd.dd (qra HO_365.out))) (Kd.dd (qra HO_366.out))) (Kd.dd (qra HO335.out))) (au bw));replace HO_41:=aM (Kd.aH (qra HO_41.out) (Kd.bi ho0) hb);replace HO_365:=aM (Kd.aH (qra HO_365.out) (Kd.bi ho0) hb);replace HO_366:=aM (Kd.aH (qra HO_366.out) (Kd.bi ho0) hb);replace HO335:=aM (Kd.aH (qra HO335.out) (Kd.bi ho0) hb);replace BK248:=aM (bB BK248.out hb);replace BK297:=aM (bB BK297.out hb);replace HB:=aM (ae bw hb);(try clear hb);(try clear ho0)))
        replace HO_41:=aM (Kd.aE HO_41.out);replace HO_365:=aM (Kd.aE HO_365.out);replace HO_366:=aM (Kd.aE HO_366.out);replace HO335:=aM (Kd.aE HO335.out);replace HO339:=aM (Kd.aE HO339.out);replace BK248:=aM (al BK248.out);replace BK297:=aM (al BK297.out);replace HB:=aM (av HB.out);obtain ⟨Ao181,co181,eo181⟩:=Kd.aX HO339.out;(first|subst eo181|(injection eo181 with f1_ f2_ f3_;have f4_:=f1_.symm;have f5_:=f3_.symm;clear f1_ f2_ f3_;subst f4_;subst f5_))
        have p341:0 ≤ (t296:Int):=of_decide_eq_true ab;have q341:t296 < (t337.length:Int):=of_decide_eq_true ab;obtain ⟨ad341,e341,hx341_0⟩:=Kd.bK (Kd.aj HO339.out).2.2 t296 p341 q341;cases e341
        replace p341:=eq_true p341;replace q341:=eq_true q341;obtain ⟨Ao182,co182,eo182⟩:=Kd.aX HO335.out;(first|subst eo182|(injection eo182 with f1_ f2_ f3_;have f4_:=f1_.symm;have f5_:=f3_.symm;clear f1_ f2_ f3_;subst f4_;subst f5_))
        have p342:0 ≤ (t296:Int):=of_decide_eq_true ab;have q342:t296 < (t333.length:Int):=of_decide_eq_true ab;obtain ⟨ad342,e342,hx342_0⟩:=Kd.bK (Kd.aj HO335.out).2.2 t296 p342 q342;cases e342
        replace p342:=eq_true p342;replace q342:=eq_true q342;have p343:0 ≤ (t296:Int):=of_decide_eq_true ab;have q343:t296 < (t337.length:Int):=of_decide_eq_true ab;obtain ⟨ad343,e343,hx343_0⟩:=Kd.bK (Kd.aj HO339.out).2.2 t296 p343 q343;obtain rfl:ad341 = ad343:=(by injection e343);replace p343:=eq_true p343;replace q343:=eq_true q343;have p344:0 ≤ (t296:Int):=of_decide_eq_true ab;have q344:t296 < (t333.length:Int):=of_decide_eq_true ab;obtain ⟨ad344,e344,hx344_0⟩:=Kd.bK (Kd.aj HO335.out).2.2 t296 p344 q344;obtain rfl:ad342 = ad344:=(by injection e344);replace p344:=eq_true p344;replace q344:=eq_true q344;refine dx (n:=33) (S:=fun w'=>w'.cell? ⟨gb297,0,none⟩ = some (.int .i64 t292) ∧ w'.cell? ⟨gb297,1,none⟩ = some (.slice Ao130 t293.length co130) ∧ w'.cell? (ad341.add (t296).toNat) = some (.int .i64 (rd t337 t296)) ∧ w'.cell? (ad342.add (t296).toNat) = some (.int .i64 (rd t333 t296)) ∧ w'.cell? (ad341.add (t296).toNat) = some (.int .i64 (rd t337 t296)) ∧ w'.cell? (ad342.add (t296).toNat) = some (.int .i64 (rd t333 t296))) (ds:=[]) (mA 33 0) kR rfl rfl ⟨(ai BK297.out 0).trans rfl,(ai BK297.out 1).trans rfl,hx341_0,hx342_0,hx343_0,hx344_0⟩ (fun hHeld=>?_);refine cu ag.tab55 ag.bits55 (fun HT_ HW_=>?_)
        generalize w179.drew = w180 at HO_41 HO_365 HO_366 HO335 HO339 BK248 BK297 HB hx341_0 hx342_0 hx343_0 hx344_0 hHeld ⊢
        refine pT 0 381 HT_.out ?_;refine pT 1 382 HT_.out ?_;refine pT 2 383 HT_.out ?_;refine pT 3 384 HT_.out ?_;refine pT 4 385 HT_.out ?_;refine pT 5 386 HT_.out ?_;refine pT 6 387 HT_.out ?_;refine pT 7 388 HT_.out ?_;refine pT 8 389 HT_.out ?_;refine pT 9 390 HT_.out ?_;refine pT 11 392 HT_.out ?_;refine pT 12 393 HT_.out ?_;refine pT 13 394 HT_.out ?_;refine pK 10 391 HT_.out HW_.out hHeld ?_;refine pK 14 395 HT_.out HW_.out hHeld ?_;refine pT 15 396 HT_.out ?_;refine pT 16 397 HT_.out ?_;refine pT 17 398 HT_.out ?_;refine pT 18 399 HT_.out ?_;refine pT 19 400 HT_.out ?_;refine pT 20 401 HT_.out ?_;refine pT 22 403 HT_.out ?_;refine pT 23 404 HT_.out ?_;refine pT 24 405 HT_.out ?_;refine pT 27 408 HT_.out ?_;refine pT 28 409 HT_.out ?_;refine pK 21 402 HT_.out HW_.out hHeld ?_;refine pK 25 406 HT_.out HW_.out hHeld ?_;refine pT 26 407 HT_.out ?_;refine pK 29 410 HT_.out HW_.out hHeld ?_;as_aux_lemma =>
        refine oN 30 (some 411) HT_.out fun K hK=>?_
        refine gC Tryz.func16 #[.slice (some ad332) t314.length co146,.int .i64 t292] ?_
        with_reducible refine (dc.calls kj124 _ _ t314 t292 t345 _ ?side1 ?side2 A173.out).mono ?_
        (case side1=>exact qc (Kd.aj HO_41.out).2.2)
        (case side2=>exact (Kd.aj HO_41.out).2.1)
        rintro e w' ⟨rfl,⟨nd,rfl⟩⟩
        refine ⟨_,rfl,?_⟩;refine hK.out _ _ ⟨(ai BK297.out 0).trans rfl,(ai BK297.out 1).trans rfl,hHeld.2.2.1,hHeld.2.2.2.1,hHeld.2.2.2.2.1,hHeld.2.2.2.2.2⟩ (fun hHeld=>?_);clear hK K;refine nM 411 ?_;refine pT 31 412 HT_.out ?_;refine pT 32 413 HT_.out ?_;refine d9 (dp HT_.out kR) ?_
        try go_wp2
        go_ret
        exact ⟨eE,by exact bw⟩
       ·replace c160:=Bool.eq_false_iff.mpr c160;subst c160;rw [if_neg (show ¬ (false = true) by decide)] at H;obtain rfl:=Option.some.inj H;go_wp2
        go_ret
        exact ⟨eE,by exact bw⟩
    ·replace c119:=Bool.eq_false_iff.mpr c119;subst c119;rw [if_neg (show ¬ (false = true) by decide)] at H;have HC183:=aM H;clear H;go_wp2_with (first|((with_reducible refine ah (f:=17) rfl ?_);refine gL 244 Tryz.func17 #[.slice A1 l1.length c1] ?_;(with_reducible refine (bQ.calls kj21 _ _ l1 t292 t293 t296 _ ?side1 ?side2 A103.out).mono ?_);(case side1=>exact qcs HR1.out HB.out);(case side2=>exact HC1.out);rintro e w184 ⟨v294,rfl,ho0,hb⟩;refine ⟨_,rfl,?_⟩;have HO295:=aM (Kd.bg (Kd.bj ho0 (Kd.dd (qra HO_365.out))) (au bw));replace HO_365:=aM (Kd.aH (qra HO_365.out) (Kd.bi ho0) hb);replace BK248:=aM (bB BK248.out hb);replace HB:=aM (ae bw hb);(try clear hb);(try clear ho0))|((with_reducible refine aC (N:=31) rfl ?_);refine fx ?_))
     intro q_ hq_;refine hq_ ?_;clear hq_ q_;as_aux_lemma =>
     go_wp2_with (first|((with_reducible refine aC (N:=31) rfl ?_);(try (refine cm (by rfl) ?_;dsimp only));refine bE 31 #[.int .i64 0,.slice none 0 0] 26 ?_;intro gb297 hg w185 hbox hb;replace HO_365:=aM (Kd.aG (qra HO_365.out) hb);replace HO295:=aM (Kd.aG (qra HO295.out) hb);have BK297:=aM (hbox);have GW297:=aM (gS hg);have GE297:=aM (gS hg);replace HB:=aM (ae bw hb);have NB248_297:=aM (nL BK248.out hg);have NB297_248:=aM (nR BK248.out hg);replace BK248:=aM (bB BK248.out hb);clear hb hbox hg;have hnb186:=NB297_248.out;have hnc186:=NB248_297.out;have hcz187_0:=cz BK297.out 0;have hcz187_1:=cz BK297.out 1;have hfz187_0:=aa BK297.out 0;have hfz187_1:=aa BK297.out 1;obtain ⟨Ao188,co188,eo188⟩:=Kd.aX HO295.out;subst eo188)|((with_reducible refine ah (f:=18) rfl ?_);refine fx ?_))
     intro q_ hq_;refine hq_ ?_;clear hq_ q_;as_aux_lemma =>
     go_wp2_with (first|((with_reducible refine ah (f:=18) rfl ?_);refine gL 250 Tryz.func18 #[.agg #[.int .i64 t292,.slice Ao188 t293.length co188],.int .i64 t296] ?_;(with_reducible refine (dA.calls kj21 t292 _ _ t293 t296 t298 false _ ?side1 ?side2 A104.out).mono ?_);(case side1=>refine (Kd.aj (e:=3) (base:=w.heap.size) (ok:=fun k_=>(True ∧ some k_ ≠ (.slice Ao26 t243.length co26:Value).ownBlock)) (n:=t293.length) (c:=co188) ?_).2.2;exact (tR HO295.out BK297.out));(case side2=>exact (Kd.aj HO295.out).2.1);rintro e w189 ⟨v299,rfl,ho0,hb⟩;refine ⟨_,rfl,?_⟩;have HO300:=aM (Kd.bg (Kd.bj (Kd.bj ho0 (Kd.dd (tR HO_365.out BK297.out))) (Kd.dd (tR HO295.out BK297.out))) (au bw));replace HO_365:=aM (Kd.aH (tR HO_365.out BK297.out) (Kd.bi ho0) hb);replace HO295:=aM (Kd.aH (tR HO295.out BK297.out) (Kd.bi ho0) hb);replace BK248:=aM (bG BK248.out NB248_297.out hb);replace BK297:=aM (bP BK297.out hb);replace HB:=aM (ae bw hb);(try clear hb);(try clear hk);(try clear ho0);have hcz190_0:=cz BK297.out 0;have hcz190_1:=cz BK297.out 1;have hfz190_0:=aa BK297.out 0;have hfz190_1:=aa BK297.out 1)|((with_reducible refine ah (f:=19) rfl ?_);refine fx ?_))
     intro q_ hq_;refine hq_ ?_;clear hq_ q_;as_aux_lemma =>
     go_wp2_with (first|((with_reducible refine ah (f:=19) rfl ?_);refine gL 256 Tryz.func19 #[.agg #[.int .i64 t292,.slice Ao188 t293.length co188],.int .i64 t296] ?_;(with_reducible refine (az.calls kj21 t292 _ _ t293 t296 t302 t305 _ ?side1 ?side2 A105.out).mono ?_);(case side1=>exact qc (Kd.aj HO295.out).2.2);(case side2=>exact (Kd.aj HO295.out).2.1);rintro e w191 ⟨v303,rfl,ho0,hb⟩;refine ⟨_,rfl,?_⟩;have HO304:=aM (Kd.bg (Kd.bj (Kd.bj (Kd.bj ho0 (Kd.dd (qra HO_365.out))) (Kd.dd (qra HO295.out))) (Kd.dd (qra HO300.out))) (au bw));replace HO_365:=aM (Kd.aH (qra HO_365.out) (Kd.bi ho0) hb);replace HO295:=aM (Kd.aH (qra HO295.out) (Kd.bi ho0) hb);replace HO300:=aM (Kd.aH (qra HO300.out) (Kd.bi ho0) hb);replace BK248:=aM (bB BK248.out hb);replace BK297:=aM (bB BK297.out hb);replace HB:=aM (ae bw hb);(try clear hb);(try clear ho0);have hcz192_0:=cz BK297.out 0;have hcz192_1:=cz BK297.out 1;have hfz192_0:=aa BK297.out 0;have hfz192_1:=aa BK297.out 1)|((with_reducible refine ah (f:=20) rfl ?_);refine fx ?_))
     intro q_ hq_;refine hq_ ?_;clear hq_ q_;as_aux_lemma =>
     go_wp2_with (first|((with_reducible refine ah (f:=20) rfl ?_);refine gL 262 Tryz.func20 #[.agg #[.int .i64 t292,.slice Ao188 t293.length co188],.int .i64 t296] ?_;(with_reducible refine (aT.calls kj21 t292 _ _ t293 t296 t306 t309 _ ?side1 ?side2 A106.out).mono ?_);(case side1=>exact qc (Kd.aj HO295.out).2.2);(case side2=>exact (Kd.aj HO295.out).2.1);rintro e w193 ⟨v307,rfl,ho0,hb⟩;refine ⟨_,rfl,?_⟩;have HO308:=aM (Kd.bg (Kd.bj (Kd.bj (Kd.bj (Kd.bj ho0 (Kd.dd (qra HO_365.out))) (Kd.dd (qra HO295.out))) (Kd.dd (qra HO300.out))) (Kd.dd (qra HO304.out))) (au bw));replace HO_365:=aM (Kd.aH (qra HO_365.out) (Kd.bi ho0) hb);replace HO295:=aM (Kd.aH (qra HO295.out) (Kd.bi ho0) hb);replace HO300:=aM (Kd.aH (qra HO300.out) (Kd.bi ho0) hb);replace HO304:=aM (Kd.aH (qra HO304.out) (Kd.bi ho0) hb);replace BK248:=aM (bB BK248.out hb);replace BK297:=aM (bB BK297.out hb);replace HB:=aM (ae bw hb);(try clear hb);(try clear ho0);have hcz194_0:=cz BK297.out 0;have hcz194_1:=cz BK297.out 1;have hfz194_0:=aa BK297.out 0;have hfz194_1:=aa BK297.out 1)|((with_reducible refine ah (f:=21) rfl ?_);refine fx ?_))
     intro q_ hq_;refine hq_ ?_;clear hq_ q_;as_aux_lemma =>
     go_wp2_with (first|((with_reducible refine ah (f:=21) rfl ?_);refine gL 268 Tryz.func21 #[.agg #[.int .i64 t292,.slice Ao188 t293.length co188],.int .i64 t296] ?_;(with_reducible refine (a6.calls kj21 t292 _ _ t293 t296 t310 t313 _ ?side1 ?side2 A107.out).mono ?_);(case side1=>exact qc (Kd.aj HO295.out).2.2);(case side2=>exact (Kd.aj HO295.out).2.1);rintro e w195 ⟨v311,rfl,ho0,hb⟩;refine ⟨_,rfl,?_⟩;have HO312:=aM (Kd.bg (Kd.bj (Kd.bj (Kd.bj (Kd.bj (Kd.bj ho0 (Kd.dd (qra HO_365.out))) (Kd.dd (qra HO295.out))) (Kd.dd (qra HO300.out))) (Kd.dd (qra HO304.out))) (Kd.dd (qra HO308.out))) (au bw));replace HO_365:=aM (Kd.aH (qra HO_365.out) (Kd.bi ho0) hb);replace HO295:=aM (Kd.aH (qra HO295.out) (Kd.bi ho0) hb);replace HO300:=aM (Kd.aH (qra HO300.out) (Kd.bi ho0) hb);replace HO304:=aM (Kd.aH (qra HO304.out) (Kd.bi ho0) hb);replace HO308:=aM (Kd.aH (qra HO308.out) (Kd.bi ho0) hb);replace BK248:=aM (bB BK248.out hb);replace BK297:=aM (bB BK297.out hb);replace HB:=aM (ae bw hb);(try clear hb);(try clear ho0);have hcz196_0:=cz BK297.out 0;have hcz196_1:=cz BK297.out 1;have hfz196_0:=aa BK297.out 0;have hfz196_1:=aa BK297.out 1)|((with_reducible refine ah (f:=22) rfl ?_);refine fx ?_))
     intro q_ hq_;refine hq_ ?_;clear hq_ q_;as_aux_lemma =>
     go_wp2_with (first|((with_reducible refine ah (f:=22) rfl ?_);refine gL 274 Tryz.func22 #[.agg #[.int .i64 t292,.slice Ao188 t293.length co188],.int .i64 t296] ?_;(with_reducible refine (bl.calls kj21 t292 _ _ t293 t296 t314 t317 _ ?side1 ?side2 A108.out).mono ?_);(case side1=>exact qc (Kd.aj HO295.out).2.2);(case side2=>exact (Kd.aj HO295.out).2.1);rintro e w197 ⟨v315,rfl,ho0,hb⟩;refine ⟨_,rfl,?_⟩;have HO316:=aM (Kd.bg (Kd.bj (Kd.bj (Kd.bj (Kd.bj (Kd.bj (Kd.bj ho0 (Kd.dd (qra HO_365.out))) (Kd.dd (qra HO295.out))) (Kd.dd (qra HO300.out))) (Kd.dd (qra HO304.out))) (Kd.dd (qra HO308.out))) (Kd.dd (qra HO312.out))) (au bw));replace HO_365:=aM (Kd.aH (qra HO_365.out) (Kd.bi ho0) hb);replace HO295:=aM (Kd.aH (qra HO295.out) (Kd.bi ho0) hb);replace HO300:=aM (Kd.aH (qra HO300.out) (Kd.bi ho0) hb);replace HO304:=aM (Kd.aH (qra HO304.out) (Kd.bi ho0) hb);replace HO308:=aM (Kd.aH (qra HO308.out) (Kd.bi ho0) hb);replace HO312:=aM (Kd.aH (qra HO312.out) (Kd.bi ho0) hb);replace BK248:=aM (bB BK248.out hb);replace BK297:=aM (bB BK297.out hb);replace HB:=aM (ae bw hb);(try clear hb);(try clear ho0);have hcz198_0:=cz BK297.out 0;have hcz198_1:=cz BK297.out 1;have hfz198_0:=aa BK297.out 0;have hfz198_1:=aa BK297.out 1)|((with_reducible refine ah (f:=23) rfl ?_);refine fx ?_))
     intro q_ hq_;refine hq_ ?_;clear hq_ q_;as_aux_lemma =>
     go_wp2_with (first|((with_reducible refine ah (f:=23) rfl ?_);refine gL 280 Tryz.func23 #[.agg #[.int .i64 t292,.slice Ao188 t293.length co188],.int .i64 t296] ?_;(with_reducible refine (bc.calls kj21 t292 _ _ t293 t296 t318 t321 _ ?side1 ?side2 A109.out).mono ?_);(case side1=>exact qc (Kd.aj HO295.out).2.2);(case side2=>exact (Kd.aj HO295.out).2.1);rintro e w199 ⟨v319,rfl,ho0,hb⟩;refine ⟨_,rfl,?_⟩;have HO320:=aM (Kd.bg (Kd.bj (Kd.bj (Kd.bj (Kd.bj (Kd.bj (Kd.bj (Kd.bj ho0 (Kd.dd (qra HO_365.out))) (Kd.dd (qra HO295.out))) (Kd.dd (qra HO300.out))) (Kd.dd (qra HO304.out))) (Kd.dd (qra HO308.out))) (Kd.dd (qra HO312.out))) (Kd.dd (qra HO316.out))) (au bw));replace HO_365:=aM (Kd.aH (qra HO_365.out) (Kd.bi ho0) hb);replace HO295:=aM (Kd.aH (qra HO295.out) (Kd.bi ho0) hb);replace HO300:=aM (Kd.aH (qra HO300.out) (Kd.bi ho0) hb);replace HO304:=aM (Kd.aH (qra HO304.out) (Kd.bi ho0) hb);replace HO308:=aM (Kd.aH (qra HO308.out) (Kd.bi ho0) hb);replace HO312:=aM (Kd.aH (qra HO312.out) (Kd.bi ho0) hb);replace HO316:=aM (Kd.aH (qra HO316.out) (Kd.bi ho0) hb);replace BK248:=aM (bB BK248.out hb);replace BK297:=aM (bB BK297.out hb);replace HB:=aM (ae bw hb);(try clear hb);(try clear ho0);obtain ⟨Ao200,co200,eo200⟩:=Kd.aX HO300.out;subst eo200;obtain ⟨Ao201,co201,eo201⟩:=Kd.aX HO304.out;subst eo201)|(go_at_call 12;refine fx ?_))
     intro q_ hq_;refine hq_ ?_;clear hq_ q_;as_aux_lemma =>
     go_wp2_with (first|(go_at_call 12;(with_reducible refine (cd.calls kj21 _ _ t298 _ _ t302 true _ ?side1 ?side2 ?side3 ?side4 A111.out).mono ?_);(case side1=>exact qc (Kd.aj HO300.out).2.2);(case side2=>exact (Kd.aj HO300.out).2.1);(case side3=>exact qc (Kd.aj HO304.out).2.2);(case side4=>exact (Kd.aj HO304.out).2.1);rintro e w' ⟨rfl,⟨nd,rfl⟩⟩;obtain ⟨Ao202,co202,eo202⟩:=Kd.aX HO308.out;subst eo202;obtain ⟨Ao203,co203,eo203⟩:=Kd.aX HO312.out;subst eo203)|(go_at_call 12;refine fx ?_))
     intro q_ hq_;refine hq_ ?_;clear hq_ q_;as_aux_lemma =>
     go_upto_if 330 with (first|(go_at_call 12;(with_reducible refine (cd.calls kj21 _ _ t306 _ _ t310 true _ ?side1 ?side2 ?side3 ?side4 A114.out).mono ?_);(case side1=>exact qc (Kd.aj HO308.out).2.2);(case side2=>exact (Kd.aj HO308.out).2.1);(case side3=>exact qc (Kd.aj HO312.out).2.2);(case side4=>exact (Kd.aj HO312.out).2.1);rintro e w' ⟨rfl,⟨nd,rfl⟩⟩;obtain ⟨Ao204,co204,eo204⟩:=Kd.aX HO316.out;subst eo204;obtain ⟨Ao205,co205,eo205⟩:=Kd.aX HO320.out;subst eo205)|(go_at_call 12;(with_reducible refine (cd.calls kj21 _ _ t314 _ _ t318 true _ ?side1 ?side2 ?side3 ?side4 A117.out).mono ?_);(case side1=>exact qc (Kd.aj HO316.out).2.2);(case side2=>exact (Kd.aj HO316.out).2.1);(case side3=>exact qc (Kd.aj HO320.out).2.2);(case side4=>exact (Kd.aj HO320.out).2.1);rintro e w' ⟨rfl,⟨nd,rfl⟩⟩))
     (try simp only [Act.put,sA,sZ,sS])
     refine cutP [0,0,0,0,1,0,0,0,0,0,0,0,0,0,0,0,0,0,0,0,0,0,0,0,0,0,0,0,0,0,0,0,0,0,0,0,0,0,0,0,0,0,0,0,0,0,0,0,0,0,0,0,0,0,0,0,0,0,0,0,0,0,0,0,0,0,0,0,0,0,0,0,0,0,0,0,0,0,0,0,0,0,0,0,0,0,0,0,0,0,0,0,0,0,0,0,0,0,0,0,0,0,0,0,0,0,0,0,0,0,0,0,0,0,0,0,0,0,0,0,0,0,0,0,0,0,0,0,0,0,0,0,0,0,0,0,0,0,0,0,0,0,0,0,0,0,0,0,0,0,0,0,0,0,0,0,0,0,0,0,0,0,0,0,0,0,0,0,0,0,0,0,0,0,0,0,0,0,0,0,0,0,0,0,0,0,0,0,0,0,0,0,0,0,0,0,0,0,0,0,0,0,0,0,0,0,0,0,0,0,0,0,0,0,0,0,0,0,0,0,0,0,0,0,0,0,0,0,0,0,0,0,0,0,0,0,0,0,0,0,0,0,0,0,0,0,0,0,0,0,0,0,0,0,0,0,0,0,0,0,0,0,0,0,0,0,0,0,0,0,0,0,0,0,0,0,0,0,0,0,0,0,0,0,0,0,0,0,0,0,0,0,0,0,0,0,0,0,0,0,0,0,0,0,0,0,0,0,0,0,0,0,0,0,0,0,0,0,0,0,0,0,0,0,0,0,0,0,0,0,0,1,1,1,1,1,1,1,1,1,1,1,1,1,1,1,1,1,1,1,1,1,1,1,1,1,1] (fun f_ wc=>∃ (kq:Nat),ak (ag.j4 kq t296 t314 t317 t292 t293 = some r) ∧ ak (kq ≤ kj21) ∧ ak (Kd.R (Kd.int .i64) 3 wc w.heap.size (fun k_=>some k_ ≠ ((.slice Ao26 t243.length co26):Value).ownBlock ∧ some k_ ≠ ((.slice Ao188 t293.length co188):Value).ownBlock) (.slice Ao204 t314.length co204) t314) ∧ ak (Kd.R (Kd.int .i64) 3 wc w.heap.size (fun k_=>some k_ ≠ ((.slice Ao204 t314.length co204):Value).ownBlock ∧ some k_ ≠ ((.slice Ao188 t293.length co188):Value).ownBlock) (.slice Ao26 t243.length co26) t243) ∧ ak (Kd.R (Kd.int .i64) 3 wc w.heap.size (fun k_=>some k_ ≠ ((.slice Ao204 t314.length co204):Value).ownBlock ∧ some k_ ≠ ((.slice Ao26 t243.length co26):Value).ownBlock) (.slice Ao188 t293.length co188) t293) ∧ ak (wc.heap[gb248]? = some (.cells #[.int .i64 t242,(.slice Ao26 t243.length co26)] 26 (0,0))) ∧ ak (wc.heap[gb297]? = some (.cells #[.int .i64 t292,(.slice Ao188 t293.length co188)] 26 (0,0))) ∧ ak (Below w.heap.size w wc)) ?rest ?first
     case first =>
      intro _ _ hJ_ _;have H:=HC183.out;clear HC183;as_aux_lemma =>
      by_cases c206:t309 = true
      ·subst c206;rw [if_pos rfl] at H;as_aux_lemma =>
       replace H:=dM H hr_.out;obtain ⟨c207,H⟩:=H;have c207b0:decide ((t306.length:Int) < 1) = false:=decide_eq_false c207;have c207b1:decide (t306.length < 1) = false:=decide_eq_false (by omega);clear c207;(first|rw [c207b0]|(simp only [dl,dG];rw [c207b0])|skip)
       as_aux_lemma =>
       replace H:=oB H;obtain ⟨t346,A208,H⟩:=H;(try dsimp only at H)
       replace H:=dN H hr_.out;obtain ⟨c209,H⟩:=H;subst c209;obtain ⟨ji210,hji210⟩:∃ j_:Int,(wrap64 ((t306.length:Int) - 1)) = j_:=⟨_,rfl⟩;(first|rw [hji210] at H|simp only [hji210] at H)
       (try rw [hji210] at A208)
       have hji210w:(IntKind.i64.wrap ((t306.length:Int) - 1)) = ji210:=(dl _).trans hji210;as_aux_lemma =>
       replace H:=iN H;obtain ⟨c211,H⟩:=H;have c211b0:decide (0 ≤ (ji210)) = true:=decide_eq_true c211;clear c211;replace H:=iN H;obtain ⟨c212,H⟩:=H;have c212b0:decide ((ji210) < (t306.length:Int)) = true:=decide_eq_true c212;clear c212;as_aux_lemma =>
       replace H:=iN H;obtain ⟨c213,H⟩:=H;have c213b0:decide (0 ≤ t296) = true:=decide_eq_true c213;clear c213;replace H:=iN H;obtain ⟨c214,H⟩:=H;have c214b0:decide (t296 < (t293.length:Int)) = true:=decide_eq_true c214;clear c214;as_aux_lemma =>
       replace H:=iN H;obtain ⟨c215,H⟩:=H;have c215b0:decide (0 < (t306.length:Int)) = true:=decide_eq_true c215;have c215b1:decide (0 < t306.length) = true:=decide_eq_true (by omega);clear c215;as_aux_lemma =>
       replace H:=dN H hr_.out;obtain ⟨c216,H⟩:=H;have c216b0:((rd t306 (ji210)) == (wrap64 ((rd t293 t296) - (rd t306 0)))) = true:=beq_iff_eq.mpr c216;have c216b1:((rd t306 (ji210)) != (wrap64 ((rd t293 t296) - (rd t306 0)))) = false:=bne_eq_false_iff_eq.mpr c216;clear c216;have H':=aM H;clear H
       try go_wp2
       (try (rw [eb w199];generalize hq_:World.drewN w199 _ = w199;replace HO_365:=aM (hqR hq_ HO_365.out);replace HO295:=aM (hqR hq_ HO295.out);replace HO300:=aM (hqR hq_ HO300.out);replace HO304:=aM (hqR hq_ HO304.out);replace HO308:=aM (hqR hq_ HO308.out);replace HO312:=aM (hqR hq_ HO312.out);replace HO316:=aM (hqR hq_ HO316.out);replace HO320:=aM (hqR hq_ HO320.out);replace BK248:=aM (hqB hq_ BK248.out);replace BK297:=aM (hqB hq_ BK297.out);replace HB:=aM (hqH hq_ HB.out);clear hq_))
       as_aux_lemma =>
       replace HO_365:=aM (Kd.aE HO_365.out);replace HO295:=aM (Kd.aE HO295.out);replace HO300:=aM (Kd.aE HO300.out);replace HO304:=aM (Kd.aE HO304.out);replace HO308:=aM (Kd.aE HO308.out);replace HO312:=aM (Kd.aE HO312.out);replace HO316:=aM (Kd.aE HO316.out);replace HO320:=aM (Kd.aE HO320.out);replace BK248:=aM (al BK248.out);replace BK297:=aM (al BK297.out);replace HB:=aM (av HB.out);have p347:0 ≤ ((ji210):Int):=of_decide_eq_true ab;have q347:(ji210) < (t306.length:Int):=of_decide_eq_true ab;obtain ⟨ad347,e347,hx347_0⟩:=Kd.bK (Kd.aj HO308.out).2.2 (ji210) p347 q347;cases e347
       replace p347:=eq_true p347;replace q347:=eq_true q347;have p348:0 ≤ (t296:Int):=of_decide_eq_true ab;have q348:t296 < (t293.length:Int):=of_decide_eq_true ab;obtain ⟨ad348,e348,hx348_0⟩:=Kd.bK (Kd.aj HO295.out).2.2 t296 p348 q348;cases e348
       replace p348:=eq_true p348;replace q348:=eq_true q348;have p349:0 ≤ (0:Int):=(by omega);have q349:0 < (t306.length:Int):=of_decide_eq_true ab;obtain ⟨ad349,e349,hx349_0⟩:=Kd.bK (Kd.aj HO308.out).2.2 0 p349 q349;obtain rfl:ad347 = ad349:=(by injection e349);have qi878:(0 < t306.length) = True:=eq_true (by omega);(try rw [show ((0:Int)).toNat = 0 from rfl] at hx349_0)
       (try rw [Addr.add_zero'] at hx349_0)
       replace p349:=eq_true p349;replace q349:=eq_true q349;refine dx (n:=26) (S:=fun w'=>w'.cell? ⟨gb297,0,none⟩ = some (.int .i64 t292) ∧ w'.cell? ⟨gb297,1,none⟩ = some (.slice (some ad348) t293.length co188) ∧ w'.cell? (ad347.add ((ji210)).toNat) = some (.int .i64 (rd t306 (ji210))) ∧ w'.cell? (ad348.add (t296).toNat) = some (.int .i64 (rd t293 t296)) ∧ w'.cell? ad347 = some (.int .i64 (rd t306 0))) (ds:=[]) (mA 26 0) kR rfl rfl ⟨(ai BK297.out 0).trans rfl,(ai BK297.out 1).trans rfl,hx347_0,hx348_0,hx349_0⟩ (fun hHeld=>?_);refine cu ag.tab48 ag.bits48 (fun HT_ HW_=>?_)
       generalize w199.drew = w217 at HO_365 HO295 HO300 HO304 HO308 HO312 HO316 HO320 BK248 BK297 HB hx347_0 hx348_0 hx349_0 hHeld ⊢
       refine pT 0 331 HT_.out ?_;refine pT 1 332 HT_.out ?_;refine pT 2 333 HT_.out ?_;refine pT 3 334 HT_.out ?_;refine pT 4 335 HT_.out ?_;as_aux_lemma =>
       refine oN 5 (some 336) HT_.out fun K hK=>?_
       refine gC Tryz.func24 #[.slice (some ad347) t306.length co202] ?_
       with_reducible refine (cg.calls kj21 _ _ t306 true _ ?side1 ?side2 A208.out).mono ?_
       (case side1=>exact qc (Kd.aj HO308.out).2.2)
       (case side2=>exact (Kd.aj HO308.out).2.1)
       rintro e w' ⟨rfl,⟨nd,rfl⟩⟩
       refine ⟨_,rfl,?_⟩;refine hK.out _ _ ⟨(ai BK297.out 0).trans rfl,(ai BK297.out 1).trans rfl,hHeld.2.2.1,hHeld.2.2.2.1,hHeld.2.2.2.2⟩ (fun hHeld=>?_);clear hK K;refine nM 336 ?_;refine pT 6 337 HT_.out ?_;refine pT 7 338 HT_.out ?_;refine pT 8 339 HT_.out ?_;refine pT 9 340 HT_.out ?_;refine pT 10 341 HT_.out ?_;refine pT 11 342 HT_.out ?_;refine pT 12 343 HT_.out ?_;refine pT 13 344 HT_.out ?_;refine pT 15 346 HT_.out ?_;refine pT 17 348 HT_.out ?_;refine pT 20 351 HT_.out ?_;refine pT 21 352 HT_.out ?_;refine pK 14 345 HT_.out HW_.out hHeld ?_;refine pK 16 347 HT_.out HW_.out hHeld ?_;refine pT 18 349 HT_.out ?_;refine pK 19 350 HT_.out HW_.out hHeld ?_;refine pK 22 353 HT_.out HW_.out hHeld ?_;refine pT 23 354 HT_.out ?_;refine pT 24 355 HT_.out ?_;refine pT 25 356 HT_.out ?_;refine d9 (dp HT_.out kR) ?_
       try go_wp2
       refine Met.intro ?_;refine lL hJ_ ?rel
       case rel=>exact ⟨_,H',⟨by have:=HJ21.out;first|omega|exact Nat.le_refl _⟩,⟨by (with_reducible repeat (first|apply Kd.aN|apply Kd.aK|apply Kd.aE));exact Kd.bf HO316.out (fun _ hk=>cj hk)⟩,⟨by (with_reducible repeat (first|apply Kd.aN|apply Kd.aK|apply Kd.aE));exact Kd.bf HO_365.out (fun _ hk=>cj hk)⟩,⟨by (with_reducible repeat (first|apply Kd.aN|apply Kd.aK|apply Kd.aE));exact Kd.bf HO295.out (fun _ hk=>cj hk)⟩,⟨bk1 BK248.out⟩,⟨bk1 BK297.out⟩,⟨by exact bw⟩⟩
      ·replace c206:=Bool.eq_false_iff.mpr c206;subst c206;rw [if_neg (show ¬ (false = true) by decide)] at H;have H':=aM H;clear H;go_wp2
       refine Met.intro ?_;refine lL hJ_ ?rel
       case rel=>exact ⟨_,H',⟨by have:=HJ21.out;first|omega|exact Nat.le_refl _⟩,⟨by (with_reducible repeat (first|apply Kd.aN|apply Kd.aK|apply Kd.aE));exact Kd.bf HO316.out (fun _ hk=>cj hk)⟩,⟨by (with_reducible repeat (first|apply Kd.aN|apply Kd.aK|apply Kd.aE));exact Kd.bf HO_365.out (fun _ hk=>cj hk)⟩,⟨by (with_reducible repeat (first|apply Kd.aN|apply Kd.aK|apply Kd.aE));exact Kd.bf HO295.out (fun _ hk=>cj hk)⟩,⟨bk1 BK248.out⟩,⟨bk1 BK297.out⟩,⟨by exact bw⟩⟩
     case rest =>
      intro f_ wc hcut;simp only [patch,Nat.reduceAdd];clear HC183;(try clear c1);(try clear c119);(try clear c160);(try clear c206);(try clear c207);(try clear c207b0);(try clear c207b1);(try clear c209);(try clear c211);(try clear c211b0);(try clear c212);(try clear c212b0);(try clear c213);(try clear c213b0);(try clear c214);(try clear c214b0);(try clear c215);(try clear c215b0);(try clear c215b1);(try clear c216);(try clear c216b0);(try clear c216b1);(try clear hcz187_0);(try clear hcz187_1);(try clear hcz190_0);(try clear hcz190_1);(try clear hcz192_0);(try clear hcz192_1);(try clear hcz194_0);(try clear hcz194_1);(try clear hcz196_0);(try clear hcz196_1);(try clear hcz198_0);(try clear hcz198_1);(try clear hfz187_0);(try clear hfz187_1);(try clear hfz190_0);(try clear hfz190_1);(try clear hfz192_0);(try clear hfz192_1);(try clear hfz194_0);(try clear hfz194_1);(try clear hfz196_0);(try clear hfz196_1);(try clear hfz198_0);(try clear hfz198_1);(try clear hx347_0);(try clear hx348_0);(try clear hx349_0);(try clear p347);(try clear p348);(try clear p349);(try clear q347);(try clear q348);(try clear q349)
      obtain ⟨kq,HA,HJ182,HO_41,HO_365,HO_366,BK248,BK297,HB⟩:=hcut
      cases kq with
      | zero=>exact absurd HA.out (by simp [ag.j4])
      | succ kj182 =>
       have H:=HA.out;clear HA;simp only [ag.j4] at H;as_aux_lemma =>
       by_cases c218:t317 = true
       ·subst c218;rw [if_pos rfl] at H;as_aux_lemma =>
        replace H:=dM H hr_.out;obtain ⟨c219,H⟩:=H;have c219b0:decide ((t314.length:Int) < 1) = false:=decide_eq_false c219;have c219b1:decide (t314.length < 1) = false:=decide_eq_false (by omega);clear c219;as_aux_lemma =>
        replace H:=oB H;obtain ⟨t350,A220,H⟩:=H;(try dsimp only at H)
        replace H:=dN H hr_.out;obtain ⟨c221,H⟩:=H;subst c221;as_aux_lemma =>
        replace H:=iN H;obtain ⟨c222,H⟩:=H;have c222b0:decide (0 < (t314.length:Int)) = true:=decide_eq_true c222;have c222b1:decide (0 < t314.length) = true:=decide_eq_true (by omega);clear c222;as_aux_lemma =>
        replace H:=oB H;obtain ⟨⟨t352,t355⟩,A223,H⟩:=H;(try dsimp only at H)
        replace H:=oB H;obtain ⟨⟨t356,t359⟩,A224,H⟩:=H;(try dsimp only at H)
        as_aux_lemma =>
        replace H:=dN H hr_.out;obtain ⟨c225,H⟩:=H;subst c225;replace H:=dN H hr_.out;obtain ⟨c226,H⟩:=H;subst c226;as_aux_lemma =>
        replace H:=iN H;obtain ⟨c227,H⟩:=H;have c227b0:decide (0 ≤ t296) = true:=decide_eq_true c227;clear c227;replace H:=iN H;obtain ⟨c228,H⟩:=H;have c228b0:decide (t296 < (t356.length:Int)) = true:=decide_eq_true c228;clear c228;as_aux_lemma =>
        replace H:=iN H;obtain ⟨c229,H⟩:=H;have c229b0:decide (t296 < (t352.length:Int)) = true:=decide_eq_true c229;clear c229;replace H:=dM H hr_.out;obtain ⟨c230,H⟩:=H;have c230b0:decide ((rd t352 t296) < (rd t356 t296)) = false:=decide_eq_false c230;(try (have c9k_:=c92b0;simp [gt_iff_lt,c230b0] at c9k_))
        clear c230;as_aux_lemma =>
        replace H:=oB H;obtain ⟨t364,A231,H⟩:=H;(try dsimp only at H)
        replace H:=dM H hr_.out;obtain ⟨c232,H⟩:=H;have c232b0:(((rd t356 t296) == (rd t352 t296)) != t364) = false:=by simpa using c232
        (try (have c232b1:decide (((rd t356 t296) == (rd t352 t296)) = t364) = true:=by simpa using c232))
        (try (have c232b2:(((rd t356 t296) == (rd t352 t296)) == t364) = true:=by simpa using c232))
        clear c232;obtain rfl:=Option.some.inj H;as_aux_lemma =>
        try go_wp2_with (first|(go_at_call 24;(with_reducible refine (cg.calls kj182 _ _ t314 true _ ?side1 ?side2 A220.out).mono ?_);(case side1=>exact qc (Kd.aj HO_41.out).2.2);(case side2=>exact (Kd.aj HO_41.out).2.1);rintro e w' ⟨rfl,⟨nd,rfl⟩⟩))
        (try (rw [eb wc];generalize hq_:World.drewN wc _ = wc;have n0_:ak (Kd.R (Kd.int .i64) 3 wc w.heap.size (fun k_=>some k_ ≠ (.slice Ao26 t243.length co26:Value).ownBlock ∧ some k_ ≠ (.slice Ao188 t293.length co188:Value).ownBlock) (.slice Ao204 t314.length co204) t314):=⟨by rw [← hq_];exact (qra HO_41.out)⟩;have n1_:ak (Kd.R (Kd.int .i64) 3 wc w.heap.size (fun k_=>some k_ ≠ (.slice Ao204 t314.length co204:Value).ownBlock ∧ some k_ ≠ (.slice Ao188 t293.length co188:Value).ownBlock) (.slice Ao26 t243.length co26) t243):=⟨by rw [← hq_];exact (qra HO_365.out)⟩;have n2_:ak (Kd.R (Kd.int .i64) 3 wc w.heap.size (fun k_=>some k_ ≠ (.slice Ao204 t314.length co204:Value).ownBlock ∧ some k_ ≠ (.slice Ao26 t243.length co26:Value).ownBlock) (.slice Ao188 t293.length co188) t293):=⟨by rw [← hq_];exact (qra HO_366.out)⟩;have n3_:ak (wc.heap[gb248]? = some (.cells #[.int .i64 t242,.slice Ao26 t243.length co26] 26 (0,0))):=⟨by rw [← hq_];exact (bk1 BK248.out)⟩;have n4_:ak (wc.heap[gb297]? = some (.cells #[.int .i64 t292,.slice Ao188 t293.length co188] 26 (0,0))):=⟨by rw [← hq_];exact (bk1 BK297.out)⟩;have n5_:ak (Below w.heap.size w wc):=⟨by rw [← hq_];exact bw⟩;clear HO_41 HO_365 HO_366 BK248 BK297 HB hq_;have HO_41:=n0_;have HO_365:=n1_;have HO_366:=n2_;have BK248:=n3_;have BK297:=n4_;have HB:=n5_;clear n0_ n1_ n2_ n3_ n4_ n5_))
        replace HO_41:=aM (Kd.aE HO_41.out);replace HO_365:=aM (Kd.aE HO_365.out);replace HO_366:=aM (Kd.aE HO_366.out);replace BK248:=aM (al BK248.out);replace BK297:=aM (al BK297.out);replace HB:=aM (av HB.out);have p351:0 ≤ (0:Int):=(by omega);have q351:0 < (t314.length:Int):=of_decide_eq_true ab;obtain ⟨ad351,e351,hx351_0⟩:=Kd.bK (Kd.aj HO_41.out).2.2 0 p351 q351;cases e351
        have qi880:(0 < t314.length) = True:=eq_true (by omega);(try rw [show ((0:Int)).toNat = 0 from rfl] at hx351_0)
        (try rw [Addr.add_zero'] at hx351_0)
        replace p351:=eq_true p351;replace q351:=eq_true q351;refine dx (n:=12) (S:=fun w'=>w'.cell? ⟨gb297,0,none⟩ = some (.int .i64 t292) ∧ w'.cell? ⟨gb297,1,none⟩ = some (.slice Ao188 t293.length co188) ∧ w'.cell? ad351 = some (.int .i64 (rd t314 0))) (ds:=[]) (mA 12 0) kR rfl rfl ⟨(ai BK297.out 0).trans rfl,(ai BK297.out 1).trans rfl,hx351_0⟩ (fun hHeld=>?_);refine cu ag.tab53 ag.bits53 (fun HT_ HW_=>?_)
        generalize wc.drew = w233 at HO_41 HO_365 HO_366 BK248 BK297 HB hx351_0 hHeld ⊢
        refine pT 0 367 HT_.out ?_;refine pT 1 368 HT_.out ?_;refine pT 3 370 HT_.out ?_;refine pK 2 369 HT_.out HW_.out hHeld ?_;refine pK 4 371 HT_.out HW_.out hHeld ?_;refine pT 5 372 HT_.out ?_;as_aux_lemma =>
        refine oN 6 (some 373) HT_.out fun K hK=>?_
        refine gC Tryz.func25 #[.agg #[.int .i64 (rd t314 0),.slice Ao188 t293.length co188]] ?_
        with_reducible refine (cG.calls kj182 (rd t314 0) _ _ t293 t352 true _ ?side1 ?side2 A223.out).mono ?_
        (case side1=>exact qc (Kd.aj HO_366.out).2.2)
        (case side2=>exact (Kd.aj HO_366.out).2.1)
        rintro e w234 ⟨v353,rfl,ho0,hb⟩
        have HS2_:=(hb.cell (World.block_lt_of_cell? _ _ (hHeld.2.2))).trans (hHeld.2.2);refine ⟨_,rfl,?_⟩;have HO354:=aM (Kd.bg (Kd.bj (Kd.bj (Kd.bj ho0 (Kd.dd (qra HO_41.out))) (Kd.dd (qra HO_365.out))) (Kd.dd (qra HO_366.out))) (au bw));replace HO_41:=aM (Kd.aH (qra HO_41.out) (Kd.bi ho0) hb);replace HO_365:=aM (Kd.aH (qra HO_365.out) (Kd.bi ho0) hb);replace HO_366:=aM (Kd.aH (qra HO_366.out) (Kd.bi ho0) hb);replace BK248:=aM (bB BK248.out hb);replace BK297:=aM (bB BK297.out hb);replace HB:=aM (ae bw hb);(try clear hb)
        (try clear hk)
        (try clear ho0)
        refine hK.out _ _ ⟨(ai BK297.out 0).trans rfl,(ai BK297.out 1).trans rfl,HS2_⟩ (fun hHeld=>?_);clear hK K;refine nM 373 ?_;refine pT 7 366 HT_.out ?_;refine pT 8 374 HT_.out ?_;refine pT 9 375 HT_.out ?_;refine pT 10 45 HT_.out ?_;refine pT 11 46 HT_.out ?_;refine d9 (dp HT_.out kR) ?_;have hnb235:=NB297_248.out;have hnc235:=NB248_297.out;have hcz236_0:=cz BK297.out 0;have hcz236_1:=cz BK297.out 1;have hfz236_0:=aa BK297.out 0;have hfz236_1:=aa BK297.out 1;as_aux_lemma =>
        try go_wp2_with (first|((with_reducible refine ah (f:=25) rfl ?_);refine gL 378 Tryz.func25 #[.agg #[.int .i64 t292,.slice Ao188 t293.length co188]] ?_;(with_reducible refine (cG.calls kj182 t292 _ _ t293 t356 true _ ?side1 ?side2 A224.out).mono ?_);(case side1=>exact qc (Kd.aj HO_366.out).2.2);(case side2=>exact (Kd.aj HO_366.out).2.1);rintro e w237 ⟨v357,rfl,ho0,hb⟩;refine ⟨_,rfl,?_⟩;have HO358:=aM (Kd.bg (Kd.bj (Kd.bj (Kd.bj (Kd.bj ho0 (Kd.dd (qra HO_41.out))) (Kd.dd (qra HO_365.out))) (Kd.dd (qra HO_366.out))) (Kd.dd (qra HO354.out))) (au bw));replace HO_41:=aM (Kd.aH (qra HO_41.out) (Kd.bi ho0) hb);replace HO_365:=aM (Kd.aH (qra HO_365.out) (Kd.bi ho0) hb);replace HO_366:=aM (Kd.aH (qra HO_366.out) (Kd.bi ho0) hb);replace HO354:=aM (Kd.aH (qra HO354.out) (Kd.bi ho0) hb);replace BK248:=aM (bB BK248.out hb);replace BK297:=aM (bB BK297.out hb);replace HB:=aM (ae bw hb);(try clear hb);(try clear ho0)))
        replace HO_41:=aM (Kd.aE HO_41.out);replace HO_365:=aM (Kd.aE HO_365.out);replace HO_366:=aM (Kd.aE HO_366.out);replace HO354:=aM (Kd.aE HO354.out);replace HO358:=aM (Kd.aE HO358.out);replace BK248:=aM (al BK248.out);replace BK297:=aM (al BK297.out);replace HB:=aM (av HB.out);obtain ⟨Ao239,co239,eo239⟩:=Kd.aX HO358.out;(first|subst eo239|(injection eo239 with f1_ f2_ f3_;have f4_:=f1_.symm;have f5_:=f3_.symm;clear f1_ f2_ f3_;subst f4_;subst f5_))
        have p360:0 ≤ (t296:Int):=of_decide_eq_true ab;have q360:t296 < (t356.length:Int):=of_decide_eq_true ab;obtain ⟨ad360,e360,hx360_0⟩:=Kd.bK (Kd.aj HO358.out).2.2 t296 p360 q360;cases e360
        replace p360:=eq_true p360;replace q360:=eq_true q360;obtain ⟨Ao240,co240,eo240⟩:=Kd.aX HO354.out;(first|subst eo240|(injection eo240 with f1_ f2_ f3_;have f4_:=f1_.symm;have f5_:=f3_.symm;clear f1_ f2_ f3_;subst f4_;subst f5_))
        have p361:0 ≤ (t296:Int):=of_decide_eq_true ab;have q361:t296 < (t352.length:Int):=of_decide_eq_true ab;obtain ⟨ad361,e361,hx361_0⟩:=Kd.bK (Kd.aj HO354.out).2.2 t296 p361 q361;cases e361
        replace p361:=eq_true p361;replace q361:=eq_true q361;have p362:0 ≤ (t296:Int):=of_decide_eq_true ab;have q362:t296 < (t356.length:Int):=of_decide_eq_true ab;obtain ⟨ad362,e362,hx362_0⟩:=Kd.bK (Kd.aj HO358.out).2.2 t296 p362 q362;obtain rfl:ad360 = ad362:=(by injection e362);replace p362:=eq_true p362;replace q362:=eq_true q362;have p363:0 ≤ (t296:Int):=of_decide_eq_true ab;have q363:t296 < (t352.length:Int):=of_decide_eq_true ab;obtain ⟨ad363,e363,hx363_0⟩:=Kd.bK (Kd.aj HO354.out).2.2 t296 p363 q363;obtain rfl:ad361 = ad363:=(by injection e363);replace p363:=eq_true p363;replace q363:=eq_true q363;refine dx (n:=33) (S:=fun w'=>w'.cell? ⟨gb297,0,none⟩ = some (.int .i64 t292) ∧ w'.cell? ⟨gb297,1,none⟩ = some (.slice Ao188 t293.length co188) ∧ w'.cell? (ad360.add (t296).toNat) = some (.int .i64 (rd t356 t296)) ∧ w'.cell? (ad361.add (t296).toNat) = some (.int .i64 (rd t352 t296)) ∧ w'.cell? (ad360.add (t296).toNat) = some (.int .i64 (rd t356 t296)) ∧ w'.cell? (ad361.add (t296).toNat) = some (.int .i64 (rd t352 t296))) (ds:=[]) (mA 33 0) kR rfl rfl ⟨(ai BK297.out 0).trans rfl,(ai BK297.out 1).trans rfl,hx360_0,hx361_0,hx362_0,hx363_0⟩ (fun hHeld=>?_);refine cu ag.tab55 ag.bits55 (fun HT_ HW_=>?_)
        generalize w237.drew = w238 at HO_41 HO_365 HO_366 HO354 HO358 BK248 BK297 HB hx360_0 hx361_0 hx362_0 hx363_0 hHeld ⊢
        refine pT 0 381 HT_.out ?_;refine pT 1 382 HT_.out ?_;refine pT 2 383 HT_.out ?_;refine pT 3 384 HT_.out ?_;refine pT 4 385 HT_.out ?_;refine pT 5 386 HT_.out ?_;refine pT 6 387 HT_.out ?_;refine pT 7 388 HT_.out ?_;refine pT 8 389 HT_.out ?_;refine pT 9 390 HT_.out ?_;refine pT 11 392 HT_.out ?_;refine pT 12 393 HT_.out ?_;refine pT 13 394 HT_.out ?_;refine pK 10 391 HT_.out HW_.out hHeld ?_;refine pK 14 395 HT_.out HW_.out hHeld ?_;refine pT 15 396 HT_.out ?_;refine pT 16 397 HT_.out ?_;refine pT 17 398 HT_.out ?_;refine pT 18 399 HT_.out ?_;refine pT 19 400 HT_.out ?_;refine pT 20 401 HT_.out ?_;refine pT 22 403 HT_.out ?_;refine pT 23 404 HT_.out ?_;refine pT 24 405 HT_.out ?_;refine pT 27 408 HT_.out ?_;refine pT 28 409 HT_.out ?_;refine pK 21 402 HT_.out HW_.out hHeld ?_;refine pK 25 406 HT_.out HW_.out hHeld ?_;refine pT 26 407 HT_.out ?_;refine pK 29 410 HT_.out HW_.out hHeld ?_;as_aux_lemma =>
        refine oN 30 (some 411) HT_.out fun K hK=>?_
        refine gC Tryz.func16 #[.slice (some ad351) t314.length co204,.int .i64 t292] ?_
        with_reducible refine (dc.calls kj182 _ _ t314 t292 t364 _ ?side1 ?side2 A231.out).mono ?_
        (case side1=>exact qc (Kd.aj HO_41.out).2.2)
        (case side2=>exact (Kd.aj HO_41.out).2.1)
        rintro e w' ⟨rfl,⟨nd,rfl⟩⟩
        refine ⟨_,rfl,?_⟩;refine hK.out _ _ ⟨(ai BK297.out 0).trans rfl,(ai BK297.out 1).trans rfl,hHeld.2.2.1,hHeld.2.2.2.1,hHeld.2.2.2.2.1,hHeld.2.2.2.2.2⟩ (fun hHeld=>?_);clear hK K;refine nM 411 ?_;refine pT 31 412 HT_.out ?_;refine pT 32 413 HT_.out ?_;refine d9 (dp HT_.out kR) ?_
        try go_wp2
        go_ret
        exact ⟨eE,by exact bw⟩
       ·replace c218:=Bool.eq_false_iff.mpr c218;subst c218;rw [if_neg (show ¬ (false = true) by decide)] at H;obtain rfl:=Option.some.inj H;go_wp2
        go_ret
        exact ⟨eE,by exact bw⟩

end Go.Proofs.YtjeneincnndcoaaGreat.P
