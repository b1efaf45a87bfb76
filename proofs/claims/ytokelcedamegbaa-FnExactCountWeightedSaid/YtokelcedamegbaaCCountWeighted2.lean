/- Part 2 of the texts below the law FnExactCountWeighted. Printed by this session's driver over the kit's printer, but for the hand contracts and the plain laws. -/
import Derived.Test.YtokelcedamegbaaCCountWeighted1
set_option linter.unusedVariables false
set_option linter.unusedSimpArgs false
namespace Go.Proofs.Ytokelcedamegbaa.P
open Go.RowKit Go.Proofs.YtokelcedamegbaaW.PrintWords Go.Proofs.YtokelcedamegbaaW.PrintLast Go.Proofs.YtokelcedamegbaaW.PrintMore
attribute [local go_sem] max2_int min2_int max_two min_two max_three min_three max_four min_four   -- for this text's walks alone
set_option linter.unusedVariables false
set_option linter.unusedSimpArgs false

/-! ### impl_pairs: function 142 -/
def impl_pairs.l0:Nat → List Int → List Int → Int → Int → List (List Int) → List (List Int) → Option ((List (List Int)) × (List (List Int)))
 | 0,_,_,_,_,_,_=>none
 | k + 1,x0,x1,x9,x10,x632000,x632001=>if x10 < x9 then (if 0 ≤ x10 then (if x10 < (x0.length:Int) then ((impl_setOf.f k (rd x0 x10)).bind fun t633=>(if x632000.length < 5864062014805 then (if x10 < (x1.length:Int) then ((impl_setOf.f k (rd x1 x10)).bind fun t640=>(if x632001.length < 5864062014805 then (impl_pairs.l0 k x0 x1 x9 (wrap64 (x10 + 1)) (x632000 ++ [t633]) (x632001 ++ [t640])) else (none))) else (none)) else (none))) else (none)) else (none)) else (some (x632000,x632001))
def impl_pairs.f (k:Nat) (l0:List Int) (l1:List Int):Option ((List (List Int)) × (List (List Int))):=impl_pairs.l0 k l0 l1 (l0.length:Int) 0 ([]:List (List Int)) ([]:List (List Int))
theorem impl_pairs.mono_l:∀ k,(∀ y0 y1 y2 y3 y4 y5,LeO (impl_pairs.l0 k y0 y1 y2 y3 y4 y5) (impl_pairs.l0 (k + 1) y0 y1 y2 y3 y4 y5))
 | 0=>fun _ _ _ _ _ _ r h=>by simp [impl_pairs.l0] at h
 | k + 1=>by
  have ih0:=impl_pairs.mono_l k
  ·intro y0 y1 y2 y3 y4 y5;unfold impl_pairs.l0
   repeat' with_reducible first|exact ih0 _ _ _ _ _ _|exact impl_setOf.mono _ _|exact LeO.refl _|exact LeO.none _|refine LeO.ite ?_ ?_|refine LeO.bind ?_ (fun _=>?_)
theorem impl_pairs.mono:∀ a0 a1 k,LeO (impl_pairs.f k a0 a1) (impl_pairs.f (k + 1) a0 a1):=by
 intro a0 a1 k;have ih0:=impl_pairs.mono_l k;unfold impl_pairs.f
 repeat' with_reducible first|exact ih0 _ _ _ _ _ _|exact impl_setOf.mono _ _|exact LeO.refl _|exact LeO.none _|refine LeO.ite ?_ ?_|refine LeO.bind ?_ (fun _=>?_)
def impl_pairs.T5:Bool × List (List Nat × List Nat):=(true,[([],[]),([0],[0]),([],[]),([],[]),([2,3],[2,3]),([4],[4]),([5],[5]),([6],[6]),([1,7,6],[1,7]),([0,1,2,3,4,5,6,7,8],[]),([9,8,8,0,1,2,3,4,5,6,7,8],[8,9])])
def impl_pairs.B5:List Nat:=[0,1,0,0,12,28,60,124,255,511,1023]
theorem impl_pairs.tab5:rtab .any (opsOf Try.f142 5) = impl_pairs.T5:=by kernel_rfl
theorem impl_pairs.bits5:waitsOk impl_pairs.T5.2 impl_pairs.B5 = true:=by kernel_rfl
def impl_pairs.T6:Bool × List (List Nat × List Nat):=(true,[([],[]),([0],[0]),([],[]),([],[]),([2,3],[2,3]),([4],[4]),([5],[5]),([6],[6]),([1,7,6],[1,7]),([0,1,2,3,4,5,6,7,8],[]),([9,8,8,0,1,2,3,4,5,6,7,8],[8,9])])
def impl_pairs.B6:List Nat:=[0,1,0,0,12,28,60,124,255,511,1023]
theorem impl_pairs.tab6:rtab .any (opsOf Try.f142 6) = impl_pairs.T6:=by kernel_rfl
theorem impl_pairs.bits6:waitsOk impl_pairs.T6.2 impl_pairs.B6 = true:=by kernel_rfl
set_option maxHeartbeats 8000000 in
set_option maxRecDepth 100000 in
theorem impl_pairs.calls (k:Nat) (A0:Option Addr) (c0:Nat) (l0:List Int) (A1:Option Addr) (c1:Nat) (l1:List Int) (r1:List (List Int)) (r2:List (List Int)) (w:World) (hr0:Kd.C (Kd.int .i64) w A0 l0.length l0) (hc0:l0.length ≤ c0) (hr1:Kd.C (Kd.int .i64) w A1 l1.length l1) (hc1:l1.length ≤ c1) (h:impl_pairs.f k l0 l1 = some (r1,r2)) :
  Calls Try.prog 142 #[.slice A0 l0.length c0,.slice A1 l1.length c1] w fun e w'=>∃ v0_ v1_:Value,e = .returned (.agg #[v0_,v1_]) ∧ Kd.S (Kd.slice 3 (Kd.int .i64)) 40 w' w.heap.size (fun k_=>some k_ ≠ (v1_:Value).ownBlock) v0_ r1 ∧ Kd.S (Kd.slice 3 (Kd.int .i64)) 40 w' w.heap.size (fun k_=>some k_ ≠ (v0_:Value).ownBlock) v1_ r2 ∧ Below w.heap.size w w':=by
 have hu77:=Try.underlying77;have HR0:=aM hr0;have HC0:=aM hc0;clear hr0 hc0;have HR1:=aM hr1;have HC1:=aM hc1;clear hr1 hc1;have HB:=aM (Below.refl w.heap.size w);have H:(impl_pairs.l0 k l0 l1 (l0.length:Int) 0 ([]:List (List Int)) ([]:List (List Int))) = some (r1,r2):=h;clear h;have H':=aM H;clear H;go_enter Try.func142,Try.ntmps142;go_wp2_with (first|((with_reducible refine gate_dst (N:=4) rfl ?_);refine box_event ?hg (N:=4) ?hd (cs:=#[.slice none 0 0,.slice none 0 0]) (t:=77) ?hr ?_;(case hd=>rfl);(case hg=>rfl);(case hr=>first|(go_simp;done)|(go_simp;rfl));intro gb630 hg w3 hbox hb;have n0_:=aM (below_step bw hb);have n1_:=aM (hbox);have n2_:=aM ((by rw [hg];exact (below_size bw):w.heap.size ≤ gb630));have n3_:=aM ((by rw [hg];exact (below_size bw):w.heap.size ≤ gb630));clear HB;have HB:=n0_;have BK630:=n1_;have GW630:=n2_;have GE630:=n3_;clear n0_ n1_ n2_ n3_;clear hb hbox hg)|((with_reducible refine gate_dst (N:=5) rfl ?_);refine box_event ?hg (N:=5) ?hd (cs:=#[.slice none 0 0,.slice none 0 0]) (t:=77) ?hr ?_;(case hd=>rfl);(case hg=>rfl);(case hr=>first|(go_simp;done)|(go_simp;rfl));intro gb631 hg w4 hbox hb;have n0_:=aM (blk_below (g:=gb630) (o:=.cells #[.slice none 0 0,.slice none 0 0] 77 (0,0)) bk hb);have n1_:=aM (below_step bw hb);have n2_:=aM (hbox);have n3_:=aM ((by rw [hg];exact (below_size bw):w.heap.size ≤ gb631));have n4_:=aM ((by rw [hg];exact (below_size bw):w.heap.size ≤ gb631));have n5_:=aM ((by rw [hg];exact Nat.ne_of_lt (blk_lt (g:=gb630) (o:=.cells #[.slice none 0 0,.slice none 0 0] 77 (0,0)) bk):gb630 ≠ gb631));have n6_:=aM ((by rw [hg];exact Nat.ne_of_gt (blk_lt (g:=gb630) (o:=.cells #[.slice none 0 0,.slice none 0 0] 77 (0,0)) bk):gb631 ≠ gb630));clear BK630;clear HB;have BK630:=n0_;have HB:=n1_;have BK631:=n2_;have GW631:=n3_;have GE631:=n4_;have NB630_631:=n5_;have NB631_630:=n6_;clear n0_ n1_ n2_ n3_ n4_ n5_ n6_;clear hb hbox hg;have hnb5:=NB631_630.out;have hnc5:=NB630_631.out;have hcz6_0:w4.cell? ⟨gb631,0,none⟩ = some (.slice none 0 0):=(blk_cell BK631.out 0).trans rfl;have hcz6_1:w4.cell? ⟨gb631,1,none⟩ = some (.slice none 0 0):=(blk_cell BK631.out 1).trans rfl;have hfz6_0:=blk_frozen BK631.out 0;have hfz6_1:=blk_frozen BK631.out 1))
 go_loopg [10] k (fun kq v10 w'=>∃ (x10_1:Int) (x632000_1:List (List Int)) (x632001_1:List (List Int)) (u632000:Value) (u632001:Value),v10 = .int .i64 x10_1 ∧ Aside0 (impl_pairs.l0 kq l0 l1 (l0.length:Int) x10_1 x632000_1 x632001_1 = some (r1,r2)) ∧ Aside0 (kq ≤ k) ∧ Aside0 (Kd.S (Kd.slice 3 (Kd.int .i64)) 40 w' w.heap.size (fun k_=>some k_ ≠ (u632001:Value).ownBlock) u632000 x632000_1) ∧ Aside0 (Kd.S (Kd.slice 3 (Kd.int .i64)) 40 w' w.heap.size (fun k_=>some k_ ≠ (u632000:Value).ownBlock) u632001 x632001_1) ∧ Aside0 (w'.heap[gb630]? = some (.cells #[(.slice none 0 0),(.slice none 0 0)] 77 (0,0))) ∧ Aside0 (w'.heap[gb631]? = some (.cells #[u632000,u632001] 77 (0,0))) ∧ Aside0 (Below w.heap.size w w'))
 case atStart=>exact ⟨(0),(([]:List (List Int))),(([]:List (List Int))),(.slice none 0 0),(.slice none 0 0),qrs,H',⟨Nat.le_refl _⟩,⟨by first|exact Kd.S_nil _ _ _ _ _|exact Kd.N_nil _ _ _ _ _|exact Kd.V_nil _ _ _ _ _|exact Kd.Q_nil _ _ _ _ _|exact Kd.R_nil _ _ _ _ _⟩,⟨by first|exact Kd.S_nil _ _ _ _ _|exact Kd.N_nil _ _ _ _ _|exact Kd.V_nil _ _ _ _ _|exact Kd.Q_nil _ _ _ _ _|exact Kd.R_nil _ _ _ _ _⟩,⟨by (with_reducible repeat (first|refine blk_drewN ?_ _|refine blk_drew ?_|refine blk_alloc ?_ _));refine blk_far ?_ NB630_631.out _;(with_reducible repeat (first|refine blk_drewN ?_ _|refine blk_drew ?_|refine blk_alloc ?_ _));refine blk_far ?_ NB630_631.out _;(with_reducible repeat (first|refine blk_drewN ?_ _|refine blk_drew ?_|refine blk_alloc ?_ _));exact BK630.out⟩,⟨by (with_reducible repeat (first|refine blk_drewN ?_ _|refine blk_drew ?_|refine blk_alloc ?_ _));refine blk_put (cs:=#[.slice none 0 0,.slice none 0 0]) ?_ 1 _ rfl;(with_reducible repeat (first|refine blk_drewN ?_ _|refine blk_drew ?_|refine blk_alloc ?_ _));refine blk_put (cs:=#[.slice none 0 0,.slice none 0 0]) ?_ 0 _ rfl;(with_reducible repeat (first|refine blk_drewN ?_ _|refine blk_drew ?_|refine blk_alloc ?_ _));exact BK631.out⟩,⟨by exact bw⟩⟩
 case round =>
  clear H';(try clear c1);(try clear p2);(try clear c5);(try clear hcz6_0);(try clear hcz6_1);(try clear hfz6_0);(try clear hfz6_1)
  obtain ⟨x10_1,x632000_1,x632001_1,u632000,u632001,rfl,HA,HK1,HO_632000,HO_632001,BK630,BK631,HB⟩:=hrel
  cases gk with
  | zero=>exact absurd HA.out (by simp [impl_pairs.l0])
  | succ k1 =>
   have H:=HA.out;clear HA;simp only [impl_pairs.l0] at H;by_cases c7:x10_1 < (l0.length:Int)
   ·rw [if_pos c7] at H;have c7b0:decide (x10_1 < (l0.length:Int)) = true:=decide_eq_true c7;clear c7;by_cases c8:0 ≤ x10_1
    ·rw [if_pos c8] at H;have c8b0:decide (0 ≤ x10_1) = true:=decide_eq_true c8;clear c8;by_cases c9:x10_1 < (l0.length:Int)
     ·rw [if_pos c9] at H;have c9b0:decide (x10_1 < (l0.length:Int)) = true:=decide_eq_true c9;clear c9;replace H:=Option.bind_eq_some_iff.mp H;obtain ⟨t633,A100,H⟩:=H;replace H:(if x632000_1.length < 5864062014805 then (if x10_1 < (l1.length:Int) then ((impl_setOf.f k1 (rd l1 x10_1)).bind fun t640=>(if x632001_1.length < 5864062014805 then (impl_pairs.l0 k1 l0 l1 (l0.length:Int) (wrap64 (x10_1 + 1)) (x632000_1 ++ [t633]) (x632001_1 ++ [t640])) else (none))) else (none)) else (none)) = some (r1,r2):=H;have A10:=aM A100;clear A100;by_cases c11:x632000_1.length < 5864062014805
      ·rw [if_pos c11] at H;have LMc11:=aM c11;clear c11;obtain ⟨y636,hy636⟩:∃ y_:List (List Int),y_ = (x632000_1 ++ [t633]):=⟨_,rfl⟩;replace H:(if x10_1 < (l1.length:Int) then ((impl_setOf.f k1 (rd l1 x10_1)).bind fun t640=>(if x632001_1.length < 5864062014805 then (impl_pairs.l0 k1 l0 l1 (l0.length:Int) (wrap64 (x10_1 + 1)) y636 (x632001_1 ++ [t640])) else (none))) else (none)) = some (r1,r2):=by first|(rw [hy636];with_reducible exact H)|(have H2_:=(Option.bind_some _ _).symm.trans H;rw [hy636];with_reducible exact H2_)|(have H2_:=(Option.bind_some _ _).symm.trans H;with_reducible exact H2_)|with_reducible exact H|(rw [hy636];exact H)|exact H
       have Ny636:=aM hy636;clear hy636;by_cases c12:x10_1 < (l1.length:Int)
       ·rw [if_pos c12] at H;have c12b0:decide (x10_1 < (l1.length:Int)) = true:=decide_eq_true c12;clear c12;replace H:=Option.bind_eq_some_iff.mp H;obtain ⟨t640,A130,H⟩:=H;replace H:(if x632001_1.length < 5864062014805 then (impl_pairs.l0 k1 l0 l1 (l0.length:Int) (wrap64 (x10_1 + 1)) y636 (x632001_1 ++ [t640])) else (none)) = some (r1,r2):=H;have A13:=aM A130;clear A130;by_cases c14:x632001_1.length < 5864062014805
        ·rw [if_pos c14] at H;have LMc14:=aM c14;clear c14;obtain ⟨y643,hy643⟩:∃ y_:List (List Int),y_ = (x632001_1 ++ [t640]):=⟨_,rfl⟩;replace H:(impl_pairs.l0 k1 l0 l1 (l0.length:Int) (wrap64 (x10_1 + 1)) y636 y643) = some (r1,r2):=by first|(rw [hy643];with_reducible exact H)|(have H2_:=(Option.bind_some _ _).symm.trans H;rw [hy643];with_reducible exact H2_)|(have H2_:=(Option.bind_some _ _).symm.trans H;with_reducible exact H2_)|with_reducible exact H|(rw [hy643];exact H)|exact H
         have Ny643:=aM hy643;clear hy643;have H':=aM H;clear H
         try go_wp2
         have n0_:=aM (Kd.S_drew HO_632000.out);have n1_:=aM (Kd.S_drew HO_632001.out);have n2_:=aM (blk_drew BK630.out);have n3_:=aM (blk_drew BK631.out);have n4_:=aM (below_drew1 HB.out);clear HO_632000;clear HO_632001;clear BK630;clear BK631;clear HB;have HO_632000:=n0_;have HO_632001:=n1_;have BK630:=n2_;have BK631:=n3_;have HB:=n4_;clear n0_ n1_ n2_ n3_ n4_;have p632:0 ≤ (x10_1:Int):=of_decide_eq_true ab;have q632:x10_1 < (l0.length:Int):=of_decide_eq_true ab;obtain ⟨ad632,e632,hx632_0⟩:=Kd.at_int HR0.out x10_1 p632 q632;have hw632_0:=hx632_0;cases e632
         replace hx632_0:=(HB.out.cell (World.block_lt_of_cell? w _ hx632_0)).trans hx632_0;replace p632:=eq_true p632;replace q632:=eq_true q632;refine start_ (n:=11) (S:=fun w'=>w'.cell? ⟨gb631,0,none⟩ = some (u632000) ∧ w'.cell? ⟨gb631,1,none⟩ = some (u632001) ∧ w'.cell? (ad632.add (x10_1).toNat) = some (.int .i64 (rd l0 x10_1))) (ds:=[10]) (mA 11 0) kR rfl rfl ⟨(blk_cell BK631.out 0).trans rfl,(blk_cell BK631.out 1).trans rfl,((HB.out.cell (World.block_lt_of_cell? w _ hw632_0)).trans hw632_0)⟩ (fun hHeld=>?_);refine with_tabW impl_pairs.tab5 impl_pairs.bits5 (fun HT_ HW_=>?_)
         generalize wr.drew = w15 at HO_632000 HO_632001 BK630 BK631 HB hx632_0 hHeld ⊢
         refine pure_ (i:=0) (N:=some 13) (v:=?_) (a':=?_) (mA 11 1) rfl rfl (any_of HT_.out kR) (fun _ _ _ h=>h) (Or.inl ⟨by rfl,?_⟩) ?_ ?_;rotate_left
         ·intro w';go_simp
          with_reducible rfl
         rotate_left
         ·simp only [Act.put,sA,sZ,sS,i64_w,i32_w];rfl
         refine pure_ (i:=2) (N:=some 15) (v:=?_) (a':=?_) (mA 11 5) rfl rfl (any_of HT_.out kR) (fun _ _ _ h=>h) (Or.inl ⟨by rfl,?_⟩) ?_ ?_;rotate_left
         ·intro w';go_simp
          with_reducible rfl
         rotate_left
         ·simp only [Act.put,sA,sZ,sS,i64_w,i32_w];rfl
         refine pure_ (i:=3) (N:=some 16) (v:=?_) (a':=?_) (mA 11 13) rfl rfl (any_of HT_.out kR) (fun _ _ _ h=>h) (Or.inl ⟨by rfl,?_⟩) ?_ ?_;rotate_left
         ·intro w';go_simp
          with_reducible rfl
         rotate_left
         ·simp only [Act.put,sA,sZ,sS,i64_w,i32_w];rfl
         refine pure_ (i:=4) (N:=some 17) (v:=?_) (a':=?_) (mA 11 29) rfl rfl (any_of HT_.out kR) (fun _ _ _ h=>h) (Or.inl ⟨by rfl,?_⟩) ?_ ?_;rotate_left
         ·intro w';go_simp
          with_reducible rfl
         rotate_left
         ·simp only [Act.put,sA,sZ,sS,i64_w,i32_w];rfl
         refine take_ (i:=1) (N:=some 14) (v:=?_) (a':=?_) (mA 11 31) rfl rfl (take_ofW HT_.out HW_.out kR) (fun _ _ _ h=>h) (Or.inl ⟨by rfl,?_⟩) hHeld ?_ ?_;rotate_left
         ·rintro w' ⟨s0,s1,s2⟩
          go_simp
          with_reducible rfl
         rotate_left
         ·simp only [Act.put,sA,sZ,sS,i64_w,i32_w];rfl
         refine take_ (i:=5) (N:=some 18) (v:=?_) (a':=?_) (mA 11 63) rfl rfl (take_ofW HT_.out HW_.out kR) (fun _ _ _ h=>h) (Or.inl ⟨by rfl,?_⟩) hHeld ?_ ?_;rotate_left
         ·rintro w' ⟨s0,s1,s2⟩
          go_simp
          with_reducible rfl
         rotate_left
         ·simp only [Act.put,sA,sZ,sS,i64_w,i32_w];rfl
         refine one_ (i:=6) (N:=some 19) (mA 11 127) rfl rfl (one_of HT_.out kR) (by decide) (fun K hK=>?_);refine goes_ Try.func164 kR rfl #[.int .i64 (rd l0 x10_1)] (by rfl) rfl rfl mq ?_
         with_reducible refine (impl_setOf.calls k1 (rd l0 x10_1) t633 _ A10.out).mono ?_
         rintro e w16 ⟨v634,rfl,ho0,hb⟩
         refine ⟨_,rfl,?_⟩;have n0_:=aM (Kd.S_elder' (qsa HO_632000.out) (Kd.R_base ho0) hb);have n1_:=aM (Kd.S_elder' (qsa HO_632001.out) (Kd.R_base ho0) hb);have n2_:=aM (Kd.R_lower ho0 (below_size bw));have n3_:=aM (blk_below (g:=gb630) (o:=.cells #[.slice none 0 0,.slice none 0 0] 77 (0,0)) bk hb);have n4_:=aM (blk_below (g:=gb631) (o:=.cells #[u632000,u632001] 77 (0,0)) bk hb);have n5_:=aM (below_step bw hb);clear HO_632000;clear HO_632001;clear BK630;clear BK631;clear HB;have HO_632000:=n0_;have HO_632001:=n1_;have HO635:=n2_;have BK630:=n3_;have BK631:=n4_;have HB:=n5_;clear n0_ n1_ n2_ n3_ n4_ n5_;(try clear hb)
         (try clear hb2)
         (try clear hk)
         (try clear hi)
         (try clear ho0)
         obtain ⟨Ao18,co18,eo18⟩:=Kd.R_slice HO635.out;(first|subst eo18|(injection eo18 with f1_ f2_ f3_;have f4_:=f1_.symm;have f5_:=f3_.symm;clear f1_ f2_ f3_;subst f4_;subst f5_))
         refine hK.out _ _ ⟨(blk_cell BK631.out 0).trans rfl,(blk_cell BK631.out 1).trans rfl,((HB.out.cell (World.block_lt_of_cell? w _ hw632_0)).trans hw632_0)⟩ (fun hHeld=>?_);clear hK K;refine norm_ (a':=?_) ?_ ?_;rotate_left
         ·show Act.put _ (some 19) _ = _;simp only [Act.put,sA,sZ,sS,i64_w,i32_w];rfl
         refine one_ (i:=7) (N:=some 20) (mA 11 255) rfl rfl (one_of HT_.out kR) (by decide) (fun K hK=>?_);refine value_ (w1:=?_) (v:=?_) (by rfl) rfl ?_ ?_;rotate_left 2
         ·go_simp
          constructor
          ·rfl
          ·rfl
         refine hK.out _ _ ⟨(blk_cell (blk_alloc BK631.out _) 0).trans rfl,(blk_cell (blk_alloc BK631.out _) 1).trans rfl,(World.cell?_alloc_lt _ _ _ (World.block_lt_of_cell? _ _ (((HB.out.cell (World.block_lt_of_cell? w _ hw632_0)).trans hw632_0)))).trans (((HB.out.cell (World.block_lt_of_cell? w _ hw632_0)).trans hw632_0))⟩ (fun hHeld=>?_);clear hK K;refine norm_ (a':=?_) ?_ ?_;rotate_left
         ·show Act.put _ (some 20) _ = _;simp only [Act.put,sA,sZ,sS,i64_w,i32_w];rfl
         refine one_ (i:=8) (N:=some 21) (mA 11 511) rfl rfl (one_of HT_.out kR) (by decide) (fun K hK=>?_);refine Kd.S_append_step (Kd.slice 3 (Kd.int .i64)) (w0:=w) w.heap.size (by rfl) (.tmp 14) (.tmp 20) 22 40 (.slice none 0 0) 24 rfl Try.underlying22 info40 rfl (by decide) (by omega) u632000 x632000_1 t633 [.slice Ao18 t633.length co18] (fun k_=>some k_ ≠ (u632001:Value).ownBlock) (fun k_=>some k_ = (.slice Ao18 t633.length co18:Value).ownBlock) rfl rfl ?aP (fun k_ hk_=>((Kd.R_mono (ok':=fun k_=>((fun k_=>some k_ ≠ (u632001:Value).ownBlock)) k_ ∧ some k_ ≠ (u632000:Value).ownBlock) (Kd.R_apart' (Kd.R_apart' (HO635.out) (Kd.S_typed HO_632001.out) (by decide)) (Kd.S_typed HO_632000.out) (by decide)) (fun k_ hk=>⟨hk.1.2,hk.2⟩))).1 k_ hk_.symm) ?aF ?aO ?aB ?aS ?aL ?_;(case aP=>exact Kd.M_row (Kd.R_mono (Kd.R_tight rfl (Kd.R_mono (ok':=fun k_=>((fun k_=>some k_ ≠ (u632001:Value).ownBlock)) k_ ∧ some k_ ≠ (u632000:Value).ownBlock) (Kd.R_apart' (Kd.R_apart' (HO635.out) (Kd.S_typed HO_632001.out) (by decide)) (Kd.S_typed HO_632000.out) (by decide)) (fun k_ hk=>⟨hk.1.2,hk.2⟩))) (fun _ h_=>h_)))
         (case aB=>exact bw)
         (case aF=>exact (fun k_ hk=>Kd.fresh' (Kd.S_lt (qsa HO_632001.out)) k_ hk))
         (case aO=>exact (by (with_reducible repeat (first|apply Kd.S_alloc|apply Kd.S_drewN|apply Kd.S_drew));exact Kd.S_mono HO_632000.out (fun k_ hk=>⟨hk.1,fun e_=>hk.2 e_⟩)))
         (case aS=>exact (below_size bw))
         (case aL=>have:=LMc11.out;omega)
         intro v637 w17 ho hb hg hat;rw [← Ny636.out] at ho;have n0_:=aM (Kd.S_after (ok:=(fun k_=>some k_ ≠ (.slice Ao18 t633.length co18:Value).ownBlock)) (by (with_reducible repeat (first|apply Kd.S_alloc|apply Kd.S_drewN|apply Kd.S_drew));exact Kd.S_mono HO_632001.out (fun _ hk=>⟨hk.2,hk.1⟩)) hg hat);have n1_:=aM (blk_grown (g:=gb630) (o:=.cells #[.slice none 0 0,.slice none 0 0] 77 (0,0)) bk hg (Kd.S_ne HO_632000.out BK630.out (by decide)));have n2_:=aM (blk_grown (g:=gb631) (o:=.cells #[u632000,u632001] 77 (0,0)) bk hg (Kd.S_ne HO_632000.out BK631.out (by decide)));have n3_:=aM (hb);have n4_:=aM (ho);clear HO_632001;clear BK630;clear BK631;clear HB;clear HO_632000;clear HO635;have HO_632001:=n0_;have BK630:=n1_;have BK631:=n2_;have HB:=n3_;have HO638:=n4_;clear n0_ n1_ n2_ n3_ n4_;clear ho hb hg hat;obtain ⟨Ao19,co19,eo19⟩:=Kd.S_slice HO638.out;(first|subst eo19|(injection eo19 with f1_ f2_ f3_;have f4_:=f1_.symm;have f5_:=f3_.symm;clear f1_ f2_ f3_;subst f4_;subst f5_))
         refine hK.out _ _ ⟨(blk_cell BK631.out 0).trans rfl,(blk_cell BK631.out 1).trans rfl,((HB.out.cell (World.block_lt_of_cell? w _ hw632_0)).trans hw632_0)⟩ (fun hHeld=>?_);clear hK K;refine norm_ (a':=?_) ?_ ?_;rotate_left
         ·show Act.put _ (some 21) _ = _;simp only [Act.put,sA,sZ,sS,i64_w,i32_w];rfl
         refine pure_ (i:=9) (N:=some 22) (v:=?_) (a':=?_) (mA 11 1023) rfl rfl (any_of HT_.out kR) (fun _ _ _ h=>h) (Or.inl ⟨by rfl,?_⟩) ?_ ?_;rotate_left
         ·intro w';go_simp
          with_reducible rfl
         rotate_left
         ·simp only [Act.put,sA,sZ,sS,i64_w,i32_w];rfl
         refine last_ (i:=10) (N:=none) (mA 11 2047) rfl rfl (one_of HT_.out kR) (by decide) (fun K hK=>?_);have hs20:w17.cell? ⟨gb631,0,none⟩ = some (u632000):=(blk_cell BK631.out 0).trans rfl;have hfs20:=blk_frozen BK631.out 0;have hns20_0:=NB630_631.out;have hms20_0:=NB631_630.out;refine skip_ (w1:=?_) (by rfl) rfl ?_ ?_;rotate_left
         ·go_simp
          rfl
         refine hK.out _ _ ?_;clear hK K;refine done_ (done_of HT_.out kR) ?_
         try go_wp2
         have n0_:Aside0 (Kd.S (Kd.slice 3 (Kd.int .i64)) 40 (w17.setCell ⟨gb631,0,none⟩ (.slice Ao19 y636.length co19)) w.heap.size (fun k_=>some k_ ≠ (.slice Ao19 y636.length co19:Value).ownBlock) u632001 x632001_1):=⟨by (with_reducible repeat (first|apply Kd.S_alloc|apply Kd.S_drewN|apply Kd.S_drew));exact Kd.S_mono (Kd.S_far (p:=⟨gb631,0,none⟩) (Kd.S_types HO_632001.out BK631.out (by decide)) (fun _ hk=>hk.2) (.slice Ao19 y636.length co19)) (fun _ hk=>hk.1.2)⟩;have n1_:Aside0 (Kd.S (Kd.slice 3 (Kd.int .i64)) 40 (w17.setCell ⟨gb631,0,none⟩ (.slice Ao19 y636.length co19)) w.heap.size (fun k_=>some k_ ≠ (u632001:Value).ownBlock) (.slice Ao19 y636.length co19) y636):=⟨by (with_reducible repeat (first|apply Kd.S_alloc|apply Kd.S_drewN|apply Kd.S_drew));exact Kd.S_mono (Kd.S_far (p:=⟨gb631,0,none⟩) (Kd.S_types HO638.out BK631.out (by decide)) (fun _ hk=>hk.2) (.slice Ao19 y636.length co19)) (fun _ hk=>hk.1)⟩;have n2_:Aside0 ((w17.setCell ⟨gb631,0,none⟩ (.slice Ao19 y636.length co19)).heap[gb630]? = some (.cells #[.slice none 0 0,.slice none 0 0] 77 (0,0))):=⟨by (with_reducible repeat (first|refine blk_drewN ?_ _|refine blk_drew ?_|refine blk_alloc ?_ _));refine blk_far ?_ NB630_631.out _;(with_reducible repeat (first|refine blk_drewN ?_ _|refine blk_drew ?_|refine blk_alloc ?_ _));exact BK630.out⟩;have n3_:Aside0 ((w17.setCell ⟨gb631,0,none⟩ (.slice Ao19 y636.length co19)).heap[gb631]? = some (.cells #[.slice Ao19 y636.length co19,u632001] 77 (0,0))):=⟨by (with_reducible repeat (first|refine blk_drewN ?_ _|refine blk_drew ?_|refine blk_alloc ?_ _));refine blk_put (cs:=#[u632000,u632001]) ?_ 0 _ rfl;(with_reducible repeat (first|refine blk_drewN ?_ _|refine blk_drew ?_|refine blk_alloc ?_ _));exact BK631.out⟩;have n4_:Aside0 (Below w.heap.size w (w17.setCell ⟨gb631,0,none⟩ (.slice Ao19 y636.length co19))):=⟨by exact bw⟩;(try clear HO_632001)
         (try clear HO638)
         (try clear BK630)
         (try clear BK631)
         (try clear HB)
         generalize (w17.setCell ⟨gb631,0,none⟩ (.slice Ao19 y636.length co19)) = w21 at n0_ n1_ n2_ n3_ n4_ ⊢
         have HO_632001:=n0_;have HO638:=n1_;have BK630:=n2_;have BK631:=n3_;have HB:=n4_;clear n0_ n1_ n2_ n3_ n4_;have n0_:=aM (Kd.S_drew HO_632001.out);have n1_:=aM (Kd.S_drew HO638.out);have n2_:=aM (blk_drew BK630.out);have n3_:=aM (blk_drew BK631.out);have n4_:=aM (below_drew1 HB.out);clear HO_632001;clear HO638;clear BK630;clear BK631;clear HB;have HO_632001:=n0_;have HO638:=n1_;have BK630:=n2_;have BK631:=n3_;have HB:=n4_;clear n0_ n1_ n2_ n3_ n4_;have p639:0 ≤ (x10_1:Int):=of_decide_eq_true ab;have q639:x10_1 < (l1.length:Int):=of_decide_eq_true ab;obtain ⟨ad639,e639,hx639_0⟩:=Kd.at_int HR1.out x10_1 p639 q639;have hw639_0:=hx639_0;cases e639
         replace hx639_0:=(HB.out.cell (World.block_lt_of_cell? w _ hx639_0)).trans hx639_0;replace p639:=eq_true p639;replace q639:=eq_true q639;refine start_ (n:=11) (S:=fun w'=>w'.cell? ⟨gb631,0,none⟩ = some (.slice Ao19 y636.length co19) ∧ w'.cell? ⟨gb631,1,none⟩ = some (u632001) ∧ w'.cell? (ad639.add (x10_1).toNat) = some (.int .i64 (rd l1 x10_1))) (ds:=[10]) (mA 11 0) kR rfl rfl ⟨(blk_cell BK631.out 0).trans rfl,(blk_cell BK631.out 1).trans rfl,((HB.out.cell (World.block_lt_of_cell? w _ hw639_0)).trans hw639_0)⟩ (fun hHeld=>?_);refine with_tabW impl_pairs.tab6 impl_pairs.bits6 (fun HT_ HW_=>?_)
         generalize w21.drew = w22 at HO_632001 HO638 BK630 BK631 HB hx639_0 hHeld ⊢
         refine pure_ (i:=0) (N:=some 23) (v:=?_) (a':=?_) (mA 11 1) rfl rfl (any_of HT_.out kR) (fun _ _ _ h=>h) (Or.inl ⟨by rfl,?_⟩) ?_ ?_;rotate_left
         ·intro w';go_simp
          with_reducible rfl
         rotate_left
         ·simp only [Act.put,sA,sZ,sS,i64_w,i32_w];rfl
         refine pure_ (i:=2) (N:=some 25) (v:=?_) (a':=?_) (mA 11 5) rfl rfl (any_of HT_.out kR) (fun _ _ _ h=>h) (Or.inl ⟨by rfl,?_⟩) ?_ ?_;rotate_left
         ·intro w';go_simp
          with_reducible rfl
         rotate_left
         ·simp only [Act.put,sA,sZ,sS,i64_w,i32_w];rfl
         refine pure_ (i:=3) (N:=some 26) (v:=?_) (a':=?_) (mA 11 13) rfl rfl (any_of HT_.out kR) (fun _ _ _ h=>h) (Or.inl ⟨by rfl,?_⟩) ?_ ?_;rotate_left
         ·intro w';go_simp
          with_reducible rfl
         rotate_left
         ·simp only [Act.put,sA,sZ,sS,i64_w,i32_w];rfl
         refine pure_ (i:=4) (N:=some 27) (v:=?_) (a':=?_) (mA 11 29) rfl rfl (any_of HT_.out kR) (fun _ _ _ h=>h) (Or.inl ⟨by rfl,?_⟩) ?_ ?_;rotate_left
         ·intro w';go_simp
          with_reducible rfl
         rotate_left
         ·simp only [Act.put,sA,sZ,sS,i64_w,i32_w];rfl
         refine take_ (i:=1) (N:=some 24) (v:=?_) (a':=?_) (mA 11 31) rfl rfl (take_ofW HT_.out HW_.out kR) (fun _ _ _ h=>h) (Or.inl ⟨by rfl,?_⟩) hHeld ?_ ?_;rotate_left
         ·rintro w' ⟨s0,s1,s2⟩
          go_simp
          with_reducible rfl
         rotate_left
         ·simp only [Act.put,sA,sZ,sS,i64_w,i32_w];rfl
         refine take_ (i:=5) (N:=some 28) (v:=?_) (a':=?_) (mA 11 63) rfl rfl (take_ofW HT_.out HW_.out kR) (fun _ _ _ h=>h) (Or.inl ⟨by rfl,?_⟩) hHeld ?_ ?_;rotate_left
         ·rintro w' ⟨s0,s1,s2⟩
          go_simp
          with_reducible rfl
         rotate_left
         ·simp only [Act.put,sA,sZ,sS,i64_w,i32_w];rfl
         refine one_ (i:=6) (N:=some 29) (mA 11 127) rfl rfl (one_of HT_.out kR) (by decide) (fun K hK=>?_);refine goes_ Try.func164 kR rfl #[.int .i64 (rd l1 x10_1)] (by rfl) rfl rfl mq ?_
         with_reducible refine (impl_setOf.calls k1 (rd l1 x10_1) t640 _ A13.out).mono ?_
         rintro e w23 ⟨v641,rfl,ho0,hb⟩
         refine ⟨_,rfl,?_⟩;have n0_:=aM (Kd.S_elder' (qsa HO_632001.out) (Kd.R_base ho0) hb);have n1_:=aM (Kd.S_elder' (qsa HO638.out) (Kd.R_base ho0) hb);have n2_:=aM (Kd.R_lower ho0 (below_size bw));have n3_:=aM (blk_below (g:=gb630) (o:=.cells #[.slice none 0 0,.slice none 0 0] 77 (0,0)) bk hb);have n4_:=aM (blk_below (g:=gb631) (o:=.cells #[.slice Ao19 y636.length co19,u632001] 77 (0,0)) bk hb);have n5_:=aM (below_step bw hb);clear HO_632001;clear HO638;clear BK630;clear BK631;clear HB;have HO_632001:=n0_;have HO638:=n1_;have HO642:=n2_;have BK630:=n3_;have BK631:=n4_;have HB:=n5_;clear n0_ n1_ n2_ n3_ n4_ n5_;(try clear hb)
         (try clear hb2)
         (try clear hk)
         (try clear hi)
         (try clear ho0)
         obtain ⟨Ao25,co25,eo25⟩:=Kd.R_slice HO642.out;(first|subst eo25|(injection eo25 with f1_ f2_ f3_;have f4_:=f1_.symm;have f5_:=f3_.symm;clear f1_ f2_ f3_;subst f4_;subst f5_))
         refine hK.out _ _ ⟨(blk_cell BK631.out 0).trans rfl,(blk_cell BK631.out 1).trans rfl,((HB.out.cell (World.block_lt_of_cell? w _ hw639_0)).trans hw639_0)⟩ (fun hHeld=>?_);clear hK K;refine norm_ (a':=?_) ?_ ?_;rotate_left
         ·show Act.put _ (some 29) _ = _;simp only [Act.put,sA,sZ,sS,i64_w,i32_w];rfl
         refine one_ (i:=7) (N:=some 30) (mA 11 255) rfl rfl (one_of HT_.out kR) (by decide) (fun K hK=>?_);refine value_ (w1:=?_) (v:=?_) (by rfl) rfl ?_ ?_;rotate_left 2
         ·go_simp
          constructor
          ·rfl
          ·rfl
         refine hK.out _ _ ⟨(blk_cell (blk_alloc BK631.out _) 0).trans rfl,(blk_cell (blk_alloc BK631.out _) 1).trans rfl,(World.cell?_alloc_lt _ _ _ (World.block_lt_of_cell? _ _ (((HB.out.cell (World.block_lt_of_cell? w _ hw639_0)).trans hw639_0)))).trans (((HB.out.cell (World.block_lt_of_cell? w _ hw639_0)).trans hw639_0))⟩ (fun hHeld=>?_);clear hK K;refine norm_ (a':=?_) ?_ ?_;rotate_left
         ·show Act.put _ (some 30) _ = _;simp only [Act.put,sA,sZ,sS,i64_w,i32_w];rfl
         refine one_ (i:=8) (N:=some 31) (mA 11 511) rfl rfl (one_of HT_.out kR) (by decide) (fun K hK=>?_);refine Kd.S_append_step (Kd.slice 3 (Kd.int .i64)) (w0:=w) w.heap.size (by rfl) (.tmp 24) (.tmp 30) 22 40 (.slice none 0 0) 24 rfl Try.underlying22 info40 rfl (by decide) (by omega) u632001 x632001_1 t640 [.slice Ao25 t640.length co25] (fun k_=>some k_ ≠ (.slice Ao19 y636.length co19:Value).ownBlock) (fun k_=>some k_ = (.slice Ao25 t640.length co25:Value).ownBlock) rfl rfl ?aP (fun k_ hk_=>((Kd.R_mono (ok':=fun k_=>((fun k_=>some k_ ≠ (.slice Ao19 y636.length co19:Value).ownBlock)) k_ ∧ some k_ ≠ (u632001:Value).ownBlock) (Kd.R_apart' (Kd.R_apart' (HO642.out) (Kd.S_typed HO638.out) (by decide)) (Kd.S_typed HO_632001.out) (by decide)) (fun k_ hk=>⟨hk.1.2,hk.2⟩))).1 k_ hk_.symm) ?aF ?aO ?aB ?aS ?aL ?_;(case aP=>exact Kd.M_row (Kd.R_mono (Kd.R_tight rfl (Kd.R_mono (ok':=fun k_=>((fun k_=>some k_ ≠ (.slice Ao19 y636.length co19:Value).ownBlock)) k_ ∧ some k_ ≠ (u632001:Value).ownBlock) (Kd.R_apart' (Kd.R_apart' (HO642.out) (Kd.S_typed HO638.out) (by decide)) (Kd.S_typed HO_632001.out) (by decide)) (fun k_ hk=>⟨hk.1.2,hk.2⟩))) (fun _ h_=>h_)))
         (case aB=>exact bw)
         (case aF=>exact (fun k_ hk=>Kd.fresh' (Kd.S_lt (qsa HO638.out)) k_ hk))
         (case aO=>exact (by (with_reducible repeat (first|apply Kd.S_alloc|apply Kd.S_drewN|apply Kd.S_drew));exact Kd.S_mono HO_632001.out (fun k_ hk=>⟨hk.1,fun e_=>hk.2 e_⟩)))
         (case aS=>exact (below_size bw))
         (case aL=>have:=LMc14.out;omega)
         intro v644 w24 ho hb hg hat;rw [← Ny643.out] at ho;have n0_:=aM (blk_grown (g:=gb630) (o:=.cells #[.slice none 0 0,.slice none 0 0] 77 (0,0)) bk hg (Kd.S_ne HO_632001.out BK630.out (by decide)));have n1_:=aM (blk_grown (g:=gb631) (o:=.cells #[.slice Ao19 y636.length co19,u632001] 77 (0,0)) bk hg (Kd.S_ne HO_632001.out BK631.out (by decide)));have n2_:=aM (Kd.S_after (ok:=(fun k_=>some k_ ≠ (.slice Ao25 t640.length co25:Value).ownBlock)) (by (with_reducible repeat (first|apply Kd.S_alloc|apply Kd.S_drewN|apply Kd.S_drew));exact Kd.S_mono HO638.out (fun _ hk=>⟨hk.2,hk.1⟩)) hg hat);have n3_:=aM (hb);have n4_:=aM (ho);clear BK630;clear BK631;clear HO638;clear HB;clear HO_632001;clear HO642;have BK630:=n0_;have BK631:=n1_;have HO638:=n2_;have HB:=n3_;have HO645:=n4_;clear n0_ n1_ n2_ n3_ n4_;clear ho hb hg hat;obtain ⟨Ao26,co26,eo26⟩:=Kd.S_slice HO645.out;(first|subst eo26|(injection eo26 with f1_ f2_ f3_;have f4_:=f1_.symm;have f5_:=f3_.symm;clear f1_ f2_ f3_;subst f4_;subst f5_))
         refine hK.out _ _ ⟨(blk_cell BK631.out 0).trans rfl,(blk_cell BK631.out 1).trans rfl,((HB.out.cell (World.block_lt_of_cell? w _ hw639_0)).trans hw639_0)⟩ (fun hHeld=>?_);clear hK K;refine norm_ (a':=?_) ?_ ?_;rotate_left
         ·show Act.put _ (some 31) _ = _;simp only [Act.put,sA,sZ,sS,i64_w,i32_w];rfl
         refine pure_ (i:=9) (N:=some 32) (v:=?_) (a':=?_) (mA 11 1023) rfl rfl (any_of HT_.out kR) (fun _ _ _ h=>h) (Or.inl ⟨by rfl,?_⟩) ?_ ?_;rotate_left
         ·intro w';go_simp
          with_reducible rfl
         rotate_left
         ·simp only [Act.put,sA,sZ,sS,i64_w,i32_w];rfl
         refine last_ (i:=10) (N:=none) (mA 11 2047) rfl rfl (one_of HT_.out kR) (by decide) (fun K hK=>?_);have hs27:w24.cell? ⟨gb631,1,none⟩ = some (u632001):=(blk_cell BK631.out 1).trans rfl;have hfs27:=blk_frozen BK631.out 1;have hns27_0:=NB630_631.out;have hms27_0:=NB631_630.out;refine skip_ (w1:=?_) (by rfl) rfl ?_ ?_;rotate_left
         ·go_simp
          rfl
         refine hK.out _ _ ?_;clear hK K;refine done_ (done_of HT_.out kR) ?_
         try go_wp2
         go_roundg k1
         case measure=>have:=HK1.out;omega
         case rel=>exact ⟨(wrap64 (x10_1 + 1)),(y636),(y643),(.slice Ao19 y636.length co19),(.slice Ao26 y643.length co26),qrs,H',⟨by have:=HK1.out;omega⟩,⟨by (with_reducible repeat (first|apply Kd.S_alloc|apply Kd.S_drewN|apply Kd.S_drew));exact Kd.S_mono (Kd.S_far (p:=⟨gb631,1,none⟩) (Kd.S_types HO638.out BK631.out (by decide)) (fun _ hk=>hk.2) (.slice Ao26 y643.length co26)) (fun _ hk=>hk.1.2)⟩,⟨by (with_reducible repeat (first|apply Kd.S_alloc|apply Kd.S_drewN|apply Kd.S_drew));exact Kd.S_mono (Kd.S_far (p:=⟨gb631,1,none⟩) (Kd.S_types HO645.out BK631.out (by decide)) (fun _ hk=>hk.2) (.slice Ao26 y643.length co26)) (fun _ hk=>hk.1)⟩,⟨by (with_reducible repeat (first|refine blk_drewN ?_ _|refine blk_drew ?_|refine blk_alloc ?_ _));refine blk_far ?_ NB630_631.out _;(with_reducible repeat (first|refine blk_drewN ?_ _|refine blk_drew ?_|refine blk_alloc ?_ _));exact BK630.out⟩,⟨by (with_reducible repeat (first|refine blk_drewN ?_ _|refine blk_drew ?_|refine blk_alloc ?_ _));refine blk_put (cs:=#[.slice Ao19 y636.length co19,u632001]) ?_ 1 _ rfl;(with_reducible repeat (first|refine blk_drewN ?_ _|refine blk_drew ?_|refine blk_alloc ?_ _));exact BK631.out⟩,⟨by exact bw⟩⟩
        ·rw [if_neg c14] at H;exact absurd H (by simp)
       ·rw [if_neg c12] at H;exact absurd H (by simp)
      ·rw [if_neg c11] at H;exact absurd H (by simp)
     ·rw [if_neg c9] at H;exact absurd H (by simp)
    ·rw [if_neg c8] at H;exact absurd H (by simp)
   ·rw [if_neg c7] at H;have c7b0:decide (x10_1 < (l0.length:Int)) = false:=decide_eq_false c7;clear c7;simp only [Option.some.injEq,Prod.mk.injEq] at H;obtain ⟨rfl,rfl⟩:=H;have hnb28:=NB631_630.out;have hnc28:=NB630_631.out;have hcz29_0:wr.cell? ⟨gb631,0,none⟩ = some (u632000):=(blk_cell BK631.out 0).trans rfl;have hcz29_1:wr.cell? ⟨gb631,1,none⟩ = some (u632001):=(blk_cell BK631.out 1).trans rfl;have hfz29_0:=blk_frozen BK631.out 0;have hfz29_1:=blk_frozen BK631.out 1;obtain ⟨Ao30,co30,eo30⟩:=Kd.S_slice HO_632000.out;subst eo30;have hcz31_0:wr.cell? ⟨gb630,0,none⟩ = some (.slice none 0 0):=(blk_cell BK630.out 0).trans rfl;have hcz31_1:wr.cell? ⟨gb630,1,none⟩ = some (.slice none 0 0):=(blk_cell BK630.out 1).trans rfl;have hfz31_0:=blk_frozen BK630.out 0;have hfz31_1:=blk_frozen BK630.out 1;obtain ⟨Ao32,co32,eo32⟩:=Kd.S_slice HO_632001.out;subst eo32;go_wp2
    refine bodyPost_ret (results_cell_row rfl _ _ gb630 77 #[.slice Ao30 x632000_1.length co30,.slice Ao32 x632001_1.length co32] (0,0) _ rfl (by (with_reducible repeat (first|refine blk_drewN ?_ _|refine blk_drew ?_|refine blk_alloc ?_ _));refine blk_put (cs:=#[.slice Ao30 x632000_1.length co30,.slice none 0 0]) ?_ 1 _ rfl;(with_reducible repeat (first|refine blk_drewN ?_ _|refine blk_drew ?_|refine blk_alloc ?_ _));refine blk_put (cs:=#[.slice none 0 0,.slice none 0 0]) ?_ 0 _ rfl;(with_reducible repeat (first|refine blk_drewN ?_ _|refine blk_drew ?_|refine blk_alloc ?_ _));exact BK630.out) Try.underlying77 rfl kR) rfl ?_;exact ⟨_,_,by first|rfl|(simp [errW_none,errW_some] <;> rfl)|(simp [*,errW_none,errW_some] <;> rfl),by (with_reducible repeat (first|apply Kd.S_alloc|apply Kd.S_drewN|apply Kd.S_drew));exact Kd.S_mono (Kd.S_far (p:=⟨gb630,1,none⟩) (Kd.S_far (p:=⟨gb630,0,none⟩) (Kd.S_types HO_632000.out BK630.out (by decide)) (fun _ hk=>hk.2) (.slice Ao30 x632000_1.length co30)) (fun _ hk=>hk.2) (.slice Ao32 x632001_1.length co32)) (fun _ hk=>hk.1),by (with_reducible repeat (first|apply Kd.S_alloc|apply Kd.S_drewN|apply Kd.S_drew));exact Kd.S_mono (Kd.S_far (p:=⟨gb630,1,none⟩) (Kd.S_far (p:=⟨gb630,0,none⟩) (Kd.S_types HO_632001.out BK630.out (by decide)) (fun _ hk=>hk.2) (.slice Ao30 x632000_1.length co30)) (fun _ hk=>hk.2) (.slice Ao32 x632001_1.length co32)) (fun _ hk=>hk.1),by exact bw⟩


/-! ### impl_votes_firstTrade_1: function 101 -/
def impl_votes_firstTrade_1.f (a0:Int) (a1:Int) (a2:Int) (a3:Int):Option (Bool):=some true
set_option maxHeartbeats 8000000 in
set_option maxRecDepth 100000 in
theorem impl_votes_firstTrade_1.calls (a0:Int) (a1:Int) (a2:Int) (a3:Int) (r:Bool) (w:World) (h:impl_votes_firstTrade_1.f a0 a1 a2 a3 = some r) :
  Calls Try.prog 101 #[.int .i64 a0,.int .i64 a1,.int .i64 a2,.int .i64 a3] w fun e w'=>e = .returned (.bool r) ∧ Drawn0 w w':=by
 have H:(some true) = some r:=h;clear h;obtain rfl:=Option.some.inj H;go_enter Try.func101,Try.ntmps101;go_wp2
 go_ret
 exact ⟨by first|rfl|(simp;done)|(simp [*];done),by repeat (first|exact Drawn0.refl _|apply Drawn0.step)⟩
theorem impl_votes_firstTrade_1.enters:∀ (args:Array Value) (w:World),(callFunc 101 args).run Try.prog w = .ok (.enter 101 args) w:=enters_of Try.func101 kR rfl


/-! ### spec_voBefore: function 120 -/
mutual
def spec_voBefore.l0:Nat → List Int → List Int → Int → Option (Bool)
 | 0,_,_,_=>none
 | k + 1,x0,x1,x5=>if x5 < (x0.length:Int) then (spec_voBefore.j1 k x0 x1 x5 (decide (x5 < (x1.length:Int)))) else (spec_voBefore.j1 k x0 x1 x5 false)
def spec_voBefore.j1:Nat → List Int → List Int → Int → Bool → Option (Bool)
 | 0,_,_,_,_=>none
 | k + 1,x0,x1,x5,x15=>if x15 = true then (if 0 ≤ x5 then (if x5 < (x0.length:Int) then (if x5 < (x1.length:Int) then (if (rd x0 x5) = (rd x1 x5) then (spec_voBefore.l0 k x0 x1 (wrap64 (x5 + 1))) else (some (decide ((rd x0 x5) < (rd x1 x5))))) else (none)) else (none)) else (none)) else (some (decide ((x0.length:Int) < (x1.length:Int))))
end
def spec_voBefore.f (k:Nat) (l0:List Int) (l1:List Int):Option (Bool):=spec_voBefore.l0 k l0 l1 0
theorem spec_voBefore.mono_l:∀ k,(∀ y0 y1 y2,LeO (spec_voBefore.l0 k y0 y1 y2) (spec_voBefore.l0 (k + 1) y0 y1 y2)) ∧ (∀ y0 y1 y2 y3,LeO (spec_voBefore.j1 k y0 y1 y2 y3) (spec_voBefore.j1 (k + 1) y0 y1 y2 y3))
 | 0=>⟨fun _ _ _ r h=>by simp [spec_voBefore.l0] at h,fun _ _ _ _ r h=>by simp [spec_voBefore.j1] at h⟩
 | k + 1=>by
  obtain ⟨ih0,ih1⟩:=spec_voBefore.mono_l k;refine ⟨?_,?_⟩
  ·intro y0 y1 y2;unfold spec_voBefore.l0
   repeat' with_reducible first|exact ih0 _ _ _|exact ih1 _ _ _ _|exact LeO.refl _|exact LeO.none _|refine LeO.ite ?_ ?_|refine LeO.bind ?_ (fun _=>?_)
  ·intro y0 y1 y2 y3;unfold spec_voBefore.j1
   repeat' with_reducible first|exact ih0 _ _ _|exact ih1 _ _ _ _|exact LeO.refl _|exact LeO.none _|refine LeO.ite ?_ ?_|refine LeO.bind ?_ (fun _=>?_)
theorem spec_voBefore.mono:∀ a0 a1 k,LeO (spec_voBefore.f k a0 a1) (spec_voBefore.f (k + 1) a0 a1):=by
 intro a0 a1 k;obtain ⟨ih0,ih1⟩:=spec_voBefore.mono_l k;unfold spec_voBefore.f
 repeat' with_reducible first|exact ih0 _ _ _|exact ih1 _ _ _ _|exact LeO.refl _|exact LeO.none _|refine LeO.ite ?_ ?_|refine LeO.bind ?_ (fun _=>?_)
set_option maxHeartbeats 8000000 in
set_option maxRecDepth 100000 in
theorem spec_voBefore.calls (k:Nat) (A0:Option Addr) (c0:Nat) (l0:List Int) (A1:Option Addr) (c1:Nat) (l1:List Int) (r:Bool) (w:World) (hr0:Kd.C (Kd.int .i64) w A0 l0.length l0) (hc0:l0.length ≤ c0) (hr1:Kd.C (Kd.int .i64) w A1 l1.length l1) (hc1:l1.length ≤ c1) (h:spec_voBefore.f k l0 l1 = some r) :
  Calls Try.prog 120 #[.slice A0 l0.length c0,.slice A1 l1.length c1] w fun e w'=>e = .returned (.bool r) ∧ Drawn0 w w':=by
 have HR0:=aM hr0;have HC0:=aM hc0;clear hr0 hc0;have HR1:=aM hr1;have HC1:=aM hc1;clear hr1 hc1;have H:(spec_voBefore.l0 k l0 l1 0) = some r:=h;clear h;have H':=aM H;clear H;go_enter Try.func120,Try.ntmps120;go_wp2
 repeat (go_quiet (fail);try go_wp2)
 go_loopg [5] k (fun kq v5 w'=>∃ (x5_1:Int),v5 = .int .i64 x5_1 ∧ Aside0 (spec_voBefore.l0 kq l0 l1 x5_1 = some r) ∧ Aside0 (kq ≤ k) ∧ Drawn0 w w')
 case atStart=>exact ⟨(0),qrs,H',⟨Nat.le_refl _⟩,by repeat (first|exact Drawn0.refl _|apply Drawn0.step)⟩
 case round =>
  clear H';(try clear c1);(try clear p2)
  obtain ⟨x5_1,rfl,HA,HK1,⟨m1,rfl⟩⟩:=hrel
  cases gk with
  | zero=>exact absurd HA.out (by simp [spec_voBefore.l0])
  | succ k1 =>
   have H:=HA.out;clear HA;simp only [spec_voBefore.l0] at H;have HC3:=aM H;clear H;go_upto_region 2 with (fail)
   repeat (go_quiet (fail);go_upto_region 2 with (fail))
   go_cut [15] (fun v15 wc=>∃ (kq:Nat) (x15_2:Bool),v15 = .bool x15_2 ∧ Aside0 (spec_voBefore.j1 kq l0 l1 x5_1 x15_2 = some r) ∧ Aside0 (kq ≤ k1) ∧ Drawn0 w wc)
   case first =>
    have H:=HC3.out;clear HC3;by_cases c4:x5_1 < (l0.length:Int)
    ·rw [if_pos c4] at H;have c4b0:decide (x5_1 < (l0.length:Int)) = true:=decide_eq_true c4;clear c4;(first|rw [c4b0]|(simp only [i64_w,i32_w];rw [c4b0])|skip)
     have H':=aM H;clear H;go_wp2
     repeat (go_quiet (fail);try go_wp2)
     go_meet
     case rel=>exact ⟨_,(decide (x5_1 < (l1.length:Int))),qrs,H',⟨by have:=HK1.out;first|omega|exact Nat.le_refl _⟩,by repeat (first|exact Drawn0.refl _|apply Drawn0.step)⟩
    ·rw [if_neg c4] at H;have c4b0:decide (x5_1 < (l0.length:Int)) = false:=decide_eq_false c4;clear c4;(first|rw [c4b0]|(simp only [i64_w,i32_w];rw [c4b0])|skip)
     have H':=aM H;clear H;go_wp2
     repeat (go_quiet (fail);try go_wp2)
     go_meet
     case rel=>exact ⟨_,(false),qrs,H',⟨by have:=HK1.out;first|omega|exact Nat.le_refl _⟩,by repeat (first|exact Drawn0.refl _|apply Drawn0.step)⟩
   case rest =>
    clear HC3;(try clear c1);(try clear p2);(try clear c4);(try clear c4b0);(try clear p2)
    obtain ⟨kq,x15_2,rfl,HA,HJ2,⟨mc2,rfl⟩⟩:=hcut
    cases kq with
    | zero=>exact absurd HA.out (by simp [spec_voBefore.j1])
    | succ kj2 =>
     have H:=HA.out;clear HA;simp only [spec_voBefore.j1] at H;by_cases c5:x15_2 = true
     ·subst c5;have H1:(if 0 ≤ x5_1 then (if x5_1 < (l0.length:Int) then (if x5_1 < (l1.length:Int) then (if (rd l0 x5_1) = (rd l1 x5_1) then (spec_voBefore.l0 kj2 l0 l1 (wrap64 (x5_1 + 1))) else (some (decide ((rd l0 x5_1) < (rd l1 x5_1))))) else (none)) else (none)) else (none)) = some r:=by rw [if_pos rfl] at H;exact H
      clear H;have H:=H1;clear H1;by_cases c6:0 ≤ x5_1
      ·rw [if_pos c6] at H;have c6b0:decide (0 ≤ x5_1) = true:=decide_eq_true c6;clear c6;by_cases c7:x5_1 < (l0.length:Int)
       ·rw [if_pos c7] at H;have c7b0:decide (x5_1 < (l0.length:Int)) = true:=decide_eq_true c7;clear c7;by_cases c8:x5_1 < (l1.length:Int)
        ·rw [if_pos c8] at H;have c8b0:decide (x5_1 < (l1.length:Int)) = true:=decide_eq_true c8;clear c8;by_cases c9:(rd l0 x5_1) = (rd l1 x5_1)
         ·rw [if_pos c9] at H;have c9b0:((rd l0 x5_1) == (rd l1 x5_1)) = true:=beq_iff_eq.mpr c9;have c9b1:((rd l0 x5_1) != (rd l1 x5_1)) = false:=bne_eq_false_iff_eq.mpr c9;clear c9;have H':=aM H;clear H;have p132:0 ≤ (x5_1:Int):=of_decide_eq_true ab;have q132:x5_1 < (l0.length:Int):=of_decide_eq_true ab;obtain ⟨ad132,e132,hx132_0⟩:=Kd.at_int HR0.out x5_1 p132 q132;cases e132
          replace p132:=eq_true p132;replace q132:=eq_true q132;have p133:0 ≤ (x5_1:Int):=of_decide_eq_true ab;have q133:x5_1 < (l1.length:Int):=of_decide_eq_true ab;obtain ⟨ad133,e133,hx133_0⟩:=Kd.at_int HR1.out x5_1 p133 q133;cases e133
          replace p133:=eq_true p133;replace q133:=eq_true q133;go_wp2
          repeat (go_quiet (fail);try go_wp2)
          go_roundg kj2
          case measure=>have:=HK1.out;have:=HJ2.out;omega
          case rel=>exact ⟨(wrap64 (x5_1 + 1)),qrs,H',⟨by have:=HK1.out;have:=HJ2.out;omega⟩,by repeat (first|exact Drawn0.refl _|apply Drawn0.step)⟩
         ·rw [if_neg c9] at H;have c9b0:((rd l0 x5_1) == (rd l1 x5_1)) = false:=beq_eq_false_iff_ne.mpr c9;have c9b1:((rd l0 x5_1) != (rd l1 x5_1)) = true:=bne_iff_ne.mpr c9;obtain rfl:=Option.some.inj H;have p132:0 ≤ (x5_1:Int):=of_decide_eq_true ab;have q132:x5_1 < (l0.length:Int):=of_decide_eq_true ab;obtain ⟨ad132,e132,hx132_0⟩:=Kd.at_int HR0.out x5_1 p132 q132;cases e132
          replace p132:=eq_true p132;replace q132:=eq_true q132;have p133:0 ≤ (x5_1:Int):=of_decide_eq_true ab;have q133:x5_1 < (l1.length:Int):=of_decide_eq_true ab;obtain ⟨ad133,e133,hx133_0⟩:=Kd.at_int HR1.out x5_1 p133 q133;cases e133
          replace p133:=eq_true p133;replace q133:=eq_true q133;have p134:0 ≤ (x5_1:Int):=of_decide_eq_true ab;have q134:x5_1 < (l0.length:Int):=of_decide_eq_true ab;obtain ⟨ad134,e134,hx134_0⟩:=Kd.at_int HR0.out x5_1 p134 q134;obtain rfl:ad132 = ad134:=(by injection e134);replace p134:=eq_true p134;replace q134:=eq_true q134;have p135:0 ≤ (x5_1:Int):=of_decide_eq_true ab;have q135:x5_1 < (l1.length:Int):=of_decide_eq_true ab;obtain ⟨ad135,e135,hx135_0⟩:=Kd.at_int HR1.out x5_1 p135 q135;obtain rfl:ad133 = ad135:=(by injection e135);replace p135:=eq_true p135;replace q135:=eq_true q135;go_wp2
          repeat (go_quiet (fail);try go_wp2)
          go_ret
          exact ⟨by first|rfl|(simp;done)|(simp [*];done),by repeat (first|exact Drawn0.refl _|apply Drawn0.step)⟩
        ·rw [if_neg c8] at H;exact absurd H (by simp)
       ·rw [if_neg c7] at H;exact absurd H (by simp)
      ·rw [if_neg c6] at H;exact absurd H (by simp)
     ·replace c5:=Bool.eq_false_iff.mpr c5;subst c5;have H1:(some (decide ((l0.length:Int) < (l1.length:Int)))) = some r:=by rw [if_neg (show ¬ (false = true) by decide)] at H;exact H
      clear H;have H:=H1;clear H1;obtain rfl:=Option.some.inj H;go_wp2
      repeat (go_quiet (fail);try go_wp2)
      go_ret
      exact ⟨by first|rfl|(simp;done)|(simp [*];done),by repeat (first|exact Drawn0.refl _|apply Drawn0.step)⟩


/-! ### impl_areIn_1: function 144 -/
def impl_areIn_1.f (a0:Int) (a1:Int) (a2:Int):Option (Bool):=(impl_within.f a0 a1 a2).bind fun t284=>(some (!t284))
set_option maxHeartbeats 8000000 in
set_option maxRecDepth 100000 in
theorem impl_areIn_1.calls (a0:Int) (gc1:Nat) (a1:Int) (gc2:Nat) (a2:Int) (r:Bool) (w:World) (hb1:w.heap[gc1]? = some (.cells #[.int .i64 a1] 3 (0,0))) (hb2:w.heap[gc2]? = some (.cells #[.int .i64 a2] 3 (0,0))) (hn1_2:gc1 ≠ gc2) (h:impl_areIn_1.f a0 a1 a2 = some r) :
  Calls Try.prog 144 #[.int .i64 a0,.pointer (some ⟨gc1,0,none⟩),.pointer (some ⟨gc2,0,none⟩)] w fun e w'=>e = .returned (.bool r) ∧ Drawn0 w w':=by
 have BK1:=aM hb1;clear hb1;have BK2:=aM hb2;clear hb2;have NB1_2:=aM hn1_2;have NB2_1:=aM (Ne.symm hn1_2);clear hn1_2;have H:((impl_within.f a0 a1 a2).bind fun t284=>(some (!t284))) = some r:=h;clear h;replace H:=Option.bind_eq_some_iff.mp H;obtain ⟨t284,A40,H⟩:=H;replace H:(some (!t284)) = some r:=H;have A4:=aM A40;clear A40;obtain rfl:=Option.some.inj H;have hnb5:=NB1_2.out;have hnc5:=NB2_1.out;have hcz6_0:w.cell? ⟨gc1,0,none⟩ = some (.int .i64 a1):=(blk_cell BK1.out 0).trans rfl;have hfz6_0:=blk_frozen BK1.out 0;have hcz7_0:w.cell? ⟨gc2,0,none⟩ = some (.int .i64 a2):=(blk_cell BK2.out 0).trans rfl;have hfz7_0:=blk_frozen BK2.out 0;go_enter Try.func144,Try.ntmps144;go_wp2_with (first|((with_reducible refine gate_callee (f:=69) rfl ?_);refine goesL_ (some 8) rfl rfl Try.func69 kR rfl #[.int .i64 a0,.int .i64 a1,.int .i64 a2] rfl mq ?_;(with_reducible refine (impl_within.calls a0 a1 a2 t284 _ A4.out).mono ?_);rintro e w' ⟨rfl,⟨nd,rfl⟩⟩;refine ⟨_,rfl,?_⟩))
 go_ret
 exact ⟨by first|rfl|(simp;done)|(simp [*];done),by repeat (first|exact Drawn0.refl _|apply Drawn0.step)⟩
theorem impl_areIn_1.enters:∀ (args:Array Value) (w:World),(callFunc 144 args).run Try.prog w = .ok (.enter 144 args) w:=enters_of Try.func144 kR rfl


/-! ### impl_areIn: function 108 -/
def impl_areIn.f (k:Nat) (l0:List Int) (a1:Int) (a2:Int):Option (Bool):=(slices_ContainsFunc_int_int.f k l0 (fun y0_=>impl_areIn_1.f y0_ a1 a2)).bind fun t287=>(some (!t287))
theorem impl_areIn.mono:∀ a0 a1 a2 k,LeO (impl_areIn.f k a0 a1 a2) (impl_areIn.f (k + 1) a0 a1 a2):=by
 intro a0 a1 a2 k;unfold impl_areIn.f
 repeat' with_reducible first|exact slices_ContainsFunc_int_int.mono _ _ _|exact LeO.refl _|exact LeO.none _|refine LeO.trans (slices_ContainsFunc_int_int.mono _ _ _) (slices_ContainsFunc_int_int.mono_p (fun _=>?_) _ _)|refine LeO.ite ?_ ?_|refine LeO.bind ?_ (fun _=>?_)
set_option maxHeartbeats 8000000 in
set_option maxRecDepth 100000 in
theorem impl_areIn.calls (k:Nat) (A0:Option Addr) (c0:Nat) (l0:List Int) (a1:Int) (a2:Int) (r:Bool) (w:World) (hr0:Kd.C (Kd.int .i64) w A0 l0.length l0) (hc0:l0.length ≤ c0) (h:impl_areIn.f k l0 a1 a2 = some r) :
  Calls Try.prog 108 #[.slice A0 l0.length c0,.int .i64 a1,.int .i64 a2] w fun e w'=>e = .returned (.bool r) ∧ Below w.heap.size w w':=by
 have hmf:∀ (fn:Fn) (first cap:Array Value) (w:World),(Instr.makeFunc fn first cap).run Try.prog w = .ok (.func fn first cap) w:=fun _ _ _ _=>rfl
 have HR0:=aM hr0;have HC0:=aM hc0;clear hr0 hc0;have HB:=aM (Below.refl w.heap.size w);have H:((slices_ContainsFunc_int_int.f k l0 (fun y0_=>impl_areIn_1.f y0_ a1 a2)).bind fun t287=>(some (!t287))) = some r:=h;clear h;replace H:=Option.bind_eq_some_iff.mp H;obtain ⟨t287,A40,H⟩:=H;replace H:(some (!t287)) = some r:=H;have A4:=aM A40;clear A40;obtain rfl:=Option.some.inj H;go_enter Try.func108,Try.ntmps108;go_wp2_with (first|((with_reducible refine gate_dst (N:=4) rfl ?_);refine box_event ?hg (N:=4) ?hd (cs:=#[.int .i64 a1]) (t:=3) ?hr ?_;(case hd=>rfl);(case hg=>rfl);(case hr=>first|(go_simp;done)|(go_simp;rfl));intro gb285 hg w5 hbox hb;have n0_:=aM (below_step bw hb);have n1_:=aM (hbox);have n2_:=aM ((by rw [hg];exact (below_size bw):w.heap.size ≤ gb285));have n3_:=aM ((by rw [hg];exact (below_size bw):w.heap.size ≤ gb285));clear HB;have HB:=n0_;have BK285:=n1_;have GW285:=n2_;have GE285:=n3_;clear n0_ n1_ n2_ n3_;clear hb hbox hg)|((with_reducible refine gate_dst (N:=5) rfl ?_);refine box_event ?hg (N:=5) ?hd (cs:=#[.int .i64 a2]) (t:=3) ?hr ?_;(case hd=>rfl);(case hg=>rfl);(case hr=>first|(go_simp;done)|(go_simp;rfl));intro gb286 hg w6 hbox hb;have n0_:=aM (blk_below (g:=gb285) (o:=.cells #[.int .i64 a1] 3 (0,0)) bk hb);have n1_:=aM (below_step bw hb);have n2_:=aM (hbox);have n3_:=aM ((by rw [hg];exact (below_size bw):w.heap.size ≤ gb286));have n4_:=aM ((by rw [hg];exact (below_size bw):w.heap.size ≤ gb286));have n5_:=aM ((by rw [hg];exact Nat.ne_of_lt (blk_lt (g:=gb285) (o:=.cells #[.int .i64 a1] 3 (0,0)) bk):gb285 ≠ gb286));have n6_:=aM ((by rw [hg];exact Nat.ne_of_gt (blk_lt (g:=gb285) (o:=.cells #[.int .i64 a1] 3 (0,0)) bk):gb286 ≠ gb285));clear BK285;clear HB;have BK285:=n0_;have HB:=n1_;have BK286:=n2_;have GW286:=n3_;have GE286:=n4_;have NB285_286:=n5_;have NB286_285:=n6_;clear n0_ n1_ n2_ n3_ n4_ n5_ n6_;clear hb hbox hg)|((with_reducible refine gate_callee (f:=132) rfl ?_);refine goesL_ (some 9) rfl rfl Try.func132 kR rfl #[.slice A0 l0.length c0,.func (.func 144) #[] #[.pointer (some ⟨gb285,0,none⟩),.pointer (some ⟨gb286,0,none⟩)]] rfl mq ?_;(with_reducible refine (slices_ContainsFunc_int_int.calls k _ _ l0 (fun y0_=>impl_areIn_1.f y0_ a1 a2) 144 #[.pointer (some ⟨gb285,0,none⟩),.pointer (some ⟨gb286,0,none⟩)] impl_areIn_1.enters t287 _ ?side1 ?side2 ?side3 A4.out).mono ?_);(case side1=>exact qcs HR0.out HB.out);(case side2=>exact HC0.out);(case side3=>exact (fun W_ a0_ r0_ hx_ hb_ =>(impl_areIn_1.calls a0_ gb285 a1 gb286 a2 r0_ W_  (box_later bk hb_) (box_later bk hb_) NB285_286.out hx_).mono (fun _ _ h_=>⟨h_.1,h_.2.below⟩)));rintro e w7 ⟨rfl,hb⟩;refine ⟨_,rfl,?_⟩;have n0_:=aM (blk_below (g:=gb285) (o:=.cells #[.int .i64 a1] 3 (0,0)) bk hb);have n1_:=aM (blk_below (g:=gb286) (o:=.cells #[.int .i64 a2] 3 (0,0)) bk hb);have n2_:=aM (below_step bw hb);clear BK285;clear BK286;clear HB;have BK285:=n0_;have BK286:=n1_;have HB:=n2_;clear n0_ n1_ n2_;(try clear hb);(try clear hb2);(try clear hk);(try clear hi)))
 go_ret
 exact ⟨by first|rfl|(simp [errW_none,errW_some] <;> rfl)|(simp [*,errW_none,errW_some] <;> rfl),by exact bw⟩


/-! ### impl_sumOf: function 109 -/
def impl_sumOf.l0:Nat → Int → List Int → Int → Int → Option (Int)
 | 0,_,_,_,_=>none
 | k + 1,x3,x6,x7,x8=>if x8 < x7 then (if 0 ≤ x8 then (if x8 < (x6.length:Int) then (impl_sumOf.l0 k (wrap64 (x3 + (rd x6 x8))) x6 x7 (wrap64 (x8 + 1))) else (none)) else (none)) else (some x3)
def impl_sumOf.f (k:Nat) (l0:List Int):Option (Int):=impl_sumOf.l0 k 0 l0 (l0.length:Int) 0
theorem impl_sumOf.mono_l:∀ k,(∀ y0 y1 y2 y3,LeO (impl_sumOf.l0 k y0 y1 y2 y3) (impl_sumOf.l0 (k + 1) y0 y1 y2 y3))
 | 0=>fun _ _ _ _ r h=>by simp [impl_sumOf.l0] at h
 | k + 1=>by
  have ih0:=impl_sumOf.mono_l k
  ·intro y0 y1 y2 y3;unfold impl_sumOf.l0
   repeat' with_reducible first|exact ih0 _ _ _ _|exact LeO.refl _|exact LeO.none _|refine LeO.ite ?_ ?_|refine LeO.bind ?_ (fun _=>?_)
theorem impl_sumOf.mono:∀ a0 k,LeO (impl_sumOf.f k a0) (impl_sumOf.f (k + 1) a0):=by
 intro a0 k;have ih0:=impl_sumOf.mono_l k;unfold impl_sumOf.f
 repeat' with_reducible first|exact ih0 _ _ _ _|exact LeO.refl _|exact LeO.none _|refine LeO.ite ?_ ?_|refine LeO.bind ?_ (fun _=>?_)
set_option maxHeartbeats 8000000 in
set_option maxRecDepth 100000 in
theorem impl_sumOf.calls (k:Nat) (A0:Option Addr) (c0:Nat) (l0:List Int) (r:Int) (w:World) (hr0:Kd.C (Kd.int .i64) w A0 l0.length l0) (hc0:l0.length ≤ c0) (h:impl_sumOf.f k l0 = some r) :
  Calls Try.prog 109 #[.slice A0 l0.length c0] w fun e w'=>e = .returned (.int .i64 r) ∧ Drawn0 w w':=by
 have HR0:=aM hr0;have HC0:=aM hc0;clear hr0 hc0;have H:(impl_sumOf.l0 k 0 l0 (l0.length:Int) 0) = some r:=h;clear h;have H':=aM H;clear H;go_enter Try.func109,Try.ntmps109;go_wp2
 go_loopg [3,8] k (fun kq v3 v8 w'=>∃ (x3_1:Int) (x8_1:Int),v3 = .int .i64 x3_1 ∧ v8 = .int .i64 x8_1 ∧ Aside0 (impl_sumOf.l0 kq x3_1 l0 (l0.length:Int) x8_1 = some r) ∧ Aside0 (kq ≤ k) ∧ Drawn0 w w')
 case atStart=>exact ⟨(0),(0),qrs,qrs,H',⟨Nat.le_refl _⟩,by repeat (first|exact Drawn0.refl _|apply Drawn0.step)⟩
 case round =>
  clear H'
  try clear c1
  obtain ⟨x3_1,x8_1,rfl,rfl,HA,HK1,⟨m1,rfl⟩⟩:=hrel
  cases gk with
  | zero=>exact absurd HA.out (by simp [impl_sumOf.l0])
  | succ k1 =>
   have H:=HA.out;clear HA;simp only [impl_sumOf.l0] at H;by_cases c2:x8_1 < (l0.length:Int)
   ·rw [if_pos c2] at H;have c2b0:decide (x8_1 < (l0.length:Int)) = true:=decide_eq_true c2;clear c2;by_cases c3:0 ≤ x8_1
    ·rw [if_pos c3] at H;have c3b0:decide (0 ≤ x8_1) = true:=decide_eq_true c3;clear c3;by_cases c4:x8_1 < (l0.length:Int)
     ·rw [if_pos c4] at H;have c4b0:decide (x8_1 < (l0.length:Int)) = true:=decide_eq_true c4;clear c4;have H':=aM H;clear H;have p812:0 ≤ (x8_1:Int):=of_decide_eq_true ab;have q812:x8_1 < (l0.length:Int):=of_decide_eq_true ab;obtain ⟨ad812,e812,hx812_0⟩:=Kd.at_int HR0.out x8_1 p812 q812;cases e812
      replace p812:=eq_true p812;replace q812:=eq_true q812;go_wp2
      go_roundg k1
      case measure=>have:=HK1.out;omega
      case rel=>exact ⟨(wrap64 (x3_1 + (rd l0 x8_1))),(wrap64 (x8_1 + 1)),qrs,qrs,H',⟨by have:=HK1.out;omega⟩,by repeat (first|exact Drawn0.refl _|apply Drawn0.step)⟩
     ·rw [if_neg c4] at H;exact absurd H (by simp)
    ·rw [if_neg c3] at H;exact absurd H (by simp)
   ·rw [if_neg c2] at H;have c2b0:decide (x8_1 < (l0.length:Int)) = false:=decide_eq_false c2;clear c2;obtain rfl:=Option.some.inj H;go_wp2
    go_ret
    exact ⟨by first|rfl|(simp;done)|(simp [*];done),by repeat (first|exact Drawn0.refl _|apply Drawn0.step)⟩


/-! ### impl_IsCommittee: function 68 -/
def impl_IsCommittee.f (k:Nat) (a0_0:Int) (l0_1:List Int):Option (Bool):=if (l0_1.length:Int) ≥ 1 then (if (l0_1.length:Int) ≤ 9 then ((impl_areIn.f k l0_1 0 1000).bind fun t814=>(if t814 = true then ((impl_sumOf.f k l0_1).bind fun t815=>((impl_within.f a0_0 1 t815).bind fun t816=>(some t816))) else (some false))) else (some false)) else (some false)
theorem impl_IsCommittee.mono:∀ a0 a1 k,LeO (impl_IsCommittee.f k a0 a1) (impl_IsCommittee.f (k + 1) a0 a1):=by
 intro a0 a1 k;unfold impl_IsCommittee.f
 repeat' with_reducible first|exact impl_areIn.mono _ _ _ _|exact impl_sumOf.mono _ _|exact LeO.refl _|exact LeO.none _|refine LeO.ite ?_ ?_|refine LeO.bind ?_ (fun _=>?_)
def impl_IsCommittee.T1:Bool × List (List Nat × List Nat):=(true,[([],[]),([0],[0]),([1],[1]),([2],[2]),([3],[3]),([4],[4]),([5,4],[4,5]),([6,4],[4,6]),([7,4],[4,7]),([4,8],[4,8]),([9,4],[9]),([10],[10]),([11,10],[10,11]),([12,10,10],[10,12]),([10,13],[10,13]),([14,13],[14]),([15],[15]),([16,15],[15,16]),([15],[15]),([18,15],[15,18]),([19,15,15],[15,19]),([17,20,20,15],[15,17,20]),([15,21],[15,21]),([22,21,0,1,2,3,4,5,6,7,8,9,10,11,12,13,14,15,16,17,18,19,20,21,22],[22])])
def impl_IsCommittee.B1:List Nat:=[0,1,3,7,15,31,63,127,255,511,1023,2047,4095,8191,16383,32767,65535,131071,65535,327679,851967,2097151,4194303,8388607]
theorem impl_IsCommittee.tab1:rtab .any (opsOf Try.f68 1) = impl_IsCommittee.T1:=by kernel_rfl
theorem impl_IsCommittee.bits1:waitsOk impl_IsCommittee.T1.2 impl_IsCommittee.B1 = true:=by kernel_rfl
set_option maxHeartbeats 8000000 in
set_option maxRecDepth 100000 in
theorem impl_IsCommittee.calls (k:Nat) (a0_0:Int) (A0_1:Option Addr) (c0_1:Nat) (l0_1:List Int) (r:Bool) (w:World) (hr0_1:Kd.C (Kd.int .i64) w A0_1 l0_1.length l0_1) (hc0_1:l0_1.length ≤ c0_1) (h:impl_IsCommittee.f k a0_0 l0_1 = some r) :
  Calls Try.prog 68 #[.agg #[.int .i64 a0_0,.slice A0_1 l0_1.length c0_1]] w fun e w'=>e = .returned (.bool r) ∧ Below w.heap.size w w':=by
 have hu46:=Try.underlying46;have HR0_1:=aM hr0_1;have HC0_1:=aM hc0_1;clear hr0_1 hc0_1;have HB:=aM (Below.refl w.heap.size w);have H:(if (l0_1.length:Int) ≥ 1 then (if (l0_1.length:Int) ≤ 9 then ((impl_areIn.f k l0_1 0 1000).bind fun t814=>(if t814 = true then ((impl_sumOf.f k l0_1).bind fun t815=>((impl_within.f a0_0 1 t815).bind fun t816=>(some t816))) else (some false))) else (some false)) else (some false)) = some r:=h;clear h;by_cases c2:(l0_1.length:Int) ≥ 1
 ·rw [if_pos c2] at H;have c2b0:decide (1 ≤ (l0_1.length:Int)) = true:=decide_eq_true c2;have c2b1:decide (1 ≤ l0_1.length) = true:=decide_eq_true (by omega);clear c2;by_cases c3:(l0_1.length:Int) ≤ 9
  ·rw [if_pos c3] at H;have c3b0:decide ((l0_1.length:Int) ≤ 9) = true:=decide_eq_true c3;have c3b1:decide (l0_1.length ≤ 9) = true:=decide_eq_true (by omega);clear c3;replace H:=Option.bind_eq_some_iff.mp H;obtain ⟨t814,A40,H⟩:=H;replace H:(if t814 = true then ((impl_sumOf.f k l0_1).bind fun t815=>((impl_within.f a0_0 1 t815).bind fun t816=>(some t816))) else (some false)) = some r:=H;have A4:=aM A40;clear A40;by_cases c5:t814 = true
   ·subst c5;have H1:((impl_sumOf.f k l0_1).bind fun t815=>((impl_within.f a0_0 1 t815).bind fun t816=>(some t816))) = some r:=by rw [if_pos rfl] at H;exact H
    clear H;have H:=H1;clear H1;replace H:=Option.bind_eq_some_iff.mp H;obtain ⟨t815,A60,H⟩:=H;replace H:((impl_within.f a0_0 1 t815).bind fun t816=>(some t816)) = some r:=H;have A6:=aM A60;clear A60;replace H:=Option.bind_eq_some_iff.mp H;obtain ⟨t816,A70,H⟩:=H;replace H:(some t816) = some r:=H;have A7:=aM A70;clear A70;obtain rfl:=Option.some.inj H;go_enter Try.func68,Try.ntmps68
    try go_wp2_with (first|((with_reducible refine gate_dst (N:=1) rfl ?_);(try (refine gate_guard (by rfl) ?_;dsimp only));refine box_event ?hg (N:=1) ?hd (cs:=#[.int .i64 a0_0,.slice A0_1 l0_1.length c0_1]) (t:=46) ?hr ?_;(case hd=>rfl);(case hg=>rfl);(case hr=>first|(go_simp;done)|(go_simp;rfl));intro gb813 hg w8 hbox hb;have n0_:=aM (below_step bw hb);have n1_:=aM (hbox);have n2_:=aM ((by rw [hg];exact (below_size bw):w.heap.size ≤ gb813));have n3_:=aM ((by rw [hg];exact (below_size bw):w.heap.size ≤ gb813));clear HB;have HB:=n0_;have BK813:=n1_;have GW813:=n2_;have GE813:=n3_;clear n0_ n1_ n2_ n3_;clear hb hbox hg))
    have n0_:=aM (blk_drew BK813.out);have n1_:=aM (below_drew1 HB.out);clear BK813;clear HB;have BK813:=n0_;have HB:=n1_;clear n0_ n1_;refine start_ (n:=24) (S:=fun w'=>w'.cell? ⟨gb813,0,none⟩ = some (.int .i64 a0_0) ∧ w'.cell? ⟨gb813,1,none⟩ = some (.slice A0_1 l0_1.length c0_1)) (ds:=[]) (mA 24 0) kR rfl rfl ⟨(blk_cell BK813.out 0).trans rfl,(blk_cell BK813.out 1).trans rfl⟩ (fun hHeld=>?_);refine with_tabW impl_IsCommittee.tab1 impl_IsCommittee.bits1 (fun HT_ HW_=>?_)
    generalize w8.drew = w9 at BK813 HB hHeld ⊢
    refine pure_ (i:=0) (N:=some 3) (v:=?_) (a':=?_) (mA 24 1) rfl rfl (any_of HT_.out kR) (fun _ _ _ h=>h) (Or.inl ⟨by rfl,?_⟩) ?_ ?_;rotate_left
    ·intro w';go_simp
     with_reducible rfl
    rotate_left
    ·simp only [Act.put,sA,sZ,sS,i64_w,i32_w];rfl
    refine take_ (i:=1) (N:=some 4) (v:=?_) (a':=?_) (mA 24 3) rfl rfl (take_ofW HT_.out HW_.out kR) (fun _ _ _ h=>h) (Or.inl ⟨by rfl,?_⟩) hHeld ?_ ?_;rotate_left
    ·rintro w' ⟨s0,s1⟩
     go_simp
     with_reducible rfl
    rotate_left
    ·simp only [Act.put,sA,sZ,sS,i64_w,i32_w];rfl
    refine pure_ (i:=2) (N:=some 5) (v:=?_) (a':=?_) (mA 24 7) rfl rfl (any_of HT_.out kR) (fun _ _ _ h=>h) (Or.inl ⟨by rfl,?_⟩) ?_ ?_;rotate_left
    ·intro w';go_simp
     with_reducible rfl
    rotate_left
    ·simp only [Act.put,sA,sZ,sS,i64_w,i32_w];rfl
    refine pure_ (i:=3) (N:=some 6) (v:=?_) (a':=?_) (mA 24 15) rfl rfl (any_of HT_.out kR) (fun _ _ _ h=>h) (Or.inl ⟨by rfl,?_⟩) ?_ ?_;rotate_left
    ·intro w';go_simp
     with_reducible rfl
    rotate_left
    ·simp only [Act.put,sA,sZ,sS,i64_w,i32_w];rfl
    refine pure_ (i:=4) (N:=some 7) (v:=?_) (a':=?_) (mA 24 31) rfl rfl (any_of HT_.out kR) (fun _ _ _ h=>h) (Or.inl ⟨by rfl,?_⟩) ?_ ?_;rotate_left
    ·intro w';go_simp
     with_reducible rfl
    rotate_left
    ·simp only [Act.put,sA,sZ,sS,i64_w,i32_w];rfl
    refine pure_ (i:=5) (N:=some 8) (v:=?_) (a':=?_) (mA 24 63) rfl rfl (any_of HT_.out kR) (fun _ _ _ h=>h) (Or.inl ⟨by rfl,?_⟩) ?_ ?_;rotate_left
    ·intro w';go_simp
     with_reducible rfl
    rotate_left
    ·simp only [Act.put,sA,sZ,sS,i64_w,i32_w];rfl
    refine take_ (i:=6) (N:=some 9) (v:=?_) (a':=?_) (mA 24 127) rfl rfl (take_ofW HT_.out HW_.out kR) (fun _ _ _ h=>h) (Or.inl ⟨by rfl,?_⟩) hHeld ?_ ?_;rotate_left
    ·rintro w' ⟨s0,s1⟩
     go_simp
     with_reducible rfl
    rotate_left
    ·simp only [Act.put,sA,sZ,sS,i64_w,i32_w];rfl
    refine pure_ (i:=7) (N:=some 10) (v:=?_) (a':=?_) (mA 24 255) rfl rfl (any_of HT_.out kR) (fun _ _ _ h=>h) (Or.inl ⟨by rfl,?_⟩) ?_ ?_;rotate_left
    ·intro w';go_simp
     with_reducible rfl
    rotate_left
    ·simp only [Act.put,sA,sZ,sS,i64_w,i32_w];rfl
    refine pure_ (i:=8) (N:=some 11) (v:=?_) (a':=?_) (mA 24 511) rfl rfl (any_of HT_.out kR) (fun _ _ _ h=>h) (Or.inl ⟨by rfl,?_⟩) ?_ ?_;rotate_left
    ·intro w';go_simp
     with_reducible rfl
    rotate_left
    ·simp only [Act.put,sA,sZ,sS,i64_w,i32_w];rfl
    refine pure_ (i:=9) (N:=some 12) (v:=?_) (a':=?_) (mA 24 1023) rfl rfl (any_of HT_.out kR) (fun _ _ _ h=>h) (Or.inl ⟨by rfl,?_⟩) ?_ ?_;rotate_left
    ·intro w';go_simp
     with_reducible rfl
    rotate_left
    ·simp only [Act.put,sA,sZ,sS,i64_w,i32_w];rfl
    refine pure_ (i:=10) (N:=some 13) (v:=?_) (a':=?_) (mA 24 2047) rfl rfl (any_of HT_.out kR) (fun _ _ _ h=>h) (Or.inl ⟨by rfl,?_⟩) ?_ ?_;rotate_left
    ·intro w';go_simp
     with_reducible rfl
    rotate_left
    ·simp only [Act.put,sA,sZ,sS,i64_w,i32_w];rfl
    refine pure_ (i:=11) (N:=some 14) (v:=?_) (a':=?_) (mA 24 4095) rfl rfl (any_of HT_.out kR) (fun _ _ _ h=>h) (Or.inl ⟨by rfl,?_⟩) ?_ ?_;rotate_left
    ·intro w';go_simp
     with_reducible rfl
    rotate_left
    ·simp only [Act.put,sA,sZ,sS,i64_w,i32_w];rfl
    refine take_ (i:=12) (N:=some 15) (v:=?_) (a':=?_) (mA 24 8191) rfl rfl (take_ofW HT_.out HW_.out kR) (fun _ _ _ h=>h) (Or.inl ⟨by rfl,?_⟩) hHeld ?_ ?_;rotate_left
    ·rintro w' ⟨s0,s1⟩
     go_simp
     with_reducible rfl
    rotate_left
    ·simp only [Act.put,sA,sZ,sS,i64_w,i32_w];rfl
    refine one_ (i:=13) (N:=some 16) (mA 24 16383) rfl rfl (one_of HT_.out kR) (by decide) (fun K hK=>?_);refine goes_ Try.func108 kR rfl #[.slice A0_1 l0_1.length c0_1,.int .i64 0,.int .i64 1000] (by rfl) rfl rfl mq ?_
    with_reducible refine (impl_areIn.calls k _ _ l0_1 0 1000 true _ ?side1 ?side2 A4.out).mono ?_
    (case side1=>exact qcs HR0_1.out HB.out)
    (case side2=>exact HC0_1.out)
    rintro e w10 ⟨rfl,hb⟩
    refine ⟨_,rfl,?_⟩;have n0_:=aM (blk_below (g:=gb813) (o:=.cells #[.int .i64 a0_0,.slice A0_1 l0_1.length c0_1] 46 (0,0)) bk hb);have n1_:=aM (below_step bw hb);clear BK813;clear HB;have BK813:=n0_;have HB:=n1_;clear n0_ n1_;(try clear hb)
    (try clear hb2)
    (try clear hk)
    (try clear hi)
    refine hK.out _ _ ⟨(blk_cell BK813.out 0).trans rfl,(blk_cell BK813.out 1).trans rfl⟩ (fun hHeld=>?_);clear hK K;refine norm_ (a':=?_) ?_ ?_;rotate_left
    ·show Act.put _ (some 16) _ = _;simp only [Act.put,sA,sZ,sS,i64_w,i32_w];rfl
    refine pure_ (i:=14) (N:=some 17) (v:=?_) (a':=?_) (mA 24 32767) rfl rfl (any_of HT_.out kR) (fun _ _ _ h=>h) (Or.inl ⟨by rfl,?_⟩) ?_ ?_;rotate_left
    ·intro w';go_simp
     with_reducible rfl
    rotate_left
    ·simp only [Act.put,sA,sZ,sS,i64_w,i32_w];rfl
    refine pure_ (i:=15) (N:=some 18) (v:=?_) (a':=?_) (mA 24 65535) rfl rfl (any_of HT_.out kR) (fun _ _ _ h=>h) (Or.inl ⟨by rfl,?_⟩) ?_ ?_;rotate_left
    ·intro w';go_simp
     with_reducible rfl
    rotate_left
    ·simp only [Act.put,sA,sZ,sS,i64_w,i32_w];rfl
    refine pure_ (i:=16) (N:=some 19) (v:=?_) (a':=?_) (mA 24 131071) rfl rfl (any_of HT_.out kR) (fun _ _ _ h=>h) (Or.inl ⟨by rfl,?_⟩) ?_ ?_;rotate_left
    ·intro w';go_simp
     with_reducible rfl
    rotate_left
    ·simp only [Act.put,sA,sZ,sS,i64_w,i32_w];rfl
    refine pure_ (i:=18) (N:=some 21) (v:=?_) (a':=?_) (mA 24 393215) rfl rfl (any_of HT_.out kR) (fun _ _ _ h=>h) (Or.inl ⟨by rfl,?_⟩) ?_ ?_;rotate_left
    ·intro w';go_simp
     with_reducible rfl
    rotate_left
    ·simp only [Act.put,sA,sZ,sS,i64_w,i32_w];rfl
    refine take_ (i:=17) (N:=some 20) (v:=?_) (a':=?_) (mA 24 524287) rfl rfl (take_ofW HT_.out HW_.out kR) (fun _ _ _ h=>h) (Or.inl ⟨by rfl,?_⟩) hHeld ?_ ?_;rotate_left
    ·rintro w' ⟨s0,s1⟩
     go_simp
     with_reducible rfl
    rotate_left
    ·simp only [Act.put,sA,sZ,sS,i64_w,i32_w];rfl
    refine take_ (i:=19) (N:=some 22) (v:=?_) (a':=?_) (mA 24 1048575) rfl rfl (take_ofW HT_.out HW_.out kR) (fun _ _ _ h=>h) (Or.inl ⟨by rfl,?_⟩) hHeld ?_ ?_;rotate_left
    ·rintro w' ⟨s0,s1⟩
     go_simp
     with_reducible rfl
    rotate_left
    ·simp only [Act.put,sA,sZ,sS,i64_w,i32_w];rfl
    refine one_ (i:=20) (N:=some 23) (mA 24 2097151) rfl rfl (one_of HT_.out kR) (by decide) (fun K hK=>?_);refine goes_ Try.func109 kR rfl #[.slice A0_1 l0_1.length c0_1] (by rfl) rfl rfl mq ?_
    with_reducible refine (impl_sumOf.calls k _ _ l0_1 t815 _ ?side1 ?side2 A6.out).mono ?_
    (case side1=>exact qcs HR0_1.out HB.out)
    (case side2=>exact HC0_1.out)
    rintro e w' ⟨rfl,⟨nd,rfl⟩⟩
    refine ⟨_,rfl,?_⟩;refine hK.out _ _ ⟨(blk_cell BK813.out 0).trans rfl,(blk_cell BK813.out 1).trans rfl⟩ (fun hHeld=>?_);clear hK K;refine norm_ (a':=?_) ?_ ?_;rotate_left
    ·show Act.put _ (some 23) _ = _;simp only [Act.put,sA,sZ,sS,i64_w,i32_w];rfl
    refine one_ (i:=21) (N:=some 24) (mA 24 4194303) rfl rfl (one_of HT_.out kR) (by decide) (fun K hK=>?_);refine goes_ Try.func69 kR rfl #[.int .i64 a0_0,.int .i64 1,.int .i64 t815] (by rfl) rfl rfl mq ?_
    with_reducible refine (impl_within.calls a0_0 1 t815 t816 _ A7.out).mono ?_
    rintro e w' ⟨rfl,⟨nd,rfl⟩⟩
    refine ⟨_,rfl,?_⟩;refine hK.out _ _ ⟨(blk_cell BK813.out 0).trans rfl,(blk_cell BK813.out 1).trans rfl⟩ (fun hHeld=>?_);clear hK K;refine norm_ (a':=?_) ?_ ?_;rotate_left
    ·show Act.put _ (some 24) _ = _;simp only [Act.put,sA,sZ,sS,i64_w,i32_w];rfl
    refine pure_ (i:=22) (N:=some 25) (v:=?_) (a':=?_) (mA 24 8388607) rfl rfl (any_of HT_.out kR) (fun _ _ _ h=>h) (Or.inl ⟨by rfl,?_⟩) ?_ ?_;rotate_left
    ·intro w';go_simp
     with_reducible rfl
    rotate_left
    ·simp only [Act.put,sA,sZ,sS,i64_w,i32_w];rfl
    refine pure_ (i:=23) (N:=some 2) (v:=?_) (a':=?_) (mA 24 16777215) rfl rfl (any_of HT_.out kR) (fun _ _ _ h=>h) (Or.inl ⟨by rfl,?_⟩) ?_ ?_;rotate_left
    ·intro w';go_simp
     with_reducible rfl
    rotate_left
    ·simp only [Act.put,sA,sZ,sS,i64_w,i32_w];rfl
    refine done_ (done_of HT_.out kR) ?_
    try go_wp2
    go_ret
    exact ⟨by first|rfl|(simp [errW_none,errW_some] <;> rfl)|(simp [*,errW_none,errW_some] <;> rfl),by exact bw⟩
   ·replace c5:=Bool.eq_false_iff.mpr c5;subst c5;have H1:(some false) = some r:=by rw [if_neg (show ¬ (false = true) by decide)] at H;exact H
    clear H;have H:=H1;clear H1;obtain rfl:=Option.some.inj H;go_enter Try.func68,Try.ntmps68
    try go_wp2_with (first|((with_reducible refine gate_dst (N:=1) rfl ?_);(try (refine gate_guard (by rfl) ?_;dsimp only));refine box_event ?hg (N:=1) ?hd (cs:=#[.int .i64 a0_0,.slice A0_1 l0_1.length c0_1]) (t:=46) ?hr ?_;(case hd=>rfl);(case hg=>rfl);(case hr=>first|(go_simp;done)|(go_simp;rfl));intro gb813 hg w11 hbox hb;have n0_:=aM (below_step bw hb);have n1_:=aM (hbox);have n2_:=aM ((by rw [hg];exact (below_size bw):w.heap.size ≤ gb813));have n3_:=aM ((by rw [hg];exact (below_size bw):w.heap.size ≤ gb813));clear HB;have HB:=n0_;have BK813:=n1_;have GW813:=n2_;have GE813:=n3_;clear n0_ n1_ n2_ n3_;clear hb hbox hg))
    have n0_:=aM (blk_drew BK813.out);have n1_:=aM (below_drew1 HB.out);clear BK813;clear HB;have BK813:=n0_;have HB:=n1_;clear n0_ n1_;refine start_ (n:=24) (S:=fun w'=>w'.cell? ⟨gb813,0,none⟩ = some (.int .i64 a0_0) ∧ w'.cell? ⟨gb813,1,none⟩ = some (.slice A0_1 l0_1.length c0_1)) (ds:=[]) (mA 24 0) kR rfl rfl ⟨(blk_cell BK813.out 0).trans rfl,(blk_cell BK813.out 1).trans rfl⟩ (fun hHeld=>?_);refine with_tabW impl_IsCommittee.tab1 impl_IsCommittee.bits1 (fun HT_ HW_=>?_)
    generalize w11.drew = w12 at BK813 HB hHeld ⊢
    refine pure_ (i:=0) (N:=some 3) (v:=?_) (a':=?_) (mA 24 1) rfl rfl (any_of HT_.out kR) (fun _ _ _ h=>h) (Or.inl ⟨by rfl,?_⟩) ?_ ?_;rotate_left
    ·intro w';go_simp
     with_reducible rfl
    rotate_left
    ·simp only [Act.put,sA,sZ,sS,i64_w,i32_w];rfl
    refine take_ (i:=1) (N:=some 4) (v:=?_) (a':=?_) (mA 24 3) rfl rfl (take_ofW HT_.out HW_.out kR) (fun _ _ _ h=>h) (Or.inl ⟨by rfl,?_⟩) hHeld ?_ ?_;rotate_left
    ·rintro w' ⟨s0,s1⟩
     go_simp
     with_reducible rfl
    rotate_left
    ·simp only [Act.put,sA,sZ,sS,i64_w,i32_w];rfl
    refine pure_ (i:=2) (N:=some 5) (v:=?_) (a':=?_) (mA 24 7) rfl rfl (any_of HT_.out kR) (fun _ _ _ h=>h) (Or.inl ⟨by rfl,?_⟩) ?_ ?_;rotate_left
    ·intro w';go_simp
     with_reducible rfl
    rotate_left
    ·simp only [Act.put,sA,sZ,sS,i64_w,i32_w];rfl
    refine pure_ (i:=3) (N:=some 6) (v:=?_) (a':=?_) (mA 24 15) rfl rfl (any_of HT_.out kR) (fun _ _ _ h=>h) (Or.inl ⟨by rfl,?_⟩) ?_ ?_;rotate_left
    ·intro w';go_simp
     with_reducible rfl
    rotate_left
    ·simp only [Act.put,sA,sZ,sS,i64_w,i32_w];rfl
    refine pure_ (i:=4) (N:=some 7) (v:=?_) (a':=?_) (mA 24 31) rfl rfl (any_of HT_.out kR) (fun _ _ _ h=>h) (Or.inl ⟨by rfl,?_⟩) ?_ ?_;rotate_left
    ·intro w';go_simp
     with_reducible rfl
    rotate_left
    ·simp only [Act.put,sA,sZ,sS,i64_w,i32_w];rfl
    refine pure_ (i:=5) (N:=some 8) (v:=?_) (a':=?_) (mA 24 63) rfl rfl (any_of HT_.out kR) (fun _ _ _ h=>h) (Or.inl ⟨by rfl,?_⟩) ?_ ?_;rotate_left
    ·intro w';go_simp
     with_reducible rfl
    rotate_left
    ·simp only [Act.put,sA,sZ,sS,i64_w,i32_w];rfl
    refine take_ (i:=6) (N:=some 9) (v:=?_) (a':=?_) (mA 24 127) rfl rfl (take_ofW HT_.out HW_.out kR) (fun _ _ _ h=>h) (Or.inl ⟨by rfl,?_⟩) hHeld ?_ ?_;rotate_left
    ·rintro w' ⟨s0,s1⟩
     go_simp
     with_reducible rfl
    rotate_left
    ·simp only [Act.put,sA,sZ,sS,i64_w,i32_w];rfl
    refine pure_ (i:=7) (N:=some 10) (v:=?_) (a':=?_) (mA 24 255) rfl rfl (any_of HT_.out kR) (fun _ _ _ h=>h) (Or.inl ⟨by rfl,?_⟩) ?_ ?_;rotate_left
    ·intro w';go_simp
     with_reducible rfl
    rotate_left
    ·simp only [Act.put,sA,sZ,sS,i64_w,i32_w];rfl
    refine pure_ (i:=8) (N:=some 11) (v:=?_) (a':=?_) (mA 24 511) rfl rfl (any_of HT_.out kR) (fun _ _ _ h=>h) (Or.inl ⟨by rfl,?_⟩) ?_ ?_;rotate_left
    ·intro w';go_simp
     with_reducible rfl
    rotate_left
    ·simp only [Act.put,sA,sZ,sS,i64_w,i32_w];rfl
    refine pure_ (i:=9) (N:=some 12) (v:=?_) (a':=?_) (mA 24 1023) rfl rfl (any_of HT_.out kR) (fun _ _ _ h=>h) (Or.inl ⟨by rfl,?_⟩) ?_ ?_;rotate_left
    ·intro w';go_simp
     with_reducible rfl
    rotate_left
    ·simp only [Act.put,sA,sZ,sS,i64_w,i32_w];rfl
    refine pure_ (i:=10) (N:=some 13) (v:=?_) (a':=?_) (mA 24 2047) rfl rfl (any_of HT_.out kR) (fun _ _ _ h=>h) (Or.inl ⟨by rfl,?_⟩) ?_ ?_;rotate_left
    ·intro w';go_simp
     with_reducible rfl
    rotate_left
    ·simp only [Act.put,sA,sZ,sS,i64_w,i32_w];rfl
    refine pure_ (i:=11) (N:=some 14) (v:=?_) (a':=?_) (mA 24 4095) rfl rfl (any_of HT_.out kR) (fun _ _ _ h=>h) (Or.inl ⟨by rfl,?_⟩) ?_ ?_;rotate_left
    ·intro w';go_simp
     with_reducible rfl
    rotate_left
    ·simp only [Act.put,sA,sZ,sS,i64_w,i32_w];rfl
    refine take_ (i:=12) (N:=some 15) (v:=?_) (a':=?_) (mA 24 8191) rfl rfl (take_ofW HT_.out HW_.out kR) (fun _ _ _ h=>h) (Or.inl ⟨by rfl,?_⟩) hHeld ?_ ?_;rotate_left
    ·rintro w' ⟨s0,s1⟩
     go_simp
     with_reducible rfl
    rotate_left
    ·simp only [Act.put,sA,sZ,sS,i64_w,i32_w];rfl
    refine one_ (i:=13) (N:=some 16) (mA 24 16383) rfl rfl (one_of HT_.out kR) (by decide) (fun K hK=>?_);refine goes_ Try.func108 kR rfl #[.slice A0_1 l0_1.length c0_1,.int .i64 0,.int .i64 1000] (by rfl) rfl rfl mq ?_
    with_reducible refine (impl_areIn.calls k _ _ l0_1 0 1000 false _ ?side1 ?side2 A4.out).mono ?_
    (case side1=>exact qcs HR0_1.out HB.out)
    (case side2=>exact HC0_1.out)
    rintro e w13 ⟨rfl,hb⟩
    refine ⟨_,rfl,?_⟩;have n0_:=aM (blk_below (g:=gb813) (o:=.cells #[.int .i64 a0_0,.slice A0_1 l0_1.length c0_1] 46 (0,0)) bk hb);have n1_:=aM (below_step bw hb);clear BK813;clear HB;have BK813:=n0_;have HB:=n1_;clear n0_ n1_;(try clear hb)
    (try clear hb2)
    (try clear hk)
    (try clear hi)
    refine hK.out _ _ ⟨(blk_cell BK813.out 0).trans rfl,(blk_cell BK813.out 1).trans rfl⟩ (fun hHeld=>?_);clear hK K;refine norm_ (a':=?_) ?_ ?_;rotate_left
    ·show Act.put _ (some 16) _ = _;simp only [Act.put,sA,sZ,sS,i64_w,i32_w];rfl
    refine pure_ (i:=14) (N:=some 17) (v:=?_) (a':=?_) (mA 24 32767) rfl rfl (any_of HT_.out kR) (fun _ _ _ h=>h) (Or.inl ⟨by rfl,?_⟩) ?_ ?_;rotate_left
    ·intro w';go_simp
     with_reducible rfl
    rotate_left
    ·simp only [Act.put,sA,sZ,sS,i64_w,i32_w];rfl
    refine pure_ (i:=15) (N:=some 18) (v:=?_) (a':=?_) (mA 24 65535) rfl rfl (any_of HT_.out kR) (fun _ _ _ h=>h) (Or.inl ⟨by rfl,?_⟩) ?_ ?_;rotate_left
    ·intro w';go_simp
     with_reducible rfl
    rotate_left
    ·simp only [Act.put,sA,sZ,sS,i64_w,i32_w];rfl
    refine pure_ (i:=16) (N:=some 19) (v:=undef) (a':=?_) (mA 24 131071) rfl rfl (any_of HT_.out kR) (fun _ _ _ h=>h) (Or.inr ⟨by rfl,rfl⟩) ?_ ?_;rotate_left
    ·simp only [Act.put,sA,sZ,sS,i64_w,i32_w];rfl
    refine pure_ (i:=17) (N:=some 20) (v:=undef) (a':=?_) (mA 24 262143) rfl rfl (any_of HT_.out kR) (fun _ _ _ h=>h) (Or.inr ⟨by rfl,rfl⟩) ?_ ?_;rotate_left
    ·simp only [Act.put,sA,sZ,sS,i64_w,i32_w];rfl
    refine pure_ (i:=18) (N:=some 21) (v:=undef) (a':=?_) (mA 24 524287) rfl rfl (any_of HT_.out kR) (fun _ _ _ h=>h) (Or.inr ⟨by rfl,rfl⟩) ?_ ?_;rotate_left
    ·simp only [Act.put,sA,sZ,sS,i64_w,i32_w];rfl
    refine pure_ (i:=19) (N:=some 22) (v:=undef) (a':=?_) (mA 24 1048575) rfl rfl (any_of HT_.out kR) (fun _ _ _ h=>h) (Or.inr ⟨by rfl,rfl⟩) ?_ ?_;rotate_left
    ·simp only [Act.put,sA,sZ,sS,i64_w,i32_w];rfl
    refine pure_ (i:=20) (N:=some 23) (v:=undef) (a':=?_) (mA 24 2097151) rfl rfl (any_of HT_.out kR) (fun _ _ _ h=>h) (Or.inr ⟨by rfl,rfl⟩) ?_ ?_;rotate_left
    ·simp only [Act.put,sA,sZ,sS,i64_w,i32_w];rfl
    refine pure_ (i:=21) (N:=some 24) (v:=undef) (a':=?_) (mA 24 4194303) rfl rfl (any_of HT_.out kR) (fun _ _ _ h=>h) (Or.inr ⟨by rfl,rfl⟩) ?_ ?_;rotate_left
    ·simp only [Act.put,sA,sZ,sS,i64_w,i32_w];rfl
    refine pure_ (i:=22) (N:=some 25) (v:=?_) (a':=?_) (mA 24 8388607) rfl rfl (any_of HT_.out kR) (fun _ _ _ h=>h) (Or.inl ⟨by rfl,?_⟩) ?_ ?_;rotate_left
    ·intro w';go_simp
     with_reducible rfl
    rotate_left
    ·simp only [Act.put,sA,sZ,sS,i64_w,i32_w];rfl
    refine pure_ (i:=23) (N:=some 2) (v:=?_) (a':=?_) (mA 24 16777215) rfl rfl (any_of HT_.out kR) (fun _ _ _ h=>h) (Or.inl ⟨by rfl,?_⟩) ?_ ?_;rotate_left
    ·intro w';go_simp
     with_reducible rfl
    rotate_left
    ·simp only [Act.put,sA,sZ,sS,i64_w,i32_w];rfl
    refine done_ (done_of HT_.out kR) ?_
    try go_wp2
    go_ret
    exact ⟨by first|rfl|(simp [errW_none,errW_some] <;> rfl)|(simp [*,errW_none,errW_some] <;> rfl),by exact bw⟩
  ·rw [if_neg c3] at H;have c3b0:decide ((l0_1.length:Int) ≤ 9) = false:=decide_eq_false c3;have c3b1:decide (l0_1.length ≤ 9) = false:=decide_eq_false (by omega);clear c3;obtain rfl:=Option.some.inj H;go_enter Try.func68,Try.ntmps68
   try go_wp2_with (first|((with_reducible refine gate_dst (N:=1) rfl ?_);(try (refine gate_guard (by rfl) ?_;dsimp only));refine box_event ?hg (N:=1) ?hd (cs:=#[.int .i64 a0_0,.slice A0_1 l0_1.length c0_1]) (t:=46) ?hr ?_;(case hd=>rfl);(case hg=>rfl);(case hr=>first|(go_simp;done)|(go_simp;rfl));intro gb813 hg w14 hbox hb;have n0_:=aM (below_step bw hb);have n1_:=aM (hbox);have n2_:=aM ((by rw [hg];exact (below_size bw):w.heap.size ≤ gb813));have n3_:=aM ((by rw [hg];exact (below_size bw):w.heap.size ≤ gb813));clear HB;have HB:=n0_;have BK813:=n1_;have GW813:=n2_;have GE813:=n3_;clear n0_ n1_ n2_ n3_;clear hb hbox hg))
   have n0_:=aM (blk_drew BK813.out);have n1_:=aM (below_drew1 HB.out);clear BK813;clear HB;have BK813:=n0_;have HB:=n1_;clear n0_ n1_;refine start_ (n:=24) (S:=fun w'=>w'.cell? ⟨gb813,0,none⟩ = some (.int .i64 a0_0) ∧ w'.cell? ⟨gb813,1,none⟩ = some (.slice A0_1 l0_1.length c0_1)) (ds:=[]) (mA 24 0) kR rfl rfl ⟨(blk_cell BK813.out 0).trans rfl,(blk_cell BK813.out 1).trans rfl⟩ (fun hHeld=>?_);refine with_tabW impl_IsCommittee.tab1 impl_IsCommittee.bits1 (fun HT_ HW_=>?_)
   generalize w14.drew = w15 at BK813 HB hHeld ⊢
   refine pure_ (i:=0) (N:=some 3) (v:=?_) (a':=?_) (mA 24 1) rfl rfl (any_of HT_.out kR) (fun _ _ _ h=>h) (Or.inl ⟨by rfl,?_⟩) ?_ ?_;rotate_left
   ·intro w';go_simp
    with_reducible rfl
   rotate_left
   ·simp only [Act.put,sA,sZ,sS,i64_w,i32_w];rfl
   refine take_ (i:=1) (N:=some 4) (v:=?_) (a':=?_) (mA 24 3) rfl rfl (take_ofW HT_.out HW_.out kR) (fun _ _ _ h=>h) (Or.inl ⟨by rfl,?_⟩) hHeld ?_ ?_;rotate_left
   ·rintro w' ⟨s0,s1⟩
    go_simp
    with_reducible rfl
   rotate_left
   ·simp only [Act.put,sA,sZ,sS,i64_w,i32_w];rfl
   refine pure_ (i:=2) (N:=some 5) (v:=?_) (a':=?_) (mA 24 7) rfl rfl (any_of HT_.out kR) (fun _ _ _ h=>h) (Or.inl ⟨by rfl,?_⟩) ?_ ?_;rotate_left
   ·intro w';go_simp
    with_reducible rfl
   rotate_left
   ·simp only [Act.put,sA,sZ,sS,i64_w,i32_w];rfl
   refine pure_ (i:=3) (N:=some 6) (v:=?_) (a':=?_) (mA 24 15) rfl rfl (any_of HT_.out kR) (fun _ _ _ h=>h) (Or.inl ⟨by rfl,?_⟩) ?_ ?_;rotate_left
   ·intro w';go_simp
    with_reducible rfl
   rotate_left
   ·simp only [Act.put,sA,sZ,sS,i64_w,i32_w];rfl
   refine pure_ (i:=4) (N:=some 7) (v:=?_) (a':=?_) (mA 24 31) rfl rfl (any_of HT_.out kR) (fun _ _ _ h=>h) (Or.inl ⟨by rfl,?_⟩) ?_ ?_;rotate_left
   ·intro w';go_simp
    with_reducible rfl
   rotate_left
   ·simp only [Act.put,sA,sZ,sS,i64_w,i32_w];rfl
   refine pure_ (i:=5) (N:=some 8) (v:=?_) (a':=?_) (mA 24 63) rfl rfl (any_of HT_.out kR) (fun _ _ _ h=>h) (Or.inl ⟨by rfl,?_⟩) ?_ ?_;rotate_left
   ·intro w';go_simp
    with_reducible rfl
   rotate_left
   ·simp only [Act.put,sA,sZ,sS,i64_w,i32_w];rfl
   refine take_ (i:=6) (N:=some 9) (v:=?_) (a':=?_) (mA 24 127) rfl rfl (take_ofW HT_.out HW_.out kR) (fun _ _ _ h=>h) (Or.inl ⟨by rfl,?_⟩) hHeld ?_ ?_;rotate_left
   ·rintro w' ⟨s0,s1⟩
    go_simp
    with_reducible rfl
   rotate_left
   ·simp only [Act.put,sA,sZ,sS,i64_w,i32_w];rfl
   refine pure_ (i:=7) (N:=some 10) (v:=?_) (a':=?_) (mA 24 255) rfl rfl (any_of HT_.out kR) (fun _ _ _ h=>h) (Or.inl ⟨by rfl,?_⟩) ?_ ?_;rotate_left
   ·intro w';go_simp
    with_reducible rfl
   rotate_left
   ·simp only [Act.put,sA,sZ,sS,i64_w,i32_w];rfl
   refine pure_ (i:=8) (N:=some 11) (v:=?_) (a':=?_) (mA 24 511) rfl rfl (any_of HT_.out kR) (fun _ _ _ h=>h) (Or.inl ⟨by rfl,?_⟩) ?_ ?_;rotate_left
   ·intro w';go_simp
    with_reducible rfl
   rotate_left
   ·simp only [Act.put,sA,sZ,sS,i64_w,i32_w];rfl
   refine pure_ (i:=9) (N:=some 12) (v:=?_) (a':=?_) (mA 24 1023) rfl rfl (any_of HT_.out kR) (fun _ _ _ h=>h) (Or.inl ⟨by rfl,?_⟩) ?_ ?_;rotate_left
   ·intro w';go_simp
    with_reducible rfl
   rotate_left
   ·simp only [Act.put,sA,sZ,sS,i64_w,i32_w];rfl
   refine pure_ (i:=10) (N:=some 13) (v:=?_) (a':=?_) (mA 24 2047) rfl rfl (any_of HT_.out kR) (fun _ _ _ h=>h) (Or.inl ⟨by rfl,?_⟩) ?_ ?_;rotate_left
   ·intro w';go_simp
    with_reducible rfl
   rotate_left
   ·simp only [Act.put,sA,sZ,sS,i64_w,i32_w];rfl
   refine pure_ (i:=11) (N:=some 14) (v:=undef) (a':=?_) (mA 24 4095) rfl rfl (any_of HT_.out kR) (fun _ _ _ h=>h) (Or.inr ⟨by rfl,rfl⟩) ?_ ?_;rotate_left
   ·simp only [Act.put,sA,sZ,sS,i64_w,i32_w];rfl
   refine pure_ (i:=12) (N:=some 15) (v:=undef) (a':=?_) (mA 24 8191) rfl rfl (any_of HT_.out kR) (fun _ _ _ h=>h) (Or.inr ⟨by rfl,rfl⟩) ?_ ?_;rotate_left
   ·simp only [Act.put,sA,sZ,sS,i64_w,i32_w];rfl
   refine pure_ (i:=13) (N:=some 16) (v:=undef) (a':=?_) (mA 24 16383) rfl rfl (any_of HT_.out kR) (fun _ _ _ h=>h) (Or.inr ⟨by rfl,rfl⟩) ?_ ?_;rotate_left
   ·simp only [Act.put,sA,sZ,sS,i64_w,i32_w];rfl
   refine pure_ (i:=14) (N:=some 17) (v:=?_) (a':=?_) (mA 24 32767) rfl rfl (any_of HT_.out kR) (fun _ _ _ h=>h) (Or.inl ⟨by rfl,?_⟩) ?_ ?_;rotate_left
   ·intro w';go_simp
    with_reducible rfl
   rotate_left
   ·simp only [Act.put,sA,sZ,sS,i64_w,i32_w];rfl
   refine pure_ (i:=15) (N:=some 18) (v:=?_) (a':=?_) (mA 24 65535) rfl rfl (any_of HT_.out kR) (fun _ _ _ h=>h) (Or.inl ⟨by rfl,?_⟩) ?_ ?_;rotate_left
   ·intro w';go_simp
    with_reducible rfl
   rotate_left
   ·simp only [Act.put,sA,sZ,sS,i64_w,i32_w];rfl
   refine pure_ (i:=16) (N:=some 19) (v:=undef) (a':=?_) (mA 24 131071) rfl rfl (any_of HT_.out kR) (fun _ _ _ h=>h) (Or.inr ⟨by rfl,rfl⟩) ?_ ?_;rotate_left
   ·simp only [Act.put,sA,sZ,sS,i64_w,i32_w];rfl
   refine pure_ (i:=17) (N:=some 20) (v:=undef) (a':=?_) (mA 24 262143) rfl rfl (any_of HT_.out kR) (fun _ _ _ h=>h) (Or.inr ⟨by rfl,rfl⟩) ?_ ?_;rotate_left
   ·simp only [Act.put,sA,sZ,sS,i64_w,i32_w];rfl
   refine pure_ (i:=18) (N:=some 21) (v:=undef) (a':=?_) (mA 24 524287) rfl rfl (any_of HT_.out kR) (fun _ _ _ h=>h) (Or.inr ⟨by rfl,rfl⟩) ?_ ?_;rotate_left
   ·simp only [Act.put,sA,sZ,sS,i64_w,i32_w];rfl
   refine pure_ (i:=19) (N:=some 22) (v:=undef) (a':=?_) (mA 24 1048575) rfl rfl (any_of HT_.out kR) (fun _ _ _ h=>h) (Or.inr ⟨by rfl,rfl⟩) ?_ ?_;rotate_left
   ·simp only [Act.put,sA,sZ,sS,i64_w,i32_w];rfl
   refine pure_ (i:=20) (N:=some 23) (v:=undef) (a':=?_) (mA 24 2097151) rfl rfl (any_of HT_.out kR) (fun _ _ _ h=>h) (Or.inr ⟨by rfl,rfl⟩) ?_ ?_;rotate_left
   ·simp only [Act.put,sA,sZ,sS,i64_w,i32_w];rfl
   refine pure_ (i:=21) (N:=some 24) (v:=undef) (a':=?_) (mA 24 4194303) rfl rfl (any_of HT_.out kR) (fun _ _ _ h=>h) (Or.inr ⟨by rfl,rfl⟩) ?_ ?_;rotate_left
   ·simp only [Act.put,sA,sZ,sS,i64_w,i32_w];rfl
   refine pure_ (i:=22) (N:=some 25) (v:=?_) (a':=?_) (mA 24 8388607) rfl rfl (any_of HT_.out kR) (fun _ _ _ h=>h) (Or.inl ⟨by rfl,?_⟩) ?_ ?_;rotate_left
   ·intro w';go_simp
    with_reducible rfl
   rotate_left
   ·simp only [Act.put,sA,sZ,sS,i64_w,i32_w];rfl
   refine pure_ (i:=23) (N:=some 2) (v:=?_) (a':=?_) (mA 24 16777215) rfl rfl (any_of HT_.out kR) (fun _ _ _ h=>h) (Or.inl ⟨by rfl,?_⟩) ?_ ?_;rotate_left
   ·intro w';go_simp
    with_reducible rfl
   rotate_left
   ·simp only [Act.put,sA,sZ,sS,i64_w,i32_w];rfl
   refine done_ (done_of HT_.out kR) ?_
   try go_wp2
   go_ret
   exact ⟨by first|rfl|(simp [errW_none,errW_some] <;> rfl)|(simp [*,errW_none,errW_some] <;> rfl),by exact bw⟩
 ·rw [if_neg c2] at H;have c2b0:decide (1 ≤ (l0_1.length:Int)) = false:=decide_eq_false c2;have c2b1:decide (1 ≤ l0_1.length) = false:=decide_eq_false (by omega);clear c2;obtain rfl:=Option.some.inj H;go_enter Try.func68,Try.ntmps68
  try go_wp2_with (first|((with_reducible refine gate_dst (N:=1) rfl ?_);(try (refine gate_guard (by rfl) ?_;dsimp only));refine box_event ?hg (N:=1) ?hd (cs:=#[.int .i64 a0_0,.slice A0_1 l0_1.length c0_1]) (t:=46) ?hr ?_;(case hd=>rfl);(case hg=>rfl);(case hr=>first|(go_simp;done)|(go_simp;rfl));intro gb813 hg w16 hbox hb;have n0_:=aM (below_step bw hb);have n1_:=aM (hbox);have n2_:=aM ((by rw [hg];exact (below_size bw):w.heap.size ≤ gb813));have n3_:=aM ((by rw [hg];exact (below_size bw):w.heap.size ≤ gb813));clear HB;have HB:=n0_;have BK813:=n1_;have GW813:=n2_;have GE813:=n3_;clear n0_ n1_ n2_ n3_;clear hb hbox hg))
  have n0_:=aM (blk_drew BK813.out);have n1_:=aM (below_drew1 HB.out);clear BK813;clear HB;have BK813:=n0_;have HB:=n1_;clear n0_ n1_;refine start_ (n:=24) (S:=fun w'=>w'.cell? ⟨gb813,0,none⟩ = some (.int .i64 a0_0) ∧ w'.cell? ⟨gb813,1,none⟩ = some (.slice A0_1 l0_1.length c0_1)) (ds:=[]) (mA 24 0) kR rfl rfl ⟨(blk_cell BK813.out 0).trans rfl,(blk_cell BK813.out 1).trans rfl⟩ (fun hHeld=>?_);refine with_tabW impl_IsCommittee.tab1 impl_IsCommittee.bits1 (fun HT_ HW_=>?_)
  generalize w16.drew = w17 at BK813 HB hHeld ⊢
  refine pure_ (i:=0) (N:=some 3) (v:=?_) (a':=?_) (mA 24 1) rfl rfl (any_of HT_.out kR) (fun _ _ _ h=>h) (Or.inl ⟨by rfl,?_⟩) ?_ ?_;rotate_left
  ·intro w';go_simp
   with_reducible rfl
  rotate_left
  ·simp only [Act.put,sA,sZ,sS,i64_w,i32_w];rfl
  refine take_ (i:=1) (N:=some 4) (v:=?_) (a':=?_) (mA 24 3) rfl rfl (take_ofW HT_.out HW_.out kR) (fun _ _ _ h=>h) (Or.inl ⟨by rfl,?_⟩) hHeld ?_ ?_;rotate_left
  ·rintro w' ⟨s0,s1⟩
   go_simp
   with_reducible rfl
  rotate_left
  ·simp only [Act.put,sA,sZ,sS,i64_w,i32_w];rfl
  refine pure_ (i:=2) (N:=some 5) (v:=?_) (a':=?_) (mA 24 7) rfl rfl (any_of HT_.out kR) (fun _ _ _ h=>h) (Or.inl ⟨by rfl,?_⟩) ?_ ?_;rotate_left
  ·intro w';go_simp
   with_reducible rfl
  rotate_left
  ·simp only [Act.put,sA,sZ,sS,i64_w,i32_w];rfl
  refine pure_ (i:=3) (N:=some 6) (v:=?_) (a':=?_) (mA 24 15) rfl rfl (any_of HT_.out kR) (fun _ _ _ h=>h) (Or.inl ⟨by rfl,?_⟩) ?_ ?_;rotate_left
  ·intro w';go_simp
   with_reducible rfl
  rotate_left
  ·simp only [Act.put,sA,sZ,sS,i64_w,i32_w];rfl
  refine pure_ (i:=4) (N:=some 7) (v:=?_) (a':=?_) (mA 24 31) rfl rfl (any_of HT_.out kR) (fun _ _ _ h=>h) (Or.inl ⟨by rfl,?_⟩) ?_ ?_;rotate_left
  ·intro w';go_simp
   with_reducible rfl
  rotate_left
  ·simp only [Act.put,sA,sZ,sS,i64_w,i32_w];rfl
  refine pure_ (i:=5) (N:=some 8) (v:=undef) (a':=?_) (mA 24 63) rfl rfl (any_of HT_.out kR) (fun _ _ _ h=>h) (Or.inr ⟨by rfl,rfl⟩) ?_ ?_;rotate_left
  ·simp only [Act.put,sA,sZ,sS,i64_w,i32_w];rfl
  refine pure_ (i:=6) (N:=some 9) (v:=undef) (a':=?_) (mA 24 127) rfl rfl (any_of HT_.out kR) (fun _ _ _ h=>h) (Or.inr ⟨by rfl,rfl⟩) ?_ ?_;rotate_left
  ·simp only [Act.put,sA,sZ,sS,i64_w,i32_w];rfl
  refine pure_ (i:=7) (N:=some 10) (v:=undef) (a':=?_) (mA 24 255) rfl rfl (any_of HT_.out kR) (fun _ _ _ h=>h) (Or.inr ⟨by rfl,rfl⟩) ?_ ?_;rotate_left
  ·simp only [Act.put,sA,sZ,sS,i64_w,i32_w];rfl
  refine pure_ (i:=8) (N:=some 11) (v:=undef) (a':=?_) (mA 24 511) rfl rfl (any_of HT_.out kR) (fun _ _ _ h=>h) (Or.inr ⟨by rfl,rfl⟩) ?_ ?_;rotate_left
  ·simp only [Act.put,sA,sZ,sS,i64_w,i32_w];rfl
  refine pure_ (i:=9) (N:=some 12) (v:=?_) (a':=?_) (mA 24 1023) rfl rfl (any_of HT_.out kR) (fun _ _ _ h=>h) (Or.inl ⟨by rfl,?_⟩) ?_ ?_;rotate_left
  ·intro w';go_simp
   with_reducible rfl
  rotate_left
  ·simp only [Act.put,sA,sZ,sS,i64_w,i32_w];rfl
  refine pure_ (i:=10) (N:=some 13) (v:=?_) (a':=?_) (mA 24 2047) rfl rfl (any_of HT_.out kR) (fun _ _ _ h=>h) (Or.inl ⟨by rfl,?_⟩) ?_ ?_;rotate_left
  ·intro w';go_simp
   with_reducible rfl
  rotate_left
  ·simp only [Act.put,sA,sZ,sS,i64_w,i32_w];rfl
  refine pure_ (i:=11) (N:=some 14) (v:=undef) (a':=?_) (mA 24 4095) rfl rfl (any_of HT_.out kR) (fun _ _ _ h=>h) (Or.inr ⟨by rfl,rfl⟩) ?_ ?_;rotate_left
  ·simp only [Act.put,sA,sZ,sS,i64_w,i32_w];rfl
  refine pure_ (i:=12) (N:=some 15) (v:=undef) (a':=?_) (mA 24 8191) rfl rfl (any_of HT_.out kR) (fun _ _ _ h=>h) (Or.inr ⟨by rfl,rfl⟩) ?_ ?_;rotate_left
  ·simp only [Act.put,sA,sZ,sS,i64_w,i32_w];rfl
  refine pure_ (i:=13) (N:=some 16) (v:=undef) (a':=?_) (mA 24 16383) rfl rfl (any_of HT_.out kR) (fun _ _ _ h=>h) (Or.inr ⟨by rfl,rfl⟩) ?_ ?_;rotate_left
  ·simp only [Act.put,sA,sZ,sS,i64_w,i32_w];rfl
  refine pure_ (i:=14) (N:=some 17) (v:=?_) (a':=?_) (mA 24 32767) rfl rfl (any_of HT_.out kR) (fun _ _ _ h=>h) (Or.inl ⟨by rfl,?_⟩) ?_ ?_;rotate_left
  ·intro w';go_simp
   with_reducible rfl
  rotate_left
  ·simp only [Act.put,sA,sZ,sS,i64_w,i32_w];rfl
  refine pure_ (i:=15) (N:=some 18) (v:=?_) (a':=?_) (mA 24 65535) rfl rfl (any_of HT_.out kR) (fun _ _ _ h=>h) (Or.inl ⟨by rfl,?_⟩) ?_ ?_;rotate_left
  ·intro w';go_simp
   with_reducible rfl
  rotate_left
  ·simp only [Act.put,sA,sZ,sS,i64_w,i32_w];rfl
  refine pure_ (i:=16) (N:=some 19) (v:=undef) (a':=?_) (mA 24 131071) rfl rfl (any_of HT_.out kR) (fun _ _ _ h=>h) (Or.inr ⟨by rfl,rfl⟩) ?_ ?_;rotate_left
  ·simp only [Act.put,sA,sZ,sS,i64_w,i32_w];rfl
  refine pure_ (i:=17) (N:=some 20) (v:=undef) (a':=?_) (mA 24 262143) rfl rfl (any_of HT_.out kR) (fun _ _ _ h=>h) (Or.inr ⟨by rfl,rfl⟩) ?_ ?_;rotate_left
  ·simp only [Act.put,sA,sZ,sS,i64_w,i32_w];rfl
  refine pure_ (i:=18) (N:=some 21) (v:=undef) (a':=?_) (mA 24 524287) rfl rfl (any_of HT_.out kR) (fun _ _ _ h=>h) (Or.inr ⟨by rfl,rfl⟩) ?_ ?_;rotate_left
  ·simp only [Act.put,sA,sZ,sS,i64_w,i32_w];rfl
  refine pure_ (i:=19) (N:=some 22) (v:=undef) (a':=?_) (mA 24 1048575) rfl rfl (any_of HT_.out kR) (fun _ _ _ h=>h) (Or.inr ⟨by rfl,rfl⟩) ?_ ?_;rotate_left
  ·simp only [Act.put,sA,sZ,sS,i64_w,i32_w];rfl
  refine pure_ (i:=20) (N:=some 23) (v:=undef) (a':=?_) (mA 24 2097151) rfl rfl (any_of HT_.out kR) (fun _ _ _ h=>h) (Or.inr ⟨by rfl,rfl⟩) ?_ ?_;rotate_left
  ·simp only [Act.put,sA,sZ,sS,i64_w,i32_w];rfl
  refine pure_ (i:=21) (N:=some 24) (v:=undef) (a':=?_) (mA 24 4194303) rfl rfl (any_of HT_.out kR) (fun _ _ _ h=>h) (Or.inr ⟨by rfl,rfl⟩) ?_ ?_;rotate_left
  ·simp only [Act.put,sA,sZ,sS,i64_w,i32_w];rfl
  refine pure_ (i:=22) (N:=some 25) (v:=?_) (a':=?_) (mA 24 8388607) rfl rfl (any_of HT_.out kR) (fun _ _ _ h=>h) (Or.inl ⟨by rfl,?_⟩) ?_ ?_;rotate_left
  ·intro w';go_simp
   with_reducible rfl
  rotate_left
  ·simp only [Act.put,sA,sZ,sS,i64_w,i32_w];rfl
  refine pure_ (i:=23) (N:=some 2) (v:=?_) (a':=?_) (mA 24 16777215) rfl rfl (any_of HT_.out kR) (fun _ _ _ h=>h) (Or.inl ⟨by rfl,?_⟩) ?_ ?_;rotate_left
  ·intro w';go_simp
   with_reducible rfl
  rotate_left
  ·simp only [Act.put,sA,sZ,sS,i64_w,i32_w];rfl
  refine done_ (done_of HT_.out kR) ?_
  try go_wp2
  go_ret
  exact ⟨by first|rfl|(simp [errW_none,errW_some] <;> rfl)|(simp [*,errW_none,errW_some] <;> rfl),by exact bw⟩


/-! ### spec_l1All: function 103 -/
def spec_l1All.l0:Nat → Int → Int → List Int → Int → Int → Option (Bool)
 | 0,_,_,_,_,_=>none
 | k + 1,x1,x2,x9,x10,x11=>if x11 < x10 then (if 0 ≤ x11 then (if x11 < (x9.length:Int) then ((spec_l1In.f (rd x9 x11) x1 x2).bind fun t755=>(if t755 = true then (spec_l1All.l0 k x1 x2 x9 x10 (wrap64 (x11 + 1))) else (some false))) else (none)) else (none)) else (some true)
def spec_l1All.f (k:Nat) (l0:List Int) (a1:Int) (a2:Int):Option (Bool):=spec_l1All.l0 k a1 a2 l0 (l0.length:Int) 0
theorem spec_l1All.mono_l:∀ k,(∀ y0 y1 y2 y3 y4,LeO (spec_l1All.l0 k y0 y1 y2 y3 y4) (spec_l1All.l0 (k + 1) y0 y1 y2 y3 y4))
 | 0=>fun _ _ _ _ _ r h=>by simp [spec_l1All.l0] at h
 | k + 1=>by
  have ih0:=spec_l1All.mono_l k
  ·intro y0 y1 y2 y3 y4;unfold spec_l1All.l0
   repeat' with_reducible first|exact ih0 _ _ _ _ _|exact LeO.refl _|exact LeO.none _|refine LeO.ite ?_ ?_|refine LeO.bind ?_ (fun _=>?_)
theorem spec_l1All.mono:∀ a0 a1 a2 k,LeO (spec_l1All.f k a0 a1 a2) (spec_l1All.f (k + 1) a0 a1 a2):=by
 intro a0 a1 a2 k;have ih0:=spec_l1All.mono_l k;unfold spec_l1All.f
 repeat' with_reducible first|exact ih0 _ _ _ _ _|exact LeO.refl _|exact LeO.none _|refine LeO.ite ?_ ?_|refine LeO.bind ?_ (fun _=>?_)
set_option maxHeartbeats 8000000 in
set_option maxRecDepth 100000 in
theorem spec_l1All.calls (k:Nat) (A0:Option Addr) (c0:Nat) (l0:List Int) (a1:Int) (a2:Int) (r:Bool) (w:World) (hr0:Kd.C (Kd.int .i64) w A0 l0.length l0) (hc0:l0.length ≤ c0) (h:spec_l1All.f k l0 a1 a2 = some r) :
  Calls Try.prog 103 #[.slice A0 l0.length c0,.int .i64 a1,.int .i64 a2] w fun e w'=>e = .returned (.bool r) ∧ Drawn0 w w':=by
 have HR0:=aM hr0;have HC0:=aM hc0;clear hr0 hc0;have H:(spec_l1All.l0 k a1 a2 l0 (l0.length:Int) 0) = some r:=h;clear h;have H':=aM H;clear H;go_enter Try.func103,Try.ntmps103;go_wp2
 go_loopg [11] k (fun kq v11 w'=>∃ (x11_1:Int),v11 = .int .i64 x11_1 ∧ Aside0 (spec_l1All.l0 kq a1 a2 l0 (l0.length:Int) x11_1 = some r) ∧ Aside0 (kq ≤ k) ∧ Drawn0 w w')
 case atStart=>exact ⟨(0),qrs,H',⟨Nat.le_refl _⟩,by repeat (first|exact Drawn0.refl _|apply Drawn0.step)⟩
 case round =>
  clear H';(try clear c1);(try clear p2)
  obtain ⟨x11_1,rfl,HA,HK1,⟨m1,rfl⟩⟩:=hrel
  cases gk with
  | zero=>exact absurd HA.out (by simp [spec_l1All.l0])
  | succ k1 =>
   have H:=HA.out;clear HA;simp only [spec_l1All.l0] at H;by_cases c4:x11_1 < (l0.length:Int)
   ·rw [if_pos c4] at H;have c4b0:decide (x11_1 < (l0.length:Int)) = true:=decide_eq_true c4;clear c4;by_cases c5:0 ≤ x11_1
    ·rw [if_pos c5] at H;have c5b0:decide (0 ≤ x11_1) = true:=decide_eq_true c5;clear c5;by_cases c6:x11_1 < (l0.length:Int)
     ·rw [if_pos c6] at H;have c6b0:decide (x11_1 < (l0.length:Int)) = true:=decide_eq_true c6;clear c6;replace H:=Option.bind_eq_some_iff.mp H;obtain ⟨t755,A70,H⟩:=H;replace H:(if t755 = true then (spec_l1All.l0 k1 a1 a2 l0 (l0.length:Int) (wrap64 (x11_1 + 1))) else (some false)) = some r:=H;have A7:=aM A70;clear A70;by_cases c8:t755 = true
      ·subst c8;have H1:(spec_l1All.l0 k1 a1 a2 l0 (l0.length:Int) (wrap64 (x11_1 + 1))) = some r:=by rw [if_pos rfl] at H;exact H
       clear H;have H:=H1;clear H1;have H':=aM H;clear H;have p754:0 ≤ (x11_1:Int):=of_decide_eq_true ab;have q754:x11_1 < (l0.length:Int):=of_decide_eq_true ab;obtain ⟨ad754,e754,hx754_0⟩:=Kd.at_int HR0.out x11_1 p754 q754;cases e754
       replace p754:=eq_true p754;replace q754:=eq_true q754;go_wp2_with (first|((with_reducible refine gate_callee (f:=54) rfl ?_);refine goesL_ (some 18) rfl rfl Try.func54 kR rfl #[.int .i64 (rd l0 x11_1),.int .i64 a1,.int .i64 a2] rfl mq ?_;(with_reducible refine (spec_l1In.calls (rd l0 x11_1) a1 a2 true _ A7.out).mono ?_);rintro e w' ⟨rfl,⟨nd,rfl⟩⟩;refine ⟨_,rfl,?_⟩))
       go_roundg k1
       case measure=>have:=HK1.out;omega
       case rel=>exact ⟨(wrap64 (x11_1 + 1)),qrs,H',⟨by have:=HK1.out;omega⟩,by repeat (first|exact Drawn0.refl _|apply Drawn0.step)⟩
      ·replace c8:=Bool.eq_false_iff.mpr c8;subst c8;have H1:(some false) = some r:=by rw [if_neg (show ¬ (false = true) by decide)] at H;exact H
       clear H;have H:=H1;clear H1;obtain rfl:=Option.some.inj H;have p754:0 ≤ (x11_1:Int):=of_decide_eq_true ab;have q754:x11_1 < (l0.length:Int):=of_decide_eq_true ab;obtain ⟨ad754,e754,hx754_0⟩:=Kd.at_int HR0.out x11_1 p754 q754;cases e754
       replace p754:=eq_true p754;replace q754:=eq_true q754;go_wp2_with (first|((with_reducible refine gate_callee (f:=54) rfl ?_);refine goesL_ (some 18) rfl rfl Try.func54 kR rfl #[.int .i64 (rd l0 x11_1),.int .i64 a1,.int .i64 a2] rfl mq ?_;(with_reducible refine (spec_l1In.calls (rd l0 x11_1) a1 a2 false _ A7.out).mono ?_);rintro e w' ⟨rfl,⟨nd,rfl⟩⟩;refine ⟨_,rfl,?_⟩))
       go_ret
       exact ⟨by first|rfl|(simp;done)|(simp [*];done),by repeat (first|exact Drawn0.refl _|apply Drawn0.step)⟩
     ·rw [if_neg c6] at H;exact absurd H (by simp)
    ·rw [if_neg c5] at H;exact absurd H (by simp)
   ·rw [if_neg c4] at H;have c4b0:decide (x11_1 < (l0.length:Int)) = false:=decide_eq_false c4;clear c4;obtain rfl:=Option.some.inj H;go_wp2
    go_ret
    exact ⟨by first|rfl|(simp;done)|(simp [*];done),by repeat (first|exact Drawn0.refl _|apply Drawn0.step)⟩


/-! ### spec_voSum: function 104 -/
def spec_voSum.l0:Nat → Int → List Int → Int → Int → Option (Int)
 | 0,_,_,_,_=>none
 | k + 1,x3,x6,x7,x8=>if x8 < x7 then (if 0 ≤ x8 then (if x8 < (x6.length:Int) then (spec_voSum.l0 k (wrap64 (x3 + (rd x6 x8))) x6 x7 (wrap64 (x8 + 1))) else (none)) else (none)) else (some x3)
def spec_voSum.f (k:Nat) (l0:List Int):Option (Int):=spec_voSum.l0 k 0 l0 (l0.length:Int) 0
theorem spec_voSum.mono_l:∀ k,(∀ y0 y1 y2 y3,LeO (spec_voSum.l0 k y0 y1 y2 y3) (spec_voSum.l0 (k + 1) y0 y1 y2 y3))
 | 0=>fun _ _ _ _ r h=>by simp [spec_voSum.l0] at h
 | k + 1=>by
  have ih0:=spec_voSum.mono_l k
  ·intro y0 y1 y2 y3;unfold spec_voSum.l0
   repeat' with_reducible first|exact ih0 _ _ _ _|exact LeO.refl _|exact LeO.none _|refine LeO.ite ?_ ?_|refine LeO.bind ?_ (fun _=>?_)
theorem spec_voSum.mono:∀ a0 k,LeO (spec_voSum.f k a0) (spec_voSum.f (k + 1) a0):=by
 intro a0 k;have ih0:=spec_voSum.mono_l k;unfold spec_voSum.f
 repeat' with_reducible first|exact ih0 _ _ _ _|exact LeO.refl _|exact LeO.none _|refine LeO.ite ?_ ?_|refine LeO.bind ?_ (fun _=>?_)
set_option maxHeartbeats 8000000 in
set_option maxRecDepth 100000 in
theorem spec_voSum.calls (k:Nat) (A0:Option Addr) (c0:Nat) (l0:List Int) (r:Int) (w:World) (hr0:Kd.C (Kd.int .i64) w A0 l0.length l0) (hc0:l0.length ≤ c0) (h:spec_voSum.f k l0 = some r) :
  Calls Try.prog 104 #[.slice A0 l0.length c0] w fun e w'=>e = .returned (.int .i64 r) ∧ Drawn0 w w':=by
 have HR0:=aM hr0;have HC0:=aM hc0;clear hr0 hc0;have H:(spec_voSum.l0 k 0 l0 (l0.length:Int) 0) = some r:=h;clear h;have H':=aM H;clear H;go_enter Try.func104,Try.ntmps104;go_wp2
 go_loopg [3,8] k (fun kq v3 v8 w'=>∃ (x3_1:Int) (x8_1:Int),v3 = .int .i64 x3_1 ∧ v8 = .int .i64 x8_1 ∧ Aside0 (spec_voSum.l0 kq x3_1 l0 (l0.length:Int) x8_1 = some r) ∧ Aside0 (kq ≤ k) ∧ Drawn0 w w')
 case atStart=>exact ⟨(0),(0),qrs,qrs,H',⟨Nat.le_refl _⟩,by repeat (first|exact Drawn0.refl _|apply Drawn0.step)⟩
 case round =>
  clear H'
  try clear c1
  obtain ⟨x3_1,x8_1,rfl,rfl,HA,HK1,⟨m1,rfl⟩⟩:=hrel
  cases gk with
  | zero=>exact absurd HA.out (by simp [spec_voSum.l0])
  | succ k1 =>
   have H:=HA.out;clear HA;simp only [spec_voSum.l0] at H;by_cases c2:x8_1 < (l0.length:Int)
   ·rw [if_pos c2] at H;have c2b0:decide (x8_1 < (l0.length:Int)) = true:=decide_eq_true c2;clear c2;by_cases c3:0 ≤ x8_1
    ·rw [if_pos c3] at H;have c3b0:decide (0 ≤ x8_1) = true:=decide_eq_true c3;clear c3;by_cases c4:x8_1 < (l0.length:Int)
     ·rw [if_pos c4] at H;have c4b0:decide (x8_1 < (l0.length:Int)) = true:=decide_eq_true c4;clear c4;have H':=aM H;clear H;have p756:0 ≤ (x8_1:Int):=of_decide_eq_true ab;have q756:x8_1 < (l0.length:Int):=of_decide_eq_true ab;obtain ⟨ad756,e756,hx756_0⟩:=Kd.at_int HR0.out x8_1 p756 q756;cases e756
      replace p756:=eq_true p756;replace q756:=eq_true q756;go_wp2
      go_roundg k1
      case measure=>have:=HK1.out;omega
      case rel=>exact ⟨(wrap64 (x3_1 + (rd l0 x8_1))),(wrap64 (x8_1 + 1)),qrs,qrs,H',⟨by have:=HK1.out;omega⟩,by repeat (first|exact Drawn0.refl _|apply Drawn0.step)⟩
     ·rw [if_neg c4] at H;exact absurd H (by simp)
    ·rw [if_neg c3] at H;exact absurd H (by simp)
   ·rw [if_neg c2] at H;have c2b0:decide (x8_1 < (l0.length:Int)) = false:=decide_eq_false c2;clear c2;obtain rfl:=Option.some.inj H;go_wp2
    go_ret
    exact ⟨by first|rfl|(simp;done)|(simp [*];done),by repeat (first|exact Drawn0.refl _|apply Drawn0.step)⟩


/-! ### spec_voGood: function 63 -/
def spec_voGood.j0:Nat → Bool → Int → List Int → Option (Bool)
 | 0,_,_,_=>none
 | k + 1,x13,x758000,x758001=>if x13 = true then (some false) else ((spec_voSum.f k x758001).bind fun t760=>((spec_l1In.f x758000 1 t760).bind fun t761=>(some t761)))
def spec_voGood.f (k:Nat) (a0_0:Int) (l0_1:List Int):Option (Bool):=(spec_l1In.f (l0_1.length:Int) 1 9).bind fun t758=>(if t758 = true then ((spec_l1All.f k l0_1 0 1000).bind fun t759=>(spec_voGood.j0 k (!t759) a0_0 l0_1)) else (spec_voGood.j0 k true a0_0 l0_1))
theorem spec_voGood.mono_l:∀ k,(∀ y0 y1 y2,LeO (spec_voGood.j0 k y0 y1 y2) (spec_voGood.j0 (k + 1) y0 y1 y2))
 | 0=>fun _ _ _ r h=>by simp [spec_voGood.j0] at h
 | k + 1=>by
  have ih0:=spec_voGood.mono_l k
  ·intro y0 y1 y2;unfold spec_voGood.j0
   repeat' with_reducible first|exact ih0 _ _ _|exact spec_l1All.mono _ _ _ _|exact spec_voSum.mono _ _|exact LeO.refl _|exact LeO.none _|refine LeO.ite ?_ ?_|refine LeO.bind ?_ (fun _=>?_)
theorem spec_voGood.mono:∀ a0 a1 k,LeO (spec_voGood.f k a0 a1) (spec_voGood.f (k + 1) a0 a1):=by
 intro a0 a1 k;have ih0:=spec_voGood.mono_l k;unfold spec_voGood.f
 repeat' with_reducible first|exact ih0 _ _ _|exact spec_l1All.mono _ _ _ _|exact spec_voSum.mono _ _|exact LeO.refl _|exact LeO.none _|refine LeO.ite ?_ ?_|refine LeO.bind ?_ (fun _=>?_)
set_option maxHeartbeats 8000000 in
set_option maxRecDepth 100000 in
theorem spec_voGood.calls (k:Nat) (a0_0:Int) (A0_1:Option Addr) (c0_1:Nat) (l0_1:List Int) (r:Bool) (w:World) (hr0_1:Kd.C (Kd.int .i64) w A0_1 l0_1.length l0_1) (hc0_1:l0_1.length ≤ c0_1) (h:spec_voGood.f k a0_0 l0_1 = some r) :
  Calls Try.prog 63 #[.agg #[.int .i64 a0_0,.slice A0_1 l0_1.length c0_1]] w fun e w'=>e = .returned (.bool r) ∧ Below w.heap.size w w':=by
 have hu46:=Try.underlying46;have HR0_1:=aM hr0_1;have HC0_1:=aM hc0_1;clear hr0_1 hc0_1;have HB:=aM (Below.refl w.heap.size w);have H:((spec_l1In.f (l0_1.length:Int) 1 9).bind fun t758=>(if t758 = true then ((spec_l1All.f k l0_1 0 1000).bind fun t759=>(spec_voGood.j0 k (!t759) a0_0 l0_1)) else (spec_voGood.j0 k true a0_0 l0_1))) = some r:=h;clear h;have HC2:=aM H;clear H;go_enter Try.func63,Try.ntmps63;go_upto_region 1 with (first|((with_reducible refine gate_dst (N:=1) rfl ?_);refine box_event ?hg (N:=1) ?hd (cs:=#[.int .i64 a0_0,.slice A0_1 l0_1.length c0_1]) (t:=46) ?hr ?_;(case hd=>rfl);(case hg=>rfl);(case hr=>first|(go_simp;done)|(go_simp;rfl));intro gb757 hg w3 hbox hb;have n0_:=aM (below_step bw hb);have n1_:=aM (hbox);have n2_:=aM ((by rw [hg];exact (below_size bw):w.heap.size ≤ gb757));have n3_:=aM ((by rw [hg];exact (below_size bw):w.heap.size ≤ gb757));clear HB;have HB:=n0_;have BK757:=n1_;have GW757:=n2_;have GE757:=n3_;clear n0_ n1_ n2_ n3_;clear hb hbox hg))
 repeat (go_quiet (first|((with_reducible refine gate_dst (N:=1) rfl ?_);refine box_event ?hg (N:=1) ?hd (cs:=#[.int .i64 a0_0,.slice A0_1 l0_1.length c0_1]) (t:=46) ?hr ?_;(case hd=>rfl);(case hg=>rfl);(case hr=>first|(go_simp;done)|(go_simp;rfl));intro gb757 hg w3 hbox hb;have n0_:=aM (below_step bw hb);have n1_:=aM (hbox);have n2_:=aM ((by rw [hg];exact (below_size bw):w.heap.size ≤ gb757));have n3_:=aM ((by rw [hg];exact (below_size bw):w.heap.size ≤ gb757));clear HB;have HB:=n0_;have BK757:=n1_;have GW757:=n2_;have GE757:=n3_;clear n0_ n1_ n2_ n3_;clear hb hbox hg));go_upto_region 1 with (first|((with_reducible refine gate_dst (N:=1) rfl ?_);refine box_event ?hg (N:=1) ?hd (cs:=#[.int .i64 a0_0,.slice A0_1 l0_1.length c0_1]) (t:=46) ?hr ?_;(case hd=>rfl);(case hg=>rfl);(case hr=>first|(go_simp;done)|(go_simp;rfl));intro gb757 hg w3 hbox hb;have n0_:=aM (below_step bw hb);have n1_:=aM (hbox);have n2_:=aM ((by rw [hg];exact (below_size bw):w.heap.size ≤ gb757));have n3_:=aM ((by rw [hg];exact (below_size bw):w.heap.size ≤ gb757));clear HB;have HB:=n0_;have BK757:=n1_;have GW757:=n2_;have GE757:=n3_;clear n0_ n1_ n2_ n3_;clear hb hbox hg)))
 (try simp only [Act.put,sA,sZ,sS])
 go_cut [13] (fun v13 wc=>∃ (kq:Nat) (x13_1:Bool),v13 = .bool x13_1 ∧ Aside0 (spec_voGood.j0 kq x13_1 a0_0 l0_1 = some r) ∧ Aside0 (kq ≤ k) ∧ Aside0 (wc.heap[gb757]? = some (.cells #[.int .i64 a0_0,(.slice A0_1 l0_1.length c0_1)] 46 (0,0))) ∧ Aside0 (Below w.heap.size w wc))
 case first =>
  have H:=HC2.out;clear HC2;replace H:=Option.bind_eq_some_iff.mp H;obtain ⟨t758,A40,H⟩:=H;replace H:(if t758 = true then ((spec_l1All.f k l0_1 0 1000).bind fun t759=>(spec_voGood.j0 k (!t759) a0_0 l0_1)) else (spec_voGood.j0 k true a0_0 l0_1)) = some r:=H;have A4:=aM A40;clear A40;by_cases c5:t758 = true
  ·subst c5;have H1:((spec_l1All.f k l0_1 0 1000).bind fun t759=>(spec_voGood.j0 k (!t759) a0_0 l0_1)) = some r:=by rw [if_pos rfl] at H;exact H
   clear H;have H:=H1;clear H1;replace H:=Option.bind_eq_some_iff.mp H;obtain ⟨t759,A60,H⟩:=H;replace H:(spec_voGood.j0 k (!t759) a0_0 l0_1) = some r:=H;have A6:=aM A60;clear A60;have H':=aM H;clear H;have hcz7_0:w3.cell? ⟨gb757,0,none⟩ = some (.int .i64 a0_0):=(blk_cell BK757.out 0).trans rfl;have hcz7_1:w3.cell? ⟨gb757,1,none⟩ = some (.slice A0_1 l0_1.length c0_1):=(blk_cell BK757.out 1).trans rfl;have hfz7_0:=blk_frozen BK757.out 0;have hfz7_1:=blk_frozen BK757.out 1;go_wp2_with (first|(go_at_call 54;(with_reducible refine (spec_l1In.calls (l0_1.length:Int) 1 9 true _ A4.out).mono ?_);rintro e w' ⟨rfl,⟨nd,rfl⟩⟩;(try first|exact ⟨rfl,_,World.drewN_drewN _ _ _⟩|exact ⟨rfl,_,Eq.trans (World.drewN_drewN _ _ _) (congrArg (World.drewN _) (Nat.add_assoc _ _ _))⟩))|(go_at_call 103;(with_reducible refine (spec_l1All.calls k _ _ l0_1 0 1000 t759 _ ?side1 ?side2 A6.out).mono ?_);(case side1=>repeat (first|exact (Kd.C_below HR0_1.out bw)|(with_reducible refine Kd.C_alloc ?_ _)|(with_reducible refine Kd.C_drewN ?_ _)|(with_reducible refine Kd.C_drew ?_)));(case side2=>exact HC0_1.out);rintro e w' ⟨rfl,⟨nd,rfl⟩⟩;(try first|exact ⟨rfl,_,World.drewN_drewN _ _ _⟩|exact ⟨rfl,_,Eq.trans (World.drewN_drewN _ _ _) (congrArg (World.drewN _) (Nat.add_assoc _ _ _))⟩)))
   repeat (go_quiet (first|(go_at_call 54;(with_reducible refine (spec_l1In.calls (l0_1.length:Int) 1 9 true _ A4.out).mono ?_);rintro e w' ⟨rfl,⟨nd,rfl⟩⟩;(try first|exact ⟨rfl,_,World.drewN_drewN _ _ _⟩|exact ⟨rfl,_,Eq.trans (World.drewN_drewN _ _ _) (congrArg (World.drewN _) (Nat.add_assoc _ _ _))⟩))|(go_at_call 103;(with_reducible refine (spec_l1All.calls k _ _ l0_1 0 1000 t759 _ ?side1 ?side2 A6.out).mono ?_);(case side1=>repeat (first|exact (Kd.C_below HR0_1.out bw)|(with_reducible refine Kd.C_alloc ?_ _)|(with_reducible refine Kd.C_drewN ?_ _)|(with_reducible refine Kd.C_drew ?_)));(case side2=>exact HC0_1.out);rintro e w' ⟨rfl,⟨nd,rfl⟩⟩;(try first|exact ⟨rfl,_,World.drewN_drewN _ _ _⟩|exact ⟨rfl,_,Eq.trans (World.drewN_drewN _ _ _) (congrArg (World.drewN _) (Nat.add_assoc _ _ _))⟩)));try go_wp2_with (first|(go_at_call 54;(with_reducible refine (spec_l1In.calls (l0_1.length:Int) 1 9 true _ A4.out).mono ?_);rintro e w' ⟨rfl,⟨nd,rfl⟩⟩;(try first|exact ⟨rfl,_,World.drewN_drewN _ _ _⟩|exact ⟨rfl,_,Eq.trans (World.drewN_drewN _ _ _) (congrArg (World.drewN _) (Nat.add_assoc _ _ _))⟩))|(go_at_call 103;(with_reducible refine (spec_l1All.calls k _ _ l0_1 0 1000 t759 _ ?side1 ?side2 A6.out).mono ?_);(case side1=>repeat (first|exact (Kd.C_below HR0_1.out bw)|(with_reducible refine Kd.C_alloc ?_ _)|(with_reducible refine Kd.C_drewN ?_ _)|(with_reducible refine Kd.C_drew ?_)));(case side2=>exact HC0_1.out);rintro e w' ⟨rfl,⟨nd,rfl⟩⟩;(try first|exact ⟨rfl,_,World.drewN_drewN _ _ _⟩|exact ⟨rfl,_,Eq.trans (World.drewN_drewN _ _ _) (congrArg (World.drewN _) (Nat.add_assoc _ _ _))⟩))))
   go_meet
   case rel=>exact ⟨_,(!t759),qrs,H',⟨by first|omega|exact Nat.le_refl _⟩,⟨by (with_reducible repeat (first|refine blk_drewN ?_ _|refine blk_drew ?_|refine blk_alloc ?_ _));exact BK757.out⟩,⟨by exact bw⟩⟩
  ·replace c5:=Bool.eq_false_iff.mpr c5;subst c5;have H1:(spec_voGood.j0 k true a0_0 l0_1) = some r:=by rw [if_neg (show ¬ (false = true) by decide)] at H;exact H
   clear H;have H:=H1;clear H1;have H':=aM H;clear H;have hcz8_0:w3.cell? ⟨gb757,0,none⟩ = some (.int .i64 a0_0):=(blk_cell BK757.out 0).trans rfl;have hcz8_1:w3.cell? ⟨gb757,1,none⟩ = some (.slice A0_1 l0_1.length c0_1):=(blk_cell BK757.out 1).trans rfl;have hfz8_0:=blk_frozen BK757.out 0;have hfz8_1:=blk_frozen BK757.out 1;go_wp2_with (first|(go_at_call 54;(with_reducible refine (spec_l1In.calls (l0_1.length:Int) 1 9 false _ A4.out).mono ?_);rintro e w' ⟨rfl,⟨nd,rfl⟩⟩;(try first|exact ⟨rfl,_,World.drewN_drewN _ _ _⟩|exact ⟨rfl,_,Eq.trans (World.drewN_drewN _ _ _) (congrArg (World.drewN _) (Nat.add_assoc _ _ _))⟩)))
   repeat (go_quiet (first|(go_at_call 54;(with_reducible refine (spec_l1In.calls (l0_1.length:Int) 1 9 false _ A4.out).mono ?_);rintro e w' ⟨rfl,⟨nd,rfl⟩⟩;(try first|exact ⟨rfl,_,World.drewN_drewN _ _ _⟩|exact ⟨rfl,_,Eq.trans (World.drewN_drewN _ _ _) (congrArg (World.drewN _) (Nat.add_assoc _ _ _))⟩)));try go_wp2_with (first|(go_at_call 54;(with_reducible refine (spec_l1In.calls (l0_1.length:Int) 1 9 false _ A4.out).mono ?_);rintro e w' ⟨rfl,⟨nd,rfl⟩⟩;(try first|exact ⟨rfl,_,World.drewN_drewN _ _ _⟩|exact ⟨rfl,_,Eq.trans (World.drewN_drewN _ _ _) (congrArg (World.drewN _) (Nat.add_assoc _ _ _))⟩))))
   go_meet
   case rel=>exact ⟨_,(true),qrs,H',⟨by first|omega|exact Nat.le_refl _⟩,⟨by (with_reducible repeat (first|refine blk_drewN ?_ _|refine blk_drew ?_|refine blk_alloc ?_ _));exact BK757.out⟩,⟨by exact bw⟩⟩
 case rest =>
  clear HC2;(try clear p2);(try clear c5);(try clear c6);(try clear hcz7_0);(try clear hcz7_1);(try clear hcz8_0);(try clear hcz8_1);(try clear hfz7_0);(try clear hfz7_1);(try clear hfz8_0);(try clear hfz8_1)
  obtain ⟨kq,x13_1,rfl,HA,HJ1,BK757,HB⟩:=hcut
  cases kq with
  | zero=>exact absurd HA.out (by simp [spec_voGood.j0])
  | succ kj1 =>
   have H:=HA.out;clear HA;simp only [spec_voGood.j0] at H;by_cases c9:x13_1 = true
   ·subst c9;have H1:(some false) = some r:=by rw [if_pos rfl] at H;exact H
    clear H;have H:=H1;clear H1;obtain rfl:=Option.some.inj H;go_wp2
    repeat (go_quiet (fail);try go_wp2)
    go_ret
    exact ⟨by first|rfl|(simp [errW_none,errW_some] <;> rfl)|(simp [*,errW_none,errW_some] <;> rfl),by exact bw⟩
   ·replace c9:=Bool.eq_false_iff.mpr c9;subst c9;have H1:((spec_voSum.f kj1 l0_1).bind fun t760=>((spec_l1In.f a0_0 1 t760).bind fun t761=>(some t761))) = some r:=by rw [if_neg (show ¬ (false = true) by decide)] at H;exact H
    clear H;have H:=H1;clear H1;replace H:=Option.bind_eq_some_iff.mp H;obtain ⟨t760,A100,H⟩:=H;replace H:((spec_l1In.f a0_0 1 t760).bind fun t761=>(some t761)) = some r:=H;have A10:=aM A100;clear A100;replace H:=Option.bind_eq_some_iff.mp H;obtain ⟨t761,A110,H⟩:=H;replace H:(some t761) = some r:=H;have A11:=aM A110;clear A110;obtain rfl:=Option.some.inj H;have hcz12_0:wc.cell? ⟨gb757,0,none⟩ = some (.int .i64 a0_0):=(blk_cell BK757.out 0).trans rfl;have hcz12_1:wc.cell? ⟨gb757,1,none⟩ = some (.slice A0_1 l0_1.length c0_1):=(blk_cell BK757.out 1).trans rfl;have hfz12_0:=blk_frozen BK757.out 0;have hfz12_1:=blk_frozen BK757.out 1;go_wp2_with (first|(go_at_call 104;(with_reducible refine (spec_voSum.calls kj1 _ _ l0_1 t760 _ ?side1 ?side2 A10.out).mono ?_);(case side1=>exact qcs HR0_1.out HB.out);(case side2=>exact HC0_1.out);rintro e w' ⟨rfl,⟨nd,rfl⟩⟩;(try first|exact ⟨rfl,_,World.drewN_drewN _ _ _⟩|exact ⟨rfl,_,Eq.trans (World.drewN_drewN _ _ _) (congrArg (World.drewN _) (Nat.add_assoc _ _ _))⟩))|(go_at_call 54;(with_reducible refine (spec_l1In.calls a0_0 1 t760 t761 _ A11.out).mono ?_);rintro e w' ⟨rfl,⟨nd,rfl⟩⟩;(try first|exact ⟨rfl,_,World.drewN_drewN _ _ _⟩|exact ⟨rfl,_,Eq.trans (World.drewN_drewN _ _ _) (congrArg (World.drewN _) (Nat.add_assoc _ _ _))⟩)))
    repeat (go_quiet (first|(go_at_call 104;(with_reducible refine (spec_voSum.calls kj1 _ _ l0_1 t760 _ ?side1 ?side2 A10.out).mono ?_);(case side1=>exact qcs HR0_1.out HB.out);(case side2=>exact HC0_1.out);rintro e w' ⟨rfl,⟨nd,rfl⟩⟩;(try first|exact ⟨rfl,_,World.drewN_drewN _ _ _⟩|exact ⟨rfl,_,Eq.trans (World.drewN_drewN _ _ _) (congrArg (World.drewN _) (Nat.add_assoc _ _ _))⟩))|(go_at_call 54;(with_reducible refine (spec_l1In.calls a0_0 1 t760 t761 _ A11.out).mono ?_);rintro e w' ⟨rfl,⟨nd,rfl⟩⟩;(try first|exact ⟨rfl,_,World.drewN_drewN _ _ _⟩|exact ⟨rfl,_,Eq.trans (World.drewN_drewN _ _ _) (congrArg (World.drewN _) (Nat.add_assoc _ _ _))⟩)));try go_wp2_with (first|(go_at_call 104;(with_reducible refine (spec_voSum.calls kj1 _ _ l0_1 t760 _ ?side1 ?side2 A10.out).mono ?_);(case side1=>exact qcs HR0_1.out HB.out);(case side2=>exact HC0_1.out);rintro e w' ⟨rfl,⟨nd,rfl⟩⟩;(try first|exact ⟨rfl,_,World.drewN_drewN _ _ _⟩|exact ⟨rfl,_,Eq.trans (World.drewN_drewN _ _ _) (congrArg (World.drewN _) (Nat.add_assoc _ _ _))⟩))|(go_at_call 54;(with_reducible refine (spec_l1In.calls a0_0 1 t760 t761 _ A11.out).mono ?_);rintro e w' ⟨rfl,⟨nd,rfl⟩⟩;(try first|exact ⟨rfl,_,World.drewN_drewN _ _ _⟩|exact ⟨rfl,_,Eq.trans (World.drewN_drewN _ _ _) (congrArg (World.drewN _) (Nat.add_assoc _ _ _))⟩))))
    go_ret
    exact ⟨by first|rfl|(simp [errW_none,errW_some] <;> rfl)|(simp [*,errW_none,errW_some] <;> rfl),by exact bw⟩


/-! ### laws_szIntS: function 62 -/
def laws_szIntS.f (l0:List Int) (a1:Int):Option (Int):=if (wrap64 (a1 - (l0.length:Int))) < 0 then (some (-1)) else (some (wrap64 (a1 - (l0.length:Int))))
set_option maxHeartbeats 8000000 in
set_option maxRecDepth 100000 in
theorem laws_szIntS.calls (A0:Option Addr) (c0:Nat) (l0:List Int) (a1:Int) (r:Int) (w:World) (hr0:Kd.C (Kd.int .i64) w A0 l0.length l0) (hc0:l0.length ≤ c0) (h:laws_szIntS.f l0 a1 = some r) :
  Calls Try.prog 62 #[.slice A0 l0.length c0,.int .i64 a1] w fun e w'=>e = .returned (.int .i64 r) ∧ Drawn0 w w':=by
 have HR0:=aM hr0;have HC0:=aM hc0;clear hr0 hc0;have H:(if (wrap64 (a1 - (l0.length:Int))) < 0 then (some (-1)) else (some (wrap64 (a1 - (l0.length:Int))))) = some r:=h;clear h;by_cases c3:(wrap64 (a1 - (l0.length:Int))) < 0
 ·rw [if_pos c3] at H;have c3b0:decide ((wrap64 (a1 - (l0.length:Int))) < 0) = true:=decide_eq_true c3;clear c3;obtain rfl:=Option.some.inj H;go_enter Try.func62,Try.ntmps62;go_wp2
  go_ret
  exact ⟨by first|rfl|(simp;done)|(simp [*];done),by repeat (first|exact Drawn0.refl _|apply Drawn0.step)⟩
 ·rw [if_neg c3] at H;have c3b0:decide ((wrap64 (a1 - (l0.length:Int))) < 0) = false:=decide_eq_false c3;clear c3;obtain rfl:=Option.some.inj H;go_enter Try.func62,Try.ntmps62;go_wp2
  go_ret
  exact ⟨by first|rfl|(simp;done)|(simp [*];done),by repeat (first|exact Drawn0.refl _|apply Drawn0.step)⟩


/-! ### laws_szCommittee: function 24 -/
def laws_szCommittee.f (a0_0:Int) (l0_1:List Int) (a1:Int):Option (Int):=(laws_szIntS.f l0_1 a1).bind fun t753=>(if t753 < 0 then (some (-1)) else (some t753))
set_option maxHeartbeats 8000000 in
set_option maxRecDepth 100000 in
theorem laws_szCommittee.calls (a0_0:Int) (A0_1:Option Addr) (c0_1:Nat) (l0_1:List Int) (a1:Int) (r:Int) (w:World) (hr0_1:Kd.C (Kd.int .i64) w A0_1 l0_1.length l0_1) (hc0_1:l0_1.length ≤ c0_1) (h:laws_szCommittee.f a0_0 l0_1 a1 = some r) :
  Calls Try.prog 24 #[.agg #[.int .i64 a0_0,.slice A0_1 l0_1.length c0_1],.int .i64 a1] w fun e w'=>e = .returned (.int .i64 r) ∧ Below w.heap.size w w':=by
 have hu42:=Try.underlying42;have HR0_1:=aM hr0_1;have HC0_1:=aM hc0_1;clear hr0_1 hc0_1;have HB:=aM (Below.refl w.heap.size w);have H:((laws_szIntS.f l0_1 a1).bind fun t753=>(if t753 < 0 then (some (-1)) else (some t753))) = some r:=h;clear h;replace H:=Option.bind_eq_some_iff.mp H;obtain ⟨t753,A30,H⟩:=H;replace H:(if t753 < 0 then (some (-1)) else (some t753)) = some r:=H;have A3:=aM A30;clear A30;by_cases c4:t753 < 0
 ·rw [if_pos c4] at H;have c4b0:decide (t753 < 0) = true:=decide_eq_true c4;clear c4;obtain rfl:=Option.some.inj H;go_enter Try.func24,Try.ntmps24;go_wp2_with (first|((with_reducible refine gate_dst (N:=2) rfl ?_);refine box_event ?hg (N:=2) ?hd (cs:=#[.int .i64 a0_0,.slice A0_1 l0_1.length c0_1]) (t:=42) ?hr ?_;(case hd=>rfl);(case hg=>rfl);(case hr=>first|(go_simp;done)|(go_simp;rfl));intro gb752 hg w5 hbox hb;have n0_:=aM (below_step bw hb);have n1_:=aM (hbox);have n2_:=aM ((by rw [hg];exact (below_size bw):w.heap.size ≤ gb752));have n3_:=aM ((by rw [hg];exact (below_size bw):w.heap.size ≤ gb752));clear HB;have HB:=n0_;have BK752:=n1_;have GW752:=n2_;have GE752:=n3_;clear n0_ n1_ n2_ n3_;clear hb hbox hg;have hcz6_0:w5.cell? ⟨gb752,0,none⟩ = some (.int .i64 a0_0):=(blk_cell BK752.out 0).trans rfl;have hcz6_1:w5.cell? ⟨gb752,1,none⟩ = some (.slice A0_1 l0_1.length c0_1):=(blk_cell BK752.out 1).trans rfl;have hfz6_0:=blk_frozen BK752.out 0;have hfz6_1:=blk_frozen BK752.out 1)|((with_reducible refine gate_callee (f:=62) rfl ?_);refine goesL_ (some 8) rfl rfl Try.func62 kR rfl #[.slice A0_1 l0_1.length c0_1,.int .i64 a1] rfl mq ?_;(with_reducible refine (laws_szIntS.calls _ _ l0_1 a1 t753 _ ?side1 ?side2 A3.out).mono ?_);(case side1=>exact qcs HR0_1.out HB.out);(case side2=>exact HC0_1.out);rintro e w' ⟨rfl,⟨nd,rfl⟩⟩;refine ⟨_,rfl,?_⟩))
  go_ret
  exact ⟨by first|rfl|(simp [errW_none,errW_some] <;> rfl)|(simp [*,errW_none,errW_some] <;> rfl),by exact bw⟩
 ·rw [if_neg c4] at H;have c4b0:decide (t753 < 0) = false:=decide_eq_false c4;clear c4;obtain rfl:=Option.some.inj H;go_enter Try.func24,Try.ntmps24;go_wp2_with (first|((with_reducible refine gate_dst (N:=2) rfl ?_);refine box_event ?hg (N:=2) ?hd (cs:=#[.int .i64 a0_0,.slice A0_1 l0_1.length c0_1]) (t:=42) ?hr ?_;(case hd=>rfl);(case hg=>rfl);(case hr=>first|(go_simp;done)|(go_simp;rfl));intro gb752 hg w7 hbox hb;have n0_:=aM (below_step bw hb);have n1_:=aM (hbox);have n2_:=aM ((by rw [hg];exact (below_size bw):w.heap.size ≤ gb752));have n3_:=aM ((by rw [hg];exact (below_size bw):w.heap.size ≤ gb752));clear HB;have HB:=n0_;have BK752:=n1_;have GW752:=n2_;have GE752:=n3_;clear n0_ n1_ n2_ n3_;clear hb hbox hg;have hcz8_0:w7.cell? ⟨gb752,0,none⟩ = some (.int .i64 a0_0):=(blk_cell BK752.out 0).trans rfl;have hcz8_1:w7.cell? ⟨gb752,1,none⟩ = some (.slice A0_1 l0_1.length c0_1):=(blk_cell BK752.out 1).trans rfl;have hfz8_0:=blk_frozen BK752.out 0;have hfz8_1:=blk_frozen BK752.out 1)|((with_reducible refine gate_callee (f:=62) rfl ?_);refine goesL_ (some 8) rfl rfl Try.func62 kR rfl #[.slice A0_1 l0_1.length c0_1,.int .i64 a1] rfl mq ?_;(with_reducible refine (laws_szIntS.calls _ _ l0_1 a1 t753 _ ?side1 ?side2 A3.out).mono ?_);(case side1=>exact qcs HR0_1.out HB.out);(case side2=>exact HC0_1.out);rintro e w' ⟨rfl,⟨nd,rfl⟩⟩;refine ⟨_,rfl,?_⟩))
  go_ret
  exact ⟨by first|rfl|(simp [errW_none,errW_some] <;> rfl)|(simp [*,errW_none,errW_some] <;> rfl),by exact bw⟩


/-! ### laws_toIntS: function 67 -/
def laws_toIntS.l0:Nat → List Int → List Int → Int → Option (List Int)
 | 0,_,_,_=>none
 | k + 1,x0,x3,x4=>if x4 < (x0.length:Int) then (if 0 ≤ x4 then (if x4 < (x3.length:Int) then (laws_toIntS.l0 k x0 (x3.set (x4:Int).toNat (rd x0 x4)) (wrap64 (x4 + 1))) else (none)) else (none)) else (some x3)
def laws_toIntS.f (k:Nat) (l0:List Int):Option (List Int):=if 0 ≤ (l0.length:Int) then (if ((l0.length:Int):Int).toNat ≤ 35184372088832 then (laws_toIntS.l0 k l0 (List.replicate ((l0.length:Int):Int).toNat 0) 0) else (none)) else (none)
theorem laws_toIntS.mono_l:∀ k,(∀ y0 y1 y2,LeO (laws_toIntS.l0 k y0 y1 y2) (laws_toIntS.l0 (k + 1) y0 y1 y2))
 | 0=>fun _ _ _ r h=>by simp [laws_toIntS.l0] at h
 | k + 1=>by
  have ih0:=laws_toIntS.mono_l k
  ·intro y0 y1 y2;unfold laws_toIntS.l0
   repeat' with_reducible first|exact ih0 _ _ _|exact LeO.refl _|exact LeO.none _|refine LeO.ite ?_ ?_|refine LeO.bind ?_ (fun _=>?_)
theorem laws_toIntS.mono:∀ a0 k,LeO (laws_toIntS.f k a0) (laws_toIntS.f (k + 1) a0):=by
 intro a0 k;have ih0:=laws_toIntS.mono_l k;unfold laws_toIntS.f
 repeat' with_reducible first|exact ih0 _ _ _|exact LeO.refl _|exact LeO.none _|refine LeO.ite ?_ ?_|refine LeO.bind ?_ (fun _=>?_)
set_option maxHeartbeats 8000000 in
set_option maxRecDepth 100000 in
theorem laws_toIntS.calls (k:Nat) (A0:Option Addr) (c0:Nat) (l0:List Int) (r:List Int) (w:World) (hr0:Kd.C (Kd.int .i64) w A0 l0.length l0) (hc0:l0.length ≤ c0) (h:laws_toIntS.f k l0 = some r) :
  Calls Try.prog 67 #[.slice A0 l0.length c0] w fun e w'=>∃ v0_:Value,e = .returned (v0_) ∧ Kd.R (Kd.int .i64) 3 w' w.heap.size (fun _=>True) v0_ r ∧ Below w.heap.size w w':=by
 have HR0:=aM hr0;have HC0:=aM hc0;clear hr0 hc0;have HB:=aM (Below.refl w.heap.size w);have H:(if 0 ≤ (l0.length:Int) then (if ((l0.length:Int):Int).toNat ≤ 35184372088832 then (laws_toIntS.l0 k l0 (List.replicate ((l0.length:Int):Int).toNat 0) 0) else (none)) else (none)) = some r:=h;clear h;by_cases c2:0 ≤ (l0.length:Int)
 ·rw [if_pos c2] at H;have c2b0:=eq_true c2;have c2b1:decide (0 ≤ (l0.length:Int)) = true:=decide_eq_true c2;clear c2;by_cases c3:((l0.length:Int):Int).toNat ≤ 35184372088832
  ·rw [if_pos c3] at H;have c3b0:=eq_true c3;have c3b1:decide (((l0.length:Int):Int).toNat ≤ 35184372088832) = true:=decide_eq_true c3;clear c3;obtain ⟨y229,hy229⟩:∃ y_:List Int,y_ = (List.replicate ((l0.length:Int):Int).toNat 0):=⟨_,rfl⟩;replace H:(laws_toIntS.l0 k l0 y229 0) = some r:=by first|(rw [hy229];with_reducible exact H)|(have H2_:=(Option.bind_some _ _).symm.trans H;rw [hy229];with_reducible exact H2_)|(have H2_:=(Option.bind_some _ _).symm.trans H;with_reducible exact H2_)|with_reducible exact H|(rw [hy229];exact H)|exact H
   have Ny229:=aM hy229;clear hy229;have H':=aM H;clear H;go_enter Try.func67,Try.ntmps67;go_wp2_with (first|((with_reducible refine gate_dst (N:=7) rfl ?_);refine Kd.R_make (Kd.int .i64) _ 3 rfl (N:=7) rfl 40 _ _ rfl (l0.length:Int) rfl rfl Try.underlying40 (.int .i64 0) 8 info3 rfl (by decide) (by omega) 0 (ok:=fun _=>True) (okp:=fun _=>True) rfl (fun _ hk=>hk) trivial (of_decide_eq_true ab) (Nat.le_trans (Nat.mul_le_mul_right _ (of_decide_eq_true ab:(l0.length:Int).toNat ≤ 35184372088832)) (by omega)) (Below.refl _ _) (Nat.le_refl _) ?_;intro v230 w4 ho5 hb hg_ hnew_;clear hg_ hnew_;(first|rw [← Ny229.out] at ho5|(simp only [Int.reduceToNat] at ho5;rw [← Ny229.out] at ho5));have n0_:=aM (Kd.R_lower ho5 (below_size bw));have n1_:=aM (below_step bw hb);clear HB;have HO231:=n0_;have HB:=n1_;clear n0_ n1_;clear hb ho5))
   go_loopg [4] k (fun kq v4 w'=>∃ (x3_1:List Int) (x4_1:Int),v4 = .int .i64 x4_1 ∧ Aside0 (laws_toIntS.l0 kq l0 x3_1 x4_1 = some r) ∧ Aside0 (kq ≤ k) ∧ Aside0 (Kd.R (Kd.int .i64) 3 w' w.heap.size (fun _=>True) v230 x3_1) ∧ Aside0 (Below w.heap.size w w'))
   case atStart=>exact ⟨(y229),(0),qrs,H',⟨Nat.le_refl _⟩,⟨qra HO231.out⟩,⟨by exact bw⟩⟩
   case round =>
    clear H';(try clear c2);(try clear c2b0);(try clear c2b1);(try clear p2);(try clear c3);(try clear c3b0);(try clear c3b1)
    obtain ⟨x3_1,x4_1,rfl,HA,HK1,HO_3,HB⟩:=hrel
    cases gk with
    | zero=>exact absurd HA.out (by simp [laws_toIntS.l0])
    | succ k1 =>
     have H:=HA.out;clear HA;simp only [laws_toIntS.l0] at H;by_cases c6:x4_1 < (l0.length:Int)
     ·rw [if_pos c6] at H;have c6b0:decide (x4_1 < (l0.length:Int)) = true:=decide_eq_true c6;clear c6;by_cases c7:0 ≤ x4_1
      ·rw [if_pos c7] at H;have c7b0:decide (0 ≤ x4_1) = true:=decide_eq_true c7;clear c7;by_cases c8:x4_1 < (x3_1.length:Int)
       ·rw [if_pos c8] at H;have c8b0:decide (x4_1 < (x3_1.length:Int)) = true:=decide_eq_true c8;clear c8;obtain ⟨y233,hy233⟩:∃ y_:List Int,y_ = (x3_1.set (x4_1:Int).toNat (rd l0 x4_1)):=⟨_,rfl⟩;replace H:(laws_toIntS.l0 k1 l0 y233 (wrap64 (x4_1 + 1))) = some r:=by first|(rw [hy233];with_reducible exact H)|(have H2_:=(Option.bind_some _ _).symm.trans H;rw [hy233];with_reducible exact H2_)|(have H2_:=(Option.bind_some _ _).symm.trans H;with_reducible exact H2_)|with_reducible exact H|(rw [hy233];exact H)|exact H
        have Ny233:=aM hy233;clear hy233;have H':=aM H;clear H;have p232:0 ≤ (x4_1:Int):=of_decide_eq_true ab;have q232:x4_1 < (l0.length:Int):=of_decide_eq_true ab;obtain ⟨ad232,e232,hx232_0⟩:=Kd.at_int HR0.out x4_1 p232 q232;cases e232
        replace hx232_0:=(HB.out.cell (World.block_lt_of_cell? w _ hx232_0)).trans hx232_0;replace p232:=eq_true p232;replace q232:=eq_true q232;have p9:0 ≤ (x4_1:Int):=of_decide_eq_true ab;have q9:(x4_1:Int) < ((x3_1.length:Int):Int):=of_decide_eq_true ab;obtain ⟨go9,co9,eo9,gb9,gl9,cl9,HG9⟩:=Kd.R_form HO_3.out (by omega);(first|cases eo9|(injection eo9 with ea_ en_ ec_;(first|subst ea_|(injection ea_ with ea_;subst ea_));subst ec_;clear en_))
        have GB9:=aM gb9;have GG9:=aM HG9;clear gb9 gl9 HG9;obtain ⟨hx9_0,hf9_0⟩:=Kd.R_celln 0 HO_3.out (x4_1:Int) p9 q9;replace p9:=eq_true p9;replace q9:=eq_true q9;have HP10:=Kd.R_putg HO_3.out (x4_1:Int) (rd l0 x4_1);go_wp2_with (first|((with_reducible refine gate_store (t:=3) (p:=20) rfl ?_);refine store_event (t:=3) (p:=20) (v:=?vo_w11) (w1:=(wr.setCell ⟨go9,(x4_1:Int).toNat,none⟩ (.int .i64 (rd l0 x4_1)))) ?hg ?ho ?hn ?hr ?_;(case ho=>rfl);(case hg=>rfl);(case hn=>rfl);(case hr=>first|(go_simp;done)|(go_simp;rfl));intro w11 hw;have hg:wr.grownBy w11 (some go9):=(by rw [hw];exact HP10.2);have hp_:Kd.R (Kd.int .i64) 3 w11 w.heap.size (fun _=>True) (.slice (some ⟨go9,0,none⟩) x3_1.length co9) y233:=(by rw [hw,Ny233.out];exact HP10.1);clear HP10;have n0_:=aM (hp_);have n1_:=aM ((by rw [hw];exact below_set (HB.out) GB9.out:Below w.heap.size w w11));clear HO_3;clear HB;have HO_3:=n0_;have HB:=n1_;clear n0_ n1_;clear hg hw hp_))
        go_roundg k1
        case measure=>have:=HK1.out;omega
        case rel=>exact ⟨(y233),(wrap64 (x4_1 + 1)),qrs,H',⟨by have:=HK1.out;omega⟩,⟨qra HO_3.out⟩,⟨by exact bw⟩⟩
       ·rw [if_neg c8] at H;exact absurd H (by simp)
      ·rw [if_neg c7] at H;exact absurd H (by simp)
     ·rw [if_neg c6] at H;have c6b0:decide (x4_1 < (l0.length:Int)) = false:=decide_eq_false c6;clear c6;obtain rfl:=Option.some.inj H;go_wp2
      go_ret
      exact ⟨_,by first|rfl|(simp [errW_none,errW_some] <;> rfl)|(simp [*,errW_none,errW_some] <;> rfl),by (with_reducible repeat (first|apply Kd.R_alloc|apply Kd.R_drewN|apply Kd.R_drew));exact HO_3.out,by exact bw⟩
  ·rw [if_neg c3] at H;exact absurd H (by simp)
 ·rw [if_neg c2] at H;exact absurd H (by simp)


/-! ### laws_toCommittee: function 26 -/
def laws_toCommittee.f (k:Nat) (a0_0:Int) (l0_1:List Int):Option (Int × List Int):=(laws_toIntS.f k l0_1).bind fun t809=>(some (a0_0,t809))
theorem laws_toCommittee.mono:∀ a0 a1 k,LeO (laws_toCommittee.f k a0 a1) (laws_toCommittee.f (k + 1) a0 a1):=by
 intro a0 a1 k;unfold laws_toCommittee.f
 repeat' with_reducible first|exact laws_toIntS.mono _ _|exact LeO.refl _|exact LeO.none _|refine LeO.ite ?_ ?_|refine LeO.bind ?_ (fun _=>?_)
set_option maxHeartbeats 8000000 in
set_option maxRecDepth 100000 in
theorem laws_toCommittee.calls (k:Nat) (a0_0:Int) (A0_1:Option Addr) (c0_1:Nat) (l0_1:List Int) (r1:Int) (r2:List Int) (w:World) (hr0_1:Kd.C (Kd.int .i64) w A0_1 l0_1.length l0_1) (hc0_1:l0_1.length ≤ c0_1) (h:laws_toCommittee.f k a0_0 l0_1 = some (r1,r2)) :
  Calls Try.prog 26 #[.agg #[.int .i64 a0_0,.slice A0_1 l0_1.length c0_1]] w fun e w'=>∃ v1_:Value,e = .returned (.agg #[.int .i64 r1,v1_]) ∧ Kd.R (Kd.int .i64) 3 w' w.heap.size (fun _=>True) v1_ r2 ∧ Below w.heap.size w w':=by
 have hu42:=Try.underlying42;have hu46:=Try.underlying46;have HR0_1:=aM hr0_1;have HC0_1:=aM hc0_1;clear hr0_1 hc0_1;have HB:=aM (Below.refl w.heap.size w);have H:((laws_toIntS.f k l0_1).bind fun t809=>(some (a0_0,t809))) = some (r1,r2):=h;clear h;replace H:=Option.bind_eq_some_iff.mp H;obtain ⟨t809,A20,H⟩:=H;replace H:(some (a0_0,t809)) = some (r1,r2):=H;have A2:=aM A20;clear A20;simp only [Option.some.injEq,Prod.mk.injEq] at H;obtain ⟨rfl,rfl⟩:=H;go_enter Try.func26,Try.ntmps26;go_wp2_with (first|((with_reducible refine gate_dst (N:=1) rfl ?_);refine box_event ?hg (N:=1) ?hd (cs:=#[.int .i64 a0_0,.slice A0_1 l0_1.length c0_1]) (t:=42) ?hr ?_;(case hd=>rfl);(case hg=>rfl);(case hr=>first|(go_simp;done)|(go_simp;rfl));intro gb806 hg w3 hbox hb;have n0_:=aM (below_step bw hb);have n1_:=aM (hbox);have n2_:=aM ((by rw [hg];exact (below_size bw):w.heap.size ≤ gb806));have n3_:=aM ((by rw [hg];exact (below_size bw):w.heap.size ≤ gb806));clear HB;have HB:=n0_;have BK806:=n1_;have GW806:=n2_;have GE806:=n3_;clear n0_ n1_ n2_ n3_;clear hb hbox hg)|((with_reducible refine gate_dst (N:=2) rfl ?_);refine box_event ?hg (N:=2) ?hd (cs:=#[.int .i64 0,.slice none 0 0]) (t:=46) ?hr ?_;(case hd=>rfl);(case hg=>rfl);(case hr=>first|(go_simp;done)|(go_simp;rfl));intro gb807 hg w4 hbox hb;have n0_:=aM (blk_below (g:=gb806) (o:=.cells #[.int .i64 a0_0,.slice A0_1 l0_1.length c0_1] 42 (0,0)) bk hb);have n1_:=aM (below_step bw hb);have n2_:=aM (hbox);have n3_:=aM ((by rw [hg];exact (below_size bw):w.heap.size ≤ gb807));have n4_:=aM ((by rw [hg];exact (below_size bw):w.heap.size ≤ gb807));have n5_:=aM ((by rw [hg];exact Nat.ne_of_lt (blk_lt (g:=gb806) (o:=.cells #[.int .i64 a0_0,.slice A0_1 l0_1.length c0_1] 42 (0,0)) bk):gb806 ≠ gb807));have n6_:=aM ((by rw [hg];exact Nat.ne_of_gt (blk_lt (g:=gb806) (o:=.cells #[.int .i64 a0_0,.slice A0_1 l0_1.length c0_1] 42 (0,0)) bk):gb807 ≠ gb806));clear BK806;clear HB;have BK806:=n0_;have HB:=n1_;have BK807:=n2_;have GW807:=n3_;have GE807:=n4_;have NB806_807:=n5_;have NB807_806:=n6_;clear n0_ n1_ n2_ n3_ n4_ n5_ n6_;clear hb hbox hg)|((with_reducible refine gate_dst (N:=3) rfl ?_);refine box_event ?hg (N:=3) ?hd (cs:=#[.int .i64 0,.slice none 0 0]) (t:=46) ?hr ?_;(case hd=>rfl);(case hg=>rfl);(case hr=>first|(go_simp;done)|(go_simp;rfl));intro gb808 hg w5 hbox hb;have n0_:=aM (blk_below (g:=gb806) (o:=.cells #[.int .i64 a0_0,.slice A0_1 l0_1.length c0_1] 42 (0,0)) bk hb);have n1_:=aM (blk_below (g:=gb807) (o:=.cells #[.int .i64 0,.slice none 0 0] 46 (0,0)) bk hb);have n2_:=aM (below_step bw hb);have n3_:=aM (hbox);have n4_:=aM ((by rw [hg];exact (below_size bw):w.heap.size ≤ gb808));have n5_:=aM ((by rw [hg];exact (below_size bw):w.heap.size ≤ gb808));have n6_:=aM ((by rw [hg];exact Nat.ne_of_lt (blk_lt (g:=gb806) (o:=.cells #[.int .i64 a0_0,.slice A0_1 l0_1.length c0_1] 42 (0,0)) bk):gb806 ≠ gb808));have n7_:=aM ((by rw [hg];exact Nat.ne_of_gt (blk_lt (g:=gb806) (o:=.cells #[.int .i64 a0_0,.slice A0_1 l0_1.length c0_1] 42 (0,0)) bk):gb808 ≠ gb806));have n8_:=aM ((by rw [hg];exact Nat.ne_of_lt (blk_lt (g:=gb807) (o:=.cells #[.int .i64 0,.slice none 0 0] 46 (0,0)) bk):gb807 ≠ gb808));have n9_:=aM ((by rw [hg];exact Nat.ne_of_gt (blk_lt (g:=gb807) (o:=.cells #[.int .i64 0,.slice none 0 0] 46 (0,0)) bk):gb808 ≠ gb807));clear BK806;clear BK807;clear HB;have BK806:=n0_;have BK807:=n1_;have HB:=n2_;have BK808:=n3_;have GW808:=n4_;have GE808:=n5_;have NB806_808:=n6_;have NB808_806:=n7_;have NB807_808:=n8_;have NB808_807:=n9_;clear n0_ n1_ n2_ n3_ n4_ n5_ n6_ n7_ n8_ n9_;clear hb hbox hg;have hnb6:=NB806_807.out;have hnc6:=NB807_806.out;have hnb7:=NB806_808.out;have hnc7:=NB808_806.out;have hcz8_0:w5.cell? ⟨gb806,0,none⟩ = some (.int .i64 a0_0):=(blk_cell BK806.out 0).trans rfl;have hcz8_1:w5.cell? ⟨gb806,1,none⟩ = some (.slice A0_1 l0_1.length c0_1):=(blk_cell BK806.out 1).trans rfl;have hfz8_0:=blk_frozen BK806.out 0;have hfz8_1:=blk_frozen BK806.out 1;have hnb9:=NB808_807.out;have hnc9:=NB807_808.out;have hcz10_0:w5.cell? ⟨gb808,0,none⟩ = some (.int .i64 0):=(blk_cell BK808.out 0).trans rfl;have hcz10_1:w5.cell? ⟨gb808,1,none⟩ = some (.slice none 0 0):=(blk_cell BK808.out 1).trans rfl;have hfz10_0:=blk_frozen BK808.out 0;have hfz10_1:=blk_frozen BK808.out 1)|((with_reducible refine gate_callee (f:=67) rfl ?_);refine goesL_ (some 9) rfl rfl Try.func67 kR rfl #[.slice A0_1 l0_1.length c0_1] rfl mq ?_;(with_reducible refine (laws_toIntS.calls k _ _ l0_1 t809 _ ?side1 ?side2 A2.out).mono ?_);(case side1=>exact Kd.C_below HR0_1.out bw);(case side2=>exact HC0_1.out);rintro e w11 ⟨v810,rfl,ho0,hb⟩;refine ⟨_,rfl,?_⟩;have n0_:=aM (Kd.R_lower ho0 (below_size bw));have n1_:=aM (blk_below (g:=gb806) (o:=.cells #[.int .i64 a0_0,.slice A0_1 l0_1.length c0_1] 42 (0,0)) (by (with_reducible repeat (first|refine blk_drewN ?_ _|refine blk_drew ?_|refine blk_alloc ?_ _));refine blk_far ?_ NB806_808.out _;(with_reducible repeat (first|refine blk_drewN ?_ _|refine blk_drew ?_|refine blk_alloc ?_ _));exact BK806.out) hb);have n2_:=aM (blk_below (g:=gb807) (o:=.cells #[.int .i64 0,.slice none 0 0] 46 (0,0)) (by (with_reducible repeat (first|refine blk_drewN ?_ _|refine blk_drew ?_|refine blk_alloc ?_ _));refine blk_far ?_ NB807_808.out _;(with_reducible repeat (first|refine blk_drewN ?_ _|refine blk_drew ?_|refine blk_alloc ?_ _));exact BK807.out) hb);have n3_:=aM (blk_below (g:=gb808) (o:=.cells #[.int .i64 a0_0,.slice none 0 0] 46 (0,0)) (by (with_reducible repeat (first|refine blk_drewN ?_ _|refine blk_drew ?_|refine blk_alloc ?_ _));refine blk_put (cs:=#[.int .i64 0,.slice none 0 0]) ?_ 0 _ rfl;(with_reducible repeat (first|refine blk_drewN ?_ _|refine blk_drew ?_|refine blk_alloc ?_ _));exact BK808.out) hb);have n4_:=aM (below_step bw hb);clear BK806;clear BK807;clear BK808;clear HB;have HO811:=n0_;have BK806:=n1_;have BK807:=n2_;have BK808:=n3_;have HB:=n4_;clear n0_ n1_ n2_ n3_ n4_;(try clear hb);(try clear hb2);(try clear hk);(try clear hi);(try clear ho0);obtain ⟨Ao12,co12,eo12⟩:=Kd.R_slice HO811.out;subst eo12;have hcz13_0:w11.cell? ⟨gb808,0,none⟩ = some (.int .i64 a0_0):=(blk_cell BK808.out 0).trans rfl;have hcz13_1:w11.cell? ⟨gb808,1,none⟩ = some (.slice none 0 0):=(blk_cell BK808.out 1).trans rfl;have hfz13_0:=blk_frozen BK808.out 0;have hfz13_1:=blk_frozen BK808.out 1;have hcz14_0:w11.cell? ⟨gb807,0,none⟩ = some (.int .i64 0):=(blk_cell BK807.out 0).trans rfl;have hcz14_1:w11.cell? ⟨gb807,1,none⟩ = some (.slice none 0 0):=(blk_cell BK807.out 1).trans rfl;have hfz14_0:=blk_frozen BK807.out 0;have hfz14_1:=blk_frozen BK807.out 1))
 refine bodyPost_ret (results_cell_row rfl _ _ gb807 46 #[.int .i64 a0_0,.slice Ao12 t809.length co12] (0,0) _ rfl (by (with_reducible repeat (first|refine blk_drewN ?_ _|refine blk_drew ?_|refine blk_alloc ?_ _));refine blk_put (cs:=#[.int .i64 a0_0,.slice none 0 0]) ?_ 1 _ rfl;(with_reducible repeat (first|refine blk_drewN ?_ _|refine blk_drew ?_|refine blk_alloc ?_ _));refine blk_put (cs:=#[.int .i64 0,.slice none 0 0]) ?_ 0 _ rfl;(with_reducible repeat (first|refine blk_drewN ?_ _|refine blk_drew ?_|refine blk_alloc ?_ _));refine blk_far ?_ NB807_808.out _;(with_reducible repeat (first|refine blk_drewN ?_ _|refine blk_drew ?_|refine blk_alloc ?_ _));exact BK807.out) Try.underlying46 rfl kR) rfl ?_;exact ⟨_,by first|rfl|(simp [errW_none,errW_some] <;> rfl)|(simp [*,errW_none,errW_some] <;> rfl),by (with_reducible repeat (first|apply Kd.R_alloc|apply Kd.R_drewN|apply Kd.R_drew));exact Kd.R_mono (Kd.R_far (p:=⟨gb807,1,none⟩) (Kd.R_far (p:=⟨gb807,0,none⟩) (Kd.R_far (p:=⟨gb808,1,none⟩) (Kd.R_types (Kd.R_types HO811.out BK808.out (by decide)) BK807.out (by decide)) (fun _ hk=>hk.1.2) (.slice Ao12 t809.length co12)) (fun _ hk=>hk.2) (.int .i64 a0_0)) (fun _ hk=>hk.2) (.slice Ao12 t809.length co12)) (fun _ hk=>trivial),by exact bw⟩


/-! ### laws_eqIntS: function 51 -/
def laws_eqIntS.l0:Nat → List Int → List Int → Int → Option (Bool)
 | 0,_,_,_=>none
 | k + 1,x0,x1,x5=>if x5 < (x0.length:Int) then (if 0 ≤ x5 then (if x5 < (x1.length:Int) then (if (rd x0 x5) = (rd x1 x5) then (laws_eqIntS.l0 k x0 x1 (wrap64 (x5 + 1))) else (some false)) else (none)) else (none)) else (some true)
def laws_eqIntS.f (k:Nat) (l0:List Int) (l1:List Int):Option (Bool):=if (l0.length:Int) = (l1.length:Int) then (laws_eqIntS.l0 k l0 l1 0) else (some false)
theorem laws_eqIntS.mono_l:∀ k,(∀ y0 y1 y2,LeO (laws_eqIntS.l0 k y0 y1 y2) (laws_eqIntS.l0 (k + 1) y0 y1 y2))
 | 0=>fun _ _ _ r h=>by simp [laws_eqIntS.l0] at h
 | k + 1=>by
  have ih0:=laws_eqIntS.mono_l k
  ·intro y0 y1 y2;unfold laws_eqIntS.l0
   repeat' with_reducible first|exact ih0 _ _ _|exact LeO.refl _|exact LeO.none _|refine LeO.ite ?_ ?_|refine LeO.bind ?_ (fun _=>?_)
theorem laws_eqIntS.mono:∀ a0 a1 k,LeO (laws_eqIntS.f k a0 a1) (laws_eqIntS.f (k + 1) a0 a1):=by
 intro a0 a1 k;have ih0:=laws_eqIntS.mono_l k;unfold laws_eqIntS.f
 repeat' with_reducible first|exact ih0 _ _ _|exact LeO.refl _|exact LeO.none _|refine LeO.ite ?_ ?_|refine LeO.bind ?_ (fun _=>?_)
set_option maxHeartbeats 8000000 in
set_option maxRecDepth 100000 in
theorem laws_eqIntS.calls (k:Nat) (A0:Option Addr) (c0:Nat) (l0:List Int) (A1:Option Addr) (c1:Nat) (l1:List Int) (r:Bool) (w:World) (hr0:Kd.C (Kd.int .i64) w A0 l0.length l0) (hc0:l0.length ≤ c0) (hr1:Kd.C (Kd.int .i64) w A1 l1.length l1) (hc1:l1.length ≤ c1) (h:laws_eqIntS.f k l0 l1 = some r) :
  Calls Try.prog 51 #[.slice A0 l0.length c0,.slice A1 l1.length c1] w fun e w'=>e = .returned (.bool r) ∧ Drawn0 w w':=by
 have HR0:=aM hr0;have HC0:=aM hc0;clear hr0 hc0;have HR1:=aM hr1;have HC1:=aM hc1;clear hr1 hc1;have H:(if (l0.length:Int) = (l1.length:Int) then (laws_eqIntS.l0 k l0 l1 0) else (some false)) = some r:=h;clear h;by_cases c3:(l0.length:Int) = (l1.length:Int)
 ·rw [if_pos c3] at H;have c3b0:((l0.length:Int) == (l1.length:Int)) = true:=beq_iff_eq.mpr c3;have c3b1:((l0.length:Int) != (l1.length:Int)) = false:=bne_eq_false_iff_eq.mpr c3;have c3b2:(l0.length == l1.length) = true:=by first|simpa using c3|(simp at c3 ⊢;omega)
  clear c3;have H':=aM H;clear H;go_enter Try.func51,Try.ntmps51;go_wp2
  repeat (go_quiet (fail);try go_wp2)
  go_loopg [5] k (fun kq v5 w'=>∃ (x5_1:Int),v5 = .int .i64 x5_1 ∧ Aside0 (laws_eqIntS.l0 kq l0 l1 x5_1 = some r) ∧ Aside0 (kq ≤ k) ∧ Drawn0 w w')
  case atStart=>exact ⟨(0),qrs,H',⟨Nat.le_refl _⟩,by repeat (first|exact Drawn0.refl _|apply Drawn0.step)⟩
  case round =>
   clear H';(try clear c1);(try clear p2);(try clear c3);(try clear c3b0);(try clear c3b1);(try clear c3b2)
   obtain ⟨x5_1,rfl,HA,HK1,⟨m1,rfl⟩⟩:=hrel
   cases gk with
   | zero=>exact absurd HA.out (by simp [laws_eqIntS.l0])
   | succ k1 =>
    have H:=HA.out;clear HA;simp only [laws_eqIntS.l0] at H;by_cases c4:x5_1 < (l0.length:Int)
    ·rw [if_pos c4] at H;have c4b0:decide (x5_1 < (l0.length:Int)) = true:=decide_eq_true c4;clear c4;by_cases c5:0 ≤ x5_1
     ·rw [if_pos c5] at H;have c5b0:decide (0 ≤ x5_1) = true:=decide_eq_true c5;clear c5;by_cases c6:x5_1 < (l1.length:Int)
      ·rw [if_pos c6] at H;have c6b0:decide (x5_1 < (l1.length:Int)) = true:=decide_eq_true c6;clear c6;by_cases c7:(rd l0 x5_1) = (rd l1 x5_1)
       ·rw [if_pos c7] at H;have c7b0:((rd l0 x5_1) == (rd l1 x5_1)) = true:=beq_iff_eq.mpr c7;have c7b1:((rd l0 x5_1) != (rd l1 x5_1)) = false:=bne_eq_false_iff_eq.mpr c7;clear c7;have H':=aM H;clear H;have p404:0 ≤ (x5_1:Int):=of_decide_eq_true ab;have q404:x5_1 < (l0.length:Int):=of_decide_eq_true ab;obtain ⟨ad404,e404,hx404_0⟩:=Kd.at_int HR0.out x5_1 p404 q404;cases e404
        replace p404:=eq_true p404;replace q404:=eq_true q404;have p405:0 ≤ (x5_1:Int):=of_decide_eq_true ab;have q405:x5_1 < (l1.length:Int):=of_decide_eq_true ab;obtain ⟨ad405,e405,hx405_0⟩:=Kd.at_int HR1.out x5_1 p405 q405;cases e405
        replace p405:=eq_true p405;replace q405:=eq_true q405;go_wp2
        repeat (go_quiet (fail);try go_wp2)
        go_roundg k1
        case measure=>have:=HK1.out;omega
        case rel=>exact ⟨(wrap64 (x5_1 + 1)),qrs,H',⟨by have:=HK1.out;omega⟩,by repeat (first|exact Drawn0.refl _|apply Drawn0.step)⟩
       ·rw [if_neg c7] at H;have c7b0:((rd l0 x5_1) == (rd l1 x5_1)) = false:=beq_eq_false_iff_ne.mpr c7;have c7b1:((rd l0 x5_1) != (rd l1 x5_1)) = true:=bne_iff_ne.mpr c7;obtain rfl:=Option.some.inj H;have p404:0 ≤ (x5_1:Int):=of_decide_eq_true ab;have q404:x5_1 < (l0.length:Int):=of_decide_eq_true ab;obtain ⟨ad404,e404,hx404_0⟩:=Kd.at_int HR0.out x5_1 p404 q404;cases e404
        replace p404:=eq_true p404;replace q404:=eq_true q404;have p405:0 ≤ (x5_1:Int):=of_decide_eq_true ab;have q405:x5_1 < (l1.length:Int):=of_decide_eq_true ab;obtain ⟨ad405,e405,hx405_0⟩:=Kd.at_int HR1.out x5_1 p405 q405;cases e405
        replace p405:=eq_true p405;replace q405:=eq_true q405;go_wp2
        repeat (go_quiet (fail);try go_wp2)
        go_ret
        exact ⟨by first|rfl|(simp;done)|(simp [*];done),by repeat (first|exact Drawn0.refl _|apply Drawn0.step)⟩
      ·rw [if_neg c6] at H;exact absurd H (by simp)
     ·rw [if_neg c5] at H;exact absurd H (by simp)
    ·rw [if_neg c4] at H;have c4b0:decide (x5_1 < (l0.length:Int)) = false:=decide_eq_false c4;clear c4;obtain rfl:=Option.some.inj H;go_wp2
     repeat (go_quiet (fail);try go_wp2)
     go_ret
     exact ⟨by first|rfl|(simp;done)|(simp [*];done),by repeat (first|exact Drawn0.refl _|apply Drawn0.step)⟩
 ·rw [if_neg c3] at H;have c3b0:((l0.length:Int) == (l1.length:Int)) = false:=beq_eq_false_iff_ne.mpr c3;have c3b1:((l0.length:Int) != (l1.length:Int)) = true:=bne_iff_ne.mpr c3;have c3b2:(l0.length == l1.length) = false:=by first|simpa using c3|(simp at c3 ⊢;omega)
  obtain rfl:=Option.some.inj H;go_enter Try.func51,Try.ntmps51;go_wp2
  repeat (go_quiet (fail);try go_wp2)
  go_ret
  exact ⟨by first|rfl|(simp;done)|(simp [*];done),by repeat (first|exact Drawn0.refl _|apply Drawn0.step)⟩


/-! ### laws_eqCommittee: function 28 -/
def laws_eqCommittee.f (k:Nat) (a0_0:Int) (l0_1:List Int) (a1_0:Int) (l1_1:List Int):Option (Bool):=if a0_0 = a1_0 then ((laws_eqIntS.f k l0_1 l1_1).bind fun t851=>(if t851 = true then (some true) else (some false))) else (some false)
theorem laws_eqCommittee.mono:∀ a0 a1 a2 a3 k,LeO (laws_eqCommittee.f k a0 a1 a2 a3) (laws_eqCommittee.f (k + 1) a0 a1 a2 a3):=by
 intro a0 a1 a2 a3 k;unfold laws_eqCommittee.f
 repeat' with_reducible first|exact laws_eqIntS.mono _ _ _|exact LeO.refl _|exact LeO.none _|refine LeO.ite ?_ ?_|refine LeO.bind ?_ (fun _=>?_)
set_option maxHeartbeats 8000000 in
set_option maxRecDepth 100000 in
theorem laws_eqCommittee.calls (k:Nat) (a0_0:Int) (A0_1:Option Addr) (c0_1:Nat) (l0_1:List Int) (a1_0:Int) (A1_1:Option Addr) (c1_1:Nat) (l1_1:List Int) (r:Bool) (w:World) (hr0_1:Kd.C (Kd.int .i64) w A0_1 l0_1.length l0_1) (hc0_1:l0_1.length ≤ c0_1) (hr1_1:Kd.C (Kd.int .i64) w A1_1 l1_1.length l1_1) (hc1_1:l1_1.length ≤ c1_1) (h:laws_eqCommittee.f k a0_0 l0_1 a1_0 l1_1 = some r) :
  Calls Try.prog 28 #[.agg #[.int .i64 a0_0,.slice A0_1 l0_1.length c0_1],.agg #[.int .i64 a1_0,.slice A1_1 l1_1.length c1_1]] w fun e w'=>e = .returned (.bool r) ∧ Below w.heap.size w w':=by
 have hu46:=Try.underlying46;have HR0_1:=aM hr0_1;have HC0_1:=aM hc0_1;clear hr0_1 hc0_1;have HR1_1:=aM hr1_1;have HC1_1:=aM hc1_1;clear hr1_1 hc1_1;have HB:=aM (Below.refl w.heap.size w);have H:(if a0_0 = a1_0 then ((laws_eqIntS.f k l0_1 l1_1).bind fun t851=>(if t851 = true then (some true) else (some false))) else (some false)) = some r:=h;clear h;by_cases c3:a0_0 = a1_0
 ·rw [if_pos c3] at H;have c3b0:(a0_0 == a1_0) = true:=beq_iff_eq.mpr c3;have c3b1:(a0_0 != a1_0) = false:=bne_eq_false_iff_eq.mpr c3;clear c3;replace H:=Option.bind_eq_some_iff.mp H;obtain ⟨t851,A40,H⟩:=H;replace H:(if t851 = true then (some true) else (some false)) = some r:=H;have A4:=aM A40;clear A40;by_cases c5:t851 = true
  ·subst c5;have H1:(some true) = some r:=by rw [if_pos rfl] at H;exact H
   clear H;have H:=H1;clear H1;obtain rfl:=Option.some.inj H;go_enter Try.func28,Try.ntmps28;go_wp2_with (first|((with_reducible refine gate_dst (N:=2) rfl ?_);refine box_event ?hg (N:=2) ?hd (cs:=#[.int .i64 a0_0,.slice A0_1 l0_1.length c0_1]) (t:=46) ?hr ?_;(case hd=>rfl);(case hg=>rfl);(case hr=>first|(go_simp;done)|(go_simp;rfl));intro gb849 hg w6 hbox hb;have n0_:=aM (below_step bw hb);have n1_:=aM (hbox);have n2_:=aM ((by rw [hg];exact (below_size bw):w.heap.size ≤ gb849));have n3_:=aM ((by rw [hg];exact (below_size bw):w.heap.size ≤ gb849));clear HB;have HB:=n0_;have BK849:=n1_;have GW849:=n2_;have GE849:=n3_;clear n0_ n1_ n2_ n3_;clear hb hbox hg)|((with_reducible refine gate_dst (N:=3) rfl ?_);refine box_event ?hg (N:=3) ?hd (cs:=#[.int .i64 a1_0,.slice A1_1 l1_1.length c1_1]) (t:=46) ?hr ?_;(case hd=>rfl);(case hg=>rfl);(case hr=>first|(go_simp;done)|(go_simp;rfl));intro gb850 hg w7 hbox hb;have n0_:=aM (blk_below (g:=gb849) (o:=.cells #[.int .i64 a0_0,.slice A0_1 l0_1.length c0_1] 46 (0,0)) bk hb);have n1_:=aM (below_step bw hb);have n2_:=aM (hbox);have n3_:=aM ((by rw [hg];exact (below_size bw):w.heap.size ≤ gb850));have n4_:=aM ((by rw [hg];exact (below_size bw):w.heap.size ≤ gb850));have n5_:=aM ((by rw [hg];exact Nat.ne_of_lt (blk_lt (g:=gb849) (o:=.cells #[.int .i64 a0_0,.slice A0_1 l0_1.length c0_1] 46 (0,0)) bk):gb849 ≠ gb850));have n6_:=aM ((by rw [hg];exact Nat.ne_of_gt (blk_lt (g:=gb849) (o:=.cells #[.int .i64 a0_0,.slice A0_1 l0_1.length c0_1] 46 (0,0)) bk):gb850 ≠ gb849));clear BK849;clear HB;have BK849:=n0_;have HB:=n1_;have BK850:=n2_;have GW850:=n3_;have GE850:=n4_;have NB849_850:=n5_;have NB850_849:=n6_;clear n0_ n1_ n2_ n3_ n4_ n5_ n6_;clear hb hbox hg;have hnb8:=NB849_850.out;have hnc8:=NB850_849.out;have hcz9_0:w7.cell? ⟨gb849,0,none⟩ = some (.int .i64 a0_0):=(blk_cell BK849.out 0).trans rfl;have hcz9_1:w7.cell? ⟨gb849,1,none⟩ = some (.slice A0_1 l0_1.length c0_1):=(blk_cell BK849.out 1).trans rfl;have hfz9_0:=blk_frozen BK849.out 0;have hfz9_1:=blk_frozen BK849.out 1;have hcz10_0:w7.cell? ⟨gb850,0,none⟩ = some (.int .i64 a1_0):=(blk_cell BK850.out 0).trans rfl;have hcz10_1:w7.cell? ⟨gb850,1,none⟩ = some (.slice A1_1 l1_1.length c1_1):=(blk_cell BK850.out 1).trans rfl;have hfz10_0:=blk_frozen BK850.out 0;have hfz10_1:=blk_frozen BK850.out 1)|((with_reducible refine gate_callee (f:=51) rfl ?_);refine goesL_ (some 14) rfl rfl Try.func51 kR rfl #[.slice A0_1 l0_1.length c0_1,.slice A1_1 l1_1.length c1_1] rfl mq ?_;(with_reducible refine (laws_eqIntS.calls k _ _ l0_1 _ _ l1_1 true _ ?side1 ?side2 ?side3 ?side4 A4.out).mono ?_);(case side1=>exact qcs HR0_1.out HB.out);(case side2=>exact HC0_1.out);(case side3=>exact qcs HR1_1.out HB.out);(case side4=>exact HC1_1.out);rintro e w' ⟨rfl,⟨nd,rfl⟩⟩;refine ⟨_,rfl,?_⟩))
   go_ret
   exact ⟨by first|rfl|(simp [errW_none,errW_some] <;> rfl)|(simp [*,errW_none,errW_some] <;> rfl),by exact bw⟩
  ·replace c5:=Bool.eq_false_iff.mpr c5;subst c5;have H1:(some false) = some r:=by rw [if_neg (show ¬ (false = true) by decide)] at H;exact H
   clear H;have H:=H1;clear H1;obtain rfl:=Option.some.inj H;go_enter Try.func28,Try.ntmps28;go_wp2_with (first|((with_reducible refine gate_dst (N:=2) rfl ?_);refine box_event ?hg (N:=2) ?hd (cs:=#[.int .i64 a0_0,.slice A0_1 l0_1.length c0_1]) (t:=46) ?hr ?_;(case hd=>rfl);(case hg=>rfl);(case hr=>first|(go_simp;done)|(go_simp;rfl));intro gb849 hg w11 hbox hb;have n0_:=aM (below_step bw hb);have n1_:=aM (hbox);have n2_:=aM ((by rw [hg];exact (below_size bw):w.heap.size ≤ gb849));have n3_:=aM ((by rw [hg];exact (below_size bw):w.heap.size ≤ gb849));clear HB;have HB:=n0_;have BK849:=n1_;have GW849:=n2_;have GE849:=n3_;clear n0_ n1_ n2_ n3_;clear hb hbox hg)|((with_reducible refine gate_dst (N:=3) rfl ?_);refine box_event ?hg (N:=3) ?hd (cs:=#[.int .i64 a1_0,.slice A1_1 l1_1.length c1_1]) (t:=46) ?hr ?_;(case hd=>rfl);(case hg=>rfl);(case hr=>first|(go_simp;done)|(go_simp;rfl));intro gb850 hg w12 hbox hb;have n0_:=aM (blk_below (g:=gb849) (o:=.cells #[.int .i64 a0_0,.slice A0_1 l0_1.length c0_1] 46 (0,0)) bk hb);have n1_:=aM (below_step bw hb);have n2_:=aM (hbox);have n3_:=aM ((by rw [hg];exact (below_size bw):w.heap.size ≤ gb850));have n4_:=aM ((by rw [hg];exact (below_size bw):w.heap.size ≤ gb850));have n5_:=aM ((by rw [hg];exact Nat.ne_of_lt (blk_lt (g:=gb849) (o:=.cells #[.int .i64 a0_0,.slice A0_1 l0_1.length c0_1] 46 (0,0)) bk):gb849 ≠ gb850));have n6_:=aM ((by rw [hg];exact Nat.ne_of_gt (blk_lt (g:=gb849) (o:=.cells #[.int .i64 a0_0,.slice A0_1 l0_1.length c0_1] 46 (0,0)) bk):gb850 ≠ gb849));clear BK849;clear HB;have BK849:=n0_;have HB:=n1_;have BK850:=n2_;have GW850:=n3_;have GE850:=n4_;have NB849_850:=n5_;have NB850_849:=n6_;clear n0_ n1_ n2_ n3_ n4_ n5_ n6_;clear hb hbox hg;have hnb13:=NB849_850.out;have hnc13:=NB850_849.out;have hcz14_0:w12.cell? ⟨gb849,0,none⟩ = some (.int .i64 a0_0):=(blk_cell BK849.out 0).trans rfl;have hcz14_1:w12.cell? ⟨gb849,1,none⟩ = some (.slice A0_1 l0_1.length c0_1):=(blk_cell BK849.out 1).trans rfl;have hfz14_0:=blk_frozen BK849.out 0;have hfz14_1:=blk_frozen BK849.out 1;have hcz15_0:w12.cell? ⟨gb850,0,none⟩ = some (.int .i64 a1_0):=(blk_cell BK850.out 0).trans rfl;have hcz15_1:w12.cell? ⟨gb850,1,none⟩ = some (.slice A1_1 l1_1.length c1_1):=(blk_cell BK850.out 1).trans rfl;have hfz15_0:=blk_frozen BK850.out 0;have hfz15_1:=blk_frozen BK850.out 1)|((with_reducible refine gate_callee (f:=51) rfl ?_);refine goesL_ (some 14) rfl rfl Try.func51 kR rfl #[.slice A0_1 l0_1.length c0_1,.slice A1_1 l1_1.length c1_1] rfl mq ?_;(with_reducible refine (laws_eqIntS.calls k _ _ l0_1 _ _ l1_1 false _ ?side1 ?side2 ?side3 ?side4 A4.out).mono ?_);(case side1=>exact qcs HR0_1.out HB.out);(case side2=>exact HC0_1.out);(case side3=>exact qcs HR1_1.out HB.out);(case side4=>exact HC1_1.out);rintro e w' ⟨rfl,⟨nd,rfl⟩⟩;refine ⟨_,rfl,?_⟩))
   go_ret
   exact ⟨by first|rfl|(simp [errW_none,errW_some] <;> rfl)|(simp [*,errW_none,errW_some] <;> rfl),by exact bw⟩
 ·rw [if_neg c3] at H;have c3b0:(a0_0 == a1_0) = false:=beq_eq_false_iff_ne.mpr c3;have c3b1:(a0_0 != a1_0) = true:=bne_iff_ne.mpr c3;obtain rfl:=Option.some.inj H;go_enter Try.func28,Try.ntmps28;go_wp2_with (first|((with_reducible refine gate_dst (N:=2) rfl ?_);refine box_event ?hg (N:=2) ?hd (cs:=#[.int .i64 a0_0,.slice A0_1 l0_1.length c0_1]) (t:=46) ?hr ?_;(case hd=>rfl);(case hg=>rfl);(case hr=>first|(go_simp;done)|(go_simp;rfl));intro gb849 hg w16 hbox hb;have n0_:=aM (below_step bw hb);have n1_:=aM (hbox);have n2_:=aM ((by rw [hg];exact (below_size bw):w.heap.size ≤ gb849));have n3_:=aM ((by rw [hg];exact (below_size bw):w.heap.size ≤ gb849));clear HB;have HB:=n0_;have BK849:=n1_;have GW849:=n2_;have GE849:=n3_;clear n0_ n1_ n2_ n3_;clear hb hbox hg)|((with_reducible refine gate_dst (N:=3) rfl ?_);refine box_event ?hg (N:=3) ?hd (cs:=#[.int .i64 a1_0,.slice A1_1 l1_1.length c1_1]) (t:=46) ?hr ?_;(case hd=>rfl);(case hg=>rfl);(case hr=>first|(go_simp;done)|(go_simp;rfl));intro gb850 hg w17 hbox hb;have n0_:=aM (blk_below (g:=gb849) (o:=.cells #[.int .i64 a0_0,.slice A0_1 l0_1.length c0_1] 46 (0,0)) bk hb);have n1_:=aM (below_step bw hb);have n2_:=aM (hbox);have n3_:=aM ((by rw [hg];exact (below_size bw):w.heap.size ≤ gb850));have n4_:=aM ((by rw [hg];exact (below_size bw):w.heap.size ≤ gb850));have n5_:=aM ((by rw [hg];exact Nat.ne_of_lt (blk_lt (g:=gb849) (o:=.cells #[.int .i64 a0_0,.slice A0_1 l0_1.length c0_1] 46 (0,0)) bk):gb849 ≠ gb850));have n6_:=aM ((by rw [hg];exact Nat.ne_of_gt (blk_lt (g:=gb849) (o:=.cells #[.int .i64 a0_0,.slice A0_1 l0_1.length c0_1] 46 (0,0)) bk):gb850 ≠ gb849));clear BK849;clear HB;have BK849:=n0_;have HB:=n1_;have BK850:=n2_;have GW850:=n3_;have GE850:=n4_;have NB849_850:=n5_;have NB850_849:=n6_;clear n0_ n1_ n2_ n3_ n4_ n5_ n6_;clear hb hbox hg;have hnb18:=NB849_850.out;have hnc18:=NB850_849.out;have hcz19_0:w17.cell? ⟨gb849,0,none⟩ = some (.int .i64 a0_0):=(blk_cell BK849.out 0).trans rfl;have hcz19_1:w17.cell? ⟨gb849,1,none⟩ = some (.slice A0_1 l0_1.length c0_1):=(blk_cell BK849.out 1).trans rfl;have hfz19_0:=blk_frozen BK849.out 0;have hfz19_1:=blk_frozen BK849.out 1;have hcz20_0:w17.cell? ⟨gb850,0,none⟩ = some (.int .i64 a1_0):=(blk_cell BK850.out 0).trans rfl;have hcz20_1:w17.cell? ⟨gb850,1,none⟩ = some (.slice A1_1 l1_1.length c1_1):=(blk_cell BK850.out 1).trans rfl;have hfz20_0:=blk_frozen BK850.out 0;have hfz20_1:=blk_frozen BK850.out 1))
  go_ret
  exact ⟨by first|rfl|(simp [errW_none,errW_some] <;> rfl)|(simp [*,errW_none,errW_some] <;> rfl),by exact bw⟩


/-! ### impl_isIncreasing: function 168 -/
def impl_isIncreasing.l0:Nat → List Int → Int → Int → Option (Bool)
 | 0,_,_,_=>none
 | k + 1,x0,x5,x6=>if x6 < x5 then (if x6 > 0 then (if 0 ≤ x6 then (if x6 < (x0.length:Int) then (if 0 ≤ (wrap64 (x6 - 1)) then (if (wrap64 (x6 - 1)) < (x0.length:Int) then (if (rd x0 x6) ≤ (rd x0 (wrap64 (x6 - 1))) then (some false) else (impl_isIncreasing.l0 k x0 x5 (wrap64 (x6 + 1)))) else (none)) else (none)) else (none)) else (none)) else (impl_isIncreasing.l0 k x0 x5 (wrap64 (x6 + 1)))) else (some true)
def impl_isIncreasing.f (k:Nat) (l0:List Int):Option (Bool):=impl_isIncreasing.l0 k l0 (l0.length:Int) 0
theorem impl_isIncreasing.mono_l:∀ k,(∀ y0 y1 y2,LeO (impl_isIncreasing.l0 k y0 y1 y2) (impl_isIncreasing.l0 (k + 1) y0 y1 y2))
 | 0=>fun _ _ _ r h=>by simp [impl_isIncreasing.l0] at h
 | k + 1=>by
  have ih0:=impl_isIncreasing.mono_l k
  ·intro y0 y1 y2;unfold impl_isIncreasing.l0
   repeat' with_reducible first|exact ih0 _ _ _|exact LeO.refl _|exact LeO.none _|refine LeO.ite ?_ ?_|refine LeO.bind ?_ (fun _=>?_)
theorem impl_isIncreasing.mono:∀ a0 k,LeO (impl_isIncreasing.f k a0) (impl_isIncreasing.f (k + 1) a0):=by
 intro a0 k;have ih0:=impl_isIncreasing.mono_l k;unfold impl_isIncreasing.f
 repeat' with_reducible first|exact ih0 _ _ _|exact LeO.refl _|exact LeO.none _|refine LeO.ite ?_ ?_|refine LeO.bind ?_ (fun _=>?_)
set_option maxHeartbeats 8000000 in
set_option maxRecDepth 100000 in
theorem impl_isIncreasing.calls (k:Nat) (A0:Option Addr) (c0:Nat) (l0:List Int) (r:Bool) (w:World) (hr0:Kd.C (Kd.int .i64) w A0 l0.length l0) (hc0:l0.length ≤ c0) (h:impl_isIncreasing.f k l0 = some r) :
  Calls Try.prog 168 #[.slice A0 l0.length c0] w fun e w'=>e = .returned (.bool r) ∧ Drawn0 w w':=by
 have HR0:=aM hr0;have HC0:=aM hc0;clear hr0 hc0;have H:(impl_isIncreasing.l0 k l0 (l0.length:Int) 0) = some r:=h;clear h;have H':=aM H;clear H;go_enter Try.func168,Try.ntmps168;go_wp2
 repeat (go_quiet (fail);try go_wp2)
 go_loopg [6] k (fun kq v6 w'=>∃ (x6_1:Int),v6 = .int .i64 x6_1 ∧ Aside0 (impl_isIncreasing.l0 kq l0 (l0.length:Int) x6_1 = some r) ∧ Aside0 (kq ≤ k) ∧ Drawn0 w w')
 case atStart=>exact ⟨(0),qrs,H',⟨Nat.le_refl _⟩,by repeat (first|exact Drawn0.refl _|apply Drawn0.step)⟩
 case round =>
  clear H'
  try clear c1
  obtain ⟨x6_1,rfl,HA,HK1,⟨m1,rfl⟩⟩:=hrel
  cases gk with
  | zero=>exact absurd HA.out (by simp [impl_isIncreasing.l0])
  | succ k1 =>
   have H:=HA.out;clear HA;simp only [impl_isIncreasing.l0] at H;by_cases c2:x6_1 < (l0.length:Int)
   ·rw [if_pos c2] at H;have c2b0:decide (x6_1 < (l0.length:Int)) = true:=decide_eq_true c2;clear c2;by_cases c3:x6_1 > 0
    ·rw [if_pos c3] at H;have c3b0:decide (0 < x6_1) = true:=decide_eq_true c3;clear c3;by_cases c4:0 ≤ x6_1
     ·rw [if_pos c4] at H;have c4b0:decide (0 ≤ x6_1) = true:=decide_eq_true c4;clear c4;by_cases c5:x6_1 < (l0.length:Int)
      ·rw [if_pos c5] at H;have c5b0:decide (x6_1 < (l0.length:Int)) = true:=decide_eq_true c5;clear c5;obtain ⟨ji6,hji6⟩:∃ j_:Int,(wrap64 (x6_1 - 1)) = j_:=⟨_,rfl⟩;replace H:(if 0 ≤ (ji6) then (if (ji6) < (l0.length:Int) then (if (rd l0 x6_1) ≤ (rd l0 (ji6)) then (some false) else (impl_isIncreasing.l0 k1 l0 (l0.length:Int) (wrap64 (x6_1 + 1)))) else (none)) else (none)) = some r:=by first|(rw [hji6] at H;exact H)|(simp only [hji6] at H ⊢;exact H)
       have hji6w:(IntKind.i64.wrap (x6_1 - 1)) = ji6:=(i64_w _).trans hji6;by_cases c7:0 ≤ (ji6)
       ·rw [if_pos c7] at H;have c7b0:decide (0 ≤ (ji6)) = true:=decide_eq_true c7;clear c7;by_cases c8:(ji6) < (l0.length:Int)
        ·rw [if_pos c8] at H;have c8b0:decide ((ji6) < (l0.length:Int)) = true:=decide_eq_true c8;clear c8;by_cases c9:(rd l0 x6_1) ≤ (rd l0 (ji6))
         ·rw [if_pos c9] at H;have c9b0:decide ((rd l0 x6_1) ≤ (rd l0 (ji6))) = true:=decide_eq_true c9;clear c9;obtain rfl:=Option.some.inj H;have p288:0 ≤ (x6_1:Int):=of_decide_eq_true ab;have q288:x6_1 < (l0.length:Int):=of_decide_eq_true ab;obtain ⟨ad288,e288,hx288_0⟩:=Kd.at_int HR0.out x6_1 p288 q288;cases e288
          replace p288:=eq_true p288;replace q288:=eq_true q288;have p289:0 ≤ ((ji6):Int):=of_decide_eq_true ab;have q289:(ji6) < (l0.length:Int):=of_decide_eq_true ab;obtain ⟨ad289,e289,hx289_0⟩:=Kd.at_int HR0.out (ji6) p289 q289;obtain rfl:ad288 = ad289:=(by injection e289);replace p289:=eq_true p289;replace q289:=eq_true q289;go_wp2
          repeat (go_quiet (fail);try go_wp2)
          go_ret
          exact ⟨by first|rfl|(simp;done)|(simp only [← hji6] <;> (first|rfl|simp))|(simp [*];done),by repeat (first|exact Drawn0.refl _|apply Drawn0.step)⟩
         ·rw [if_neg c9] at H;have c9b0:decide ((rd l0 x6_1) ≤ (rd l0 (ji6))) = false:=decide_eq_false c9;clear c9;have H':=aM H;clear H;have p288:0 ≤ (x6_1:Int):=of_decide_eq_true ab;have q288:x6_1 < (l0.length:Int):=of_decide_eq_true ab;obtain ⟨ad288,e288,hx288_0⟩:=Kd.at_int HR0.out x6_1 p288 q288;cases e288
          replace p288:=eq_true p288;replace q288:=eq_true q288;have p289:0 ≤ ((ji6):Int):=of_decide_eq_true ab;have q289:(ji6) < (l0.length:Int):=of_decide_eq_true ab;obtain ⟨ad289,e289,hx289_0⟩:=Kd.at_int HR0.out (ji6) p289 q289;obtain rfl:ad288 = ad289:=(by injection e289);replace p289:=eq_true p289;replace q289:=eq_true q289;go_wp2
          repeat (go_quiet (fail);try go_wp2)
          go_roundg k1
          case measure=>have:=HK1.out;omega
          case rel=>exact ⟨(wrap64 (x6_1 + 1)),qrs,H',⟨by have:=HK1.out;omega⟩,by repeat (first|exact Drawn0.refl _|apply Drawn0.step)⟩
        ·rw [if_neg c8] at H;exact absurd H (by simp)
       ·rw [if_neg c7] at H;exact absurd H (by simp)
      ·rw [if_neg c5] at H;exact absurd H (by simp)
     ·rw [if_neg c4] at H;exact absurd H (by simp)
    ·rw [if_neg c3] at H;have c3b0:decide (0 < x6_1) = false:=decide_eq_false c3;clear c3;have H':=aM H;clear H;go_wp2
     repeat (go_quiet (fail);try go_wp2)
     go_roundg k1
     case measure=>have:=HK1.out;omega
     case rel=>exact ⟨(wrap64 (x6_1 + 1)),qrs,H',⟨by have:=HK1.out;omega⟩,by repeat (first|exact Drawn0.refl _|apply Drawn0.step)⟩
   ·rw [if_neg c2] at H;have c2b0:decide (x6_1 < (l0.length:Int)) = false:=decide_eq_false c2;clear c2;obtain rfl:=Option.some.inj H;go_wp2
    repeat (go_quiet (fail);try go_wp2)
    go_ret
    exact ⟨by first|rfl|(simp;done)|(simp [*];done),by repeat (first|exact Drawn0.refl _|apply Drawn0.step)⟩


/-! ### impl_isSet: function 154 -/
def impl_isSet.f (k:Nat) (l0:List Int) (a1:Int):Option (Bool):=(impl_areIn.f k l0 0 (wrap64 (a1 - 1))).bind fun t290=>(if t290 = true then ((impl_isIncreasing.f k l0).bind fun t291=>(some t291)) else (some false))
theorem impl_isSet.mono:∀ a0 a1 k,LeO (impl_isSet.f k a0 a1) (impl_isSet.f (k + 1) a0 a1):=by
 intro a0 a1 k;unfold impl_isSet.f
 repeat' with_reducible first|exact impl_areIn.mono _ _ _ _|exact impl_isIncreasing.mono _ _|exact LeO.refl _|exact LeO.none _|refine LeO.ite ?_ ?_|refine LeO.bind ?_ (fun _=>?_)
set_option maxHeartbeats 8000000 in
set_option maxRecDepth 100000 in
theorem impl_isSet.calls (k:Nat) (A0:Option Addr) (c0:Nat) (l0:List Int) (a1:Int) (r:Bool) (w:World) (hr0:Kd.C (Kd.int .i64) w A0 l0.length l0) (hc0:l0.length ≤ c0) (h:impl_isSet.f k l0 a1 = some r) :
  Calls Try.prog 154 #[.slice A0 l0.length c0,.int .i64 a1] w fun e w'=>e = .returned (.bool r) ∧ Below w.heap.size w w':=by
 have HR0:=aM hr0;have HC0:=aM hc0;clear hr0 hc0;have HB:=aM (Below.refl w.heap.size w);have H:((impl_areIn.f k l0 0 (wrap64 (a1 - 1))).bind fun t290=>(if t290 = true then ((impl_isIncreasing.f k l0).bind fun t291=>(some t291)) else (some false))) = some r:=h;clear h;replace H:=Option.bind_eq_some_iff.mp H;obtain ⟨t290,A30,H⟩:=H;replace H:(if t290 = true then ((impl_isIncreasing.f k l0).bind fun t291=>(some t291)) else (some false)) = some r:=H;have A3:=aM A30;clear A30;by_cases c4:t290 = true
 ·subst c4;have H1:((impl_isIncreasing.f k l0).bind fun t291=>(some t291)) = some r:=by rw [if_pos rfl] at H;exact H
  clear H;have H:=H1;clear H1;replace H:=Option.bind_eq_some_iff.mp H;obtain ⟨t291,A50,H⟩:=H;replace H:(some t291) = some r:=H;have A5:=aM A50;clear A50;obtain rfl:=Option.some.inj H;go_enter Try.func154,Try.ntmps154;go_wp2_with (first|((with_reducible refine gate_callee (f:=108) rfl ?_);refine goesL_ (some 8) rfl rfl Try.func108 kR rfl #[.slice A0 l0.length c0,.int .i64 0,.int .i64 (wrap64 (a1 - 1))] rfl mq ?_;(with_reducible refine (impl_areIn.calls k _ _ l0 0 (wrap64 (a1 - 1)) true _ ?side1 ?side2 A3.out).mono ?_);(case side1=>repeat (first|exact HR0.out|(with_reducible refine Kd.C_alloc ?_ _)|(with_reducible refine Kd.C_drewN ?_ _)|(with_reducible refine Kd.C_drew ?_)));(case side2=>exact HC0.out);rintro e w6 ⟨rfl,hb⟩;refine ⟨_,rfl,?_⟩;have n0_:=aM (below_step bw hb);clear HB;have HB:=n0_;clear n0_;(try clear hb);(try clear hb2);(try clear hk);(try clear hi))|(go_at_call 168;(with_reducible refine (impl_isIncreasing.calls k _ _ l0 t291 _ ?side1 ?side2 A5.out).mono ?_);(case side1=>exact qcs HR0.out HB.out);(case side2=>exact HC0.out);rintro e w' ⟨rfl,⟨nd,rfl⟩⟩))
  go_ret
  exact ⟨by first|rfl|(simp [errW_none,errW_some] <;> rfl)|(simp [*,errW_none,errW_some] <;> rfl),by exact bw⟩
 ·replace c4:=Bool.eq_false_iff.mpr c4;subst c4;have H1:(some false) = some r:=by rw [if_neg (show ¬ (false = true) by decide)] at H;exact H
  clear H;have H:=H1;clear H1;obtain rfl:=Option.some.inj H;go_enter Try.func154,Try.ntmps154;go_wp2_with (first|((with_reducible refine gate_callee (f:=108) rfl ?_);refine goesL_ (some 8) rfl rfl Try.func108 kR rfl #[.slice A0 l0.length c0,.int .i64 0,.int .i64 (wrap64 (a1 - 1))] rfl mq ?_;(with_reducible refine (impl_areIn.calls k _ _ l0 0 (wrap64 (a1 - 1)) false _ ?side1 ?side2 A3.out).mono ?_);(case side1=>repeat (first|exact HR0.out|(with_reducible refine Kd.C_alloc ?_ _)|(with_reducible refine Kd.C_drewN ?_ _)|(with_reducible refine Kd.C_drew ?_)));(case side2=>exact HC0.out);rintro e w7 ⟨rfl,hb⟩;refine ⟨_,rfl,?_⟩;have n0_:=aM (below_step bw hb);clear HB;have HB:=n0_;clear n0_;(try clear hb);(try clear hb2);(try clear hk);(try clear hi)))
  go_ret
  exact ⟨by first|rfl|(simp [errW_none,errW_some] <;> rfl)|(simp [*,errW_none,errW_some] <;> rfl),by exact bw⟩


/-! ### spec_l1Rising: function 166 -/
def spec_l1Rising.l0:Nat → List Int → Int → Int → List Int → Int → Int → Option (Bool)
 | 0,_,_,_,_,_,_=>none
 | k + 1,x0,x1,x2,x9,x10,x11=>if x11 < x10 then (if 0 ≤ x11 then (if x11 < (x9.length:Int) then ((spec_l1In.f (rd x9 x11) x1 x2).bind fun t125=>(if t125 = true then (if x11 > 0 then (if 0 ≤ (wrap64 (x11 - 1)) then (if (wrap64 (x11 - 1)) < (x0.length:Int) then (if (rd x0 (wrap64 (x11 - 1))) ≥ (rd x9 x11) then (some false) else (spec_l1Rising.l0 k x0 x1 x2 x9 x10 (wrap64 (x11 + 1)))) else (none)) else (none)) else (spec_l1Rising.l0 k x0 x1 x2 x9 x10 (wrap64 (x11 + 1)))) else (some false))) else (none)) else (none)) else (some true)
def spec_l1Rising.f (k:Nat) (l0:List Int) (a1:Int) (a2:Int):Option (Bool):=spec_l1Rising.l0 k l0 a1 a2 l0 (l0.length:Int) 0
theorem spec_l1Rising.mono_l:∀ k,(∀ y0 y1 y2 y3 y4 y5,LeO (spec_l1Rising.l0 k y0 y1 y2 y3 y4 y5) (spec_l1Rising.l0 (k + 1) y0 y1 y2 y3 y4 y5))
 | 0=>fun _ _ _ _ _ _ r h=>by simp [spec_l1Rising.l0] at h
 | k + 1=>by
  have ih0:=spec_l1Rising.mono_l k
  ·intro y0 y1 y2 y3 y4 y5;unfold spec_l1Rising.l0
   repeat' with_reducible first|exact ih0 _ _ _ _ _ _|exact LeO.refl _|exact LeO.none _|refine LeO.ite ?_ ?_|refine LeO.bind ?_ (fun _=>?_)
theorem spec_l1Rising.mono:∀ a0 a1 a2 k,LeO (spec_l1Rising.f k a0 a1 a2) (spec_l1Rising.f (k + 1) a0 a1 a2):=by
 intro a0 a1 a2 k;have ih0:=spec_l1Rising.mono_l k;unfold spec_l1Rising.f
 repeat' with_reducible first|exact ih0 _ _ _ _ _ _|exact LeO.refl _|exact LeO.none _|refine LeO.ite ?_ ?_|refine LeO.bind ?_ (fun _=>?_)
set_option maxHeartbeats 8000000 in
set_option maxRecDepth 100000 in
theorem spec_l1Rising.calls (k:Nat) (A0:Option Addr) (c0:Nat) (l0:List Int) (a1:Int) (a2:Int) (r:Bool) (w:World) (hr0:Kd.C (Kd.int .i64) w A0 l0.length l0) (hc0:l0.length ≤ c0) (h:spec_l1Rising.f k l0 a1 a2 = some r) :
  Calls Try.prog 166 #[.slice A0 l0.length c0,.int .i64 a1,.int .i64 a2] w fun e w'=>e = .returned (.bool r) ∧ Drawn0 w w':=by
 have HR0:=aM hr0;have HC0:=aM hc0;clear hr0 hc0;have H:(spec_l1Rising.l0 k l0 a1 a2 l0 (l0.length:Int) 0) = some r:=h;clear h;have H':=aM H;clear H;go_enter Try.func166,Try.ntmps166;go_wp2
 go_loopg [11] k (fun kq v11 w'=>∃ (x11_1:Int),v11 = .int .i64 x11_1 ∧ Aside0 (spec_l1Rising.l0 kq l0 a1 a2 l0 (l0.length:Int) x11_1 = some r) ∧ Aside0 (kq ≤ k) ∧ Drawn0 w w')
 case atStart=>exact ⟨(0),qrs,H',⟨Nat.le_refl _⟩,by repeat (first|exact Drawn0.refl _|apply Drawn0.step)⟩
 case round =>
  clear H';(try clear c1);(try clear p2)
  obtain ⟨x11_1,rfl,HA,HK1,⟨m1,rfl⟩⟩:=hrel
  cases gk with
  | zero=>exact absurd HA.out (by simp [spec_l1Rising.l0])
  | succ k1 =>
   have H:=HA.out;clear HA;simp only [spec_l1Rising.l0] at H;by_cases c4:x11_1 < (l0.length:Int)
   ·rw [if_pos c4] at H;have c4b0:decide (x11_1 < (l0.length:Int)) = true:=decide_eq_true c4;clear c4;by_cases c5:0 ≤ x11_1
    ·rw [if_pos c5] at H;have c5b0:decide (0 ≤ x11_1) = true:=decide_eq_true c5;clear c5;by_cases c6:x11_1 < (l0.length:Int)
     ·rw [if_pos c6] at H;have c6b0:decide (x11_1 < (l0.length:Int)) = true:=decide_eq_true c6;clear c6;replace H:=Option.bind_eq_some_iff.mp H;obtain ⟨t125,A70,H⟩:=H;replace H:(if t125 = true then (if x11_1 > 0 then (if 0 ≤ (wrap64 (x11_1 - 1)) then (if (wrap64 (x11_1 - 1)) < (l0.length:Int) then (if (rd l0 (wrap64 (x11_1 - 1))) ≥ (rd l0 x11_1) then (some false) else (spec_l1Rising.l0 k1 l0 a1 a2 l0 (l0.length:Int) (wrap64 (x11_1 + 1)))) else (none)) else (none)) else (spec_l1Rising.l0 k1 l0 a1 a2 l0 (l0.length:Int) (wrap64 (x11_1 + 1)))) else (some false)) = some r:=H;have A7:=aM A70;clear A70;by_cases c8:t125 = true
      ·subst c8;have H1:(if x11_1 > 0 then (if 0 ≤ (wrap64 (x11_1 - 1)) then (if (wrap64 (x11_1 - 1)) < (l0.length:Int) then (if (rd l0 (wrap64 (x11_1 - 1))) ≥ (rd l0 x11_1) then (some false) else (spec_l1Rising.l0 k1 l0 a1 a2 l0 (l0.length:Int) (wrap64 (x11_1 + 1)))) else (none)) else (none)) else (spec_l1Rising.l0 k1 l0 a1 a2 l0 (l0.length:Int) (wrap64 (x11_1 + 1)))) = some r:=by rw [if_pos rfl] at H;exact H
       clear H;have H:=H1;clear H1;by_cases c9:x11_1 > 0
       ·rw [if_pos c9] at H;have c9b0:decide (0 < x11_1) = true:=decide_eq_true c9;clear c9;obtain ⟨ji10,hji10⟩:∃ j_:Int,(wrap64 (x11_1 - 1)) = j_:=⟨_,rfl⟩;replace H:(if 0 ≤ (ji10) then (if (ji10) < (l0.length:Int) then (if (rd l0 (ji10)) ≥ (rd l0 x11_1) then (some false) else (spec_l1Rising.l0 k1 l0 a1 a2 l0 (l0.length:Int) (wrap64 (x11_1 + 1)))) else (none)) else (none)) = some r:=by first|(rw [hji10] at H;exact H)|(simp only [hji10] at H ⊢;exact H)
        (try rw [hji10] at A7)
        have hji10w:(IntKind.i64.wrap (x11_1 - 1)) = ji10:=(i64_w _).trans hji10;by_cases c11:0 ≤ (ji10)
        ·rw [if_pos c11] at H;have c11b0:decide (0 ≤ (ji10)) = true:=decide_eq_true c11;clear c11;by_cases c12:(ji10) < (l0.length:Int)
         ·rw [if_pos c12] at H;have c12b0:decide ((ji10) < (l0.length:Int)) = true:=decide_eq_true c12;clear c12;by_cases c13:(rd l0 (ji10)) ≥ (rd l0 x11_1)
          ·rw [if_pos c13] at H;have c13b0:decide ((rd l0 x11_1) ≤ (rd l0 (ji10))) = true:=decide_eq_true c13;clear c13;obtain rfl:=Option.some.inj H;have p124:0 ≤ (x11_1:Int):=of_decide_eq_true ab;have q124:x11_1 < (l0.length:Int):=of_decide_eq_true ab;obtain ⟨ad124,e124,hx124_0⟩:=Kd.at_int HR0.out x11_1 p124 q124;cases e124
           replace p124:=eq_true p124;replace q124:=eq_true q124;go_wp2_with (first|((with_reducible refine gate_callee (f:=54) rfl ?_);refine goesL_ (some 19) rfl rfl Try.func54 kR rfl #[.int .i64 (rd l0 x11_1),.int .i64 a1,.int .i64 a2] rfl mq ?_;(with_reducible refine (spec_l1In.calls (rd l0 x11_1) a1 a2 true _ A7.out).mono ?_);rintro e w' ⟨rfl,⟨nd,rfl⟩⟩;refine ⟨_,rfl,?_⟩;have p126:0 ≤ ((ji10):Int):=of_decide_eq_true ab;have q126:(ji10) < (l0.length:Int):=of_decide_eq_true ab;obtain ⟨ad126,e126,hx126_0⟩:=Kd.at_int HR0.out (ji10) p126 q126;obtain rfl:ad124 = ad126:=(by injection e126);replace p126:=eq_true p126;replace q126:=eq_true q126))
           go_ret
           exact ⟨by first|rfl|(simp;done)|(simp only [← hji10] <;> (first|rfl|simp))|(simp [*];done),by repeat (first|exact Drawn0.refl _|apply Drawn0.step)⟩
          ·rw [if_neg c13] at H;have c13b0:decide ((rd l0 x11_1) ≤ (rd l0 (ji10))) = false:=decide_eq_false c13;clear c13;have H':=aM H;clear H;have p124:0 ≤ (x11_1:Int):=of_decide_eq_true ab;have q124:x11_1 < (l0.length:Int):=of_decide_eq_true ab;obtain ⟨ad124,e124,hx124_0⟩:=Kd.at_int HR0.out x11_1 p124 q124;cases e124
           replace p124:=eq_true p124;replace q124:=eq_true q124;go_wp2_with (first|((with_reducible refine gate_callee (f:=54) rfl ?_);refine goesL_ (some 19) rfl rfl Try.func54 kR rfl #[.int .i64 (rd l0 x11_1),.int .i64 a1,.int .i64 a2] rfl mq ?_;(with_reducible refine (spec_l1In.calls (rd l0 x11_1) a1 a2 true _ A7.out).mono ?_);rintro e w' ⟨rfl,⟨nd,rfl⟩⟩;refine ⟨_,rfl,?_⟩;have p126:0 ≤ ((ji10):Int):=of_decide_eq_true ab;have q126:(ji10) < (l0.length:Int):=of_decide_eq_true ab;obtain ⟨ad126,e126,hx126_0⟩:=Kd.at_int HR0.out (ji10) p126 q126;obtain rfl:ad124 = ad126:=(by injection e126);replace p126:=eq_true p126;replace q126:=eq_true q126))
           go_roundg k1
           case measure=>have:=HK1.out;omega
           case rel=>exact ⟨(wrap64 (x11_1 + 1)),qrs,H',⟨by have:=HK1.out;omega⟩,by repeat (first|exact Drawn0.refl _|apply Drawn0.step)⟩
         ·rw [if_neg c12] at H;exact absurd H (by simp)
        ·rw [if_neg c11] at H;exact absurd H (by simp)
       ·rw [if_neg c9] at H;have c9b0:decide (0 < x11_1) = false:=decide_eq_false c9;clear c9;have H':=aM H;clear H;have p124:0 ≤ (x11_1:Int):=of_decide_eq_true ab;have q124:x11_1 < (l0.length:Int):=of_decide_eq_true ab;obtain ⟨ad124,e124,hx124_0⟩:=Kd.at_int HR0.out x11_1 p124 q124;cases e124
        replace p124:=eq_true p124;replace q124:=eq_true q124;go_wp2_with (first|((with_reducible refine gate_callee (f:=54) rfl ?_);refine goesL_ (some 19) rfl rfl Try.func54 kR rfl #[.int .i64 (rd l0 x11_1),.int .i64 a1,.int .i64 a2] rfl mq ?_;(with_reducible refine (spec_l1In.calls (rd l0 x11_1) a1 a2 true _ A7.out).mono ?_);rintro e w' ⟨rfl,⟨nd,rfl⟩⟩;refine ⟨_,rfl,?_⟩))
        go_roundg k1
        case measure=>have:=HK1.out;omega
        case rel=>exact ⟨(wrap64 (x11_1 + 1)),qrs,H',⟨by have:=HK1.out;omega⟩,by repeat (first|exact Drawn0.refl _|apply Drawn0.step)⟩
      ·replace c8:=Bool.eq_false_iff.mpr c8;subst c8;have H1:(some false) = some r:=by rw [if_neg (show ¬ (false = true) by decide)] at H;exact H
       clear H;have H:=H1;clear H1;obtain rfl:=Option.some.inj H;have p124:0 ≤ (x11_1:Int):=of_decide_eq_true ab;have q124:x11_1 < (l0.length:Int):=of_decide_eq_true ab;obtain ⟨ad124,e124,hx124_0⟩:=Kd.at_int HR0.out x11_1 p124 q124;cases e124
       replace p124:=eq_true p124;replace q124:=eq_true q124;go_wp2_with (first|((with_reducible refine gate_callee (f:=54) rfl ?_);refine goesL_ (some 19) rfl rfl Try.func54 kR rfl #[.int .i64 (rd l0 x11_1),.int .i64 a1,.int .i64 a2] rfl mq ?_;(with_reducible refine (spec_l1In.calls (rd l0 x11_1) a1 a2 false _ A7.out).mono ?_);rintro e w' ⟨rfl,⟨nd,rfl⟩⟩;refine ⟨_,rfl,?_⟩))
       go_ret
       exact ⟨by first|rfl|(simp;done)|(simp [*];done),by repeat (first|exact Drawn0.refl _|apply Drawn0.step)⟩
     ·rw [if_neg c6] at H;exact absurd H (by simp)
    ·rw [if_neg c5] at H;exact absurd H (by simp)
   ·rw [if_neg c4] at H;have c4b0:decide (x11_1 < (l0.length:Int)) = false:=decide_eq_false c4;clear c4;obtain rfl:=Option.some.inj H;go_wp2
    go_ret
    exact ⟨by first|rfl|(simp;done)|(simp [*];done),by repeat (first|exact Drawn0.refl _|apply Drawn0.step)⟩


/-! ### spec_voSet: function 151 -/
def spec_voSet.f (k:Nat) (a0:Int) (l1:List Int):Option (Bool):=(spec_l1Rising.f k l1 0 (wrap64 (a0 - 1))).bind fun t127=>(some t127)
theorem spec_voSet.mono:∀ a0 a1 k,LeO (spec_voSet.f k a0 a1) (spec_voSet.f (k + 1) a0 a1):=by
 intro a0 a1 k;unfold spec_voSet.f
 repeat' with_reducible first|exact spec_l1Rising.mono _ _ _ _|exact LeO.refl _|exact LeO.none _|refine LeO.ite ?_ ?_|refine LeO.bind ?_ (fun _=>?_)
set_option maxHeartbeats 8000000 in
set_option maxRecDepth 100000 in
theorem spec_voSet.calls (k:Nat) (a0:Int) (A1:Option Addr) (c1:Nat) (l1:List Int) (r:Bool) (w:World) (hr1:Kd.C (Kd.int .i64) w A1 l1.length l1) (hc1:l1.length ≤ c1) (h:spec_voSet.f k a0 l1 = some r) :
  Calls Try.prog 151 #[.int .i64 a0,.slice A1 l1.length c1] w fun e w'=>e = .returned (.bool r) ∧ Drawn0 w w':=by
 have HR1:=aM hr1;have HC1:=aM hc1;clear hr1 hc1;have H:((spec_l1Rising.f k l1 0 (wrap64 (a0 - 1))).bind fun t127=>(some t127)) = some r:=h;clear h;replace H:=Option.bind_eq_some_iff.mp H;obtain ⟨t127,A30,H⟩:=H;replace H:(some t127) = some r:=H;have A3:=aM A30;clear A30;obtain rfl:=Option.some.inj H;go_enter Try.func151,Try.ntmps151;go_wp2_with (first|((with_reducible refine gate_callee (f:=166) rfl ?_);refine goesL_ (some 8) rfl rfl Try.func166 kR rfl #[.slice A1 l1.length c1,.int .i64 0,.int .i64 (wrap64 (a0 - 1))] rfl mq ?_;(with_reducible refine (spec_l1Rising.calls k _ _ l1 0 (wrap64 (a0 - 1)) t127 _ ?side1 ?side2 A3.out).mono ?_);(case side1=>repeat (first|exact HR1.out|(with_reducible refine Kd.C_alloc ?_ _)|(with_reducible refine Kd.C_drewN ?_ _)|(with_reducible refine Kd.C_drew ?_)));(case side2=>exact HC1.out);rintro e w' ⟨rfl,⟨nd,rfl⟩⟩;refine ⟨_,rfl,?_⟩))
 go_ret
 exact ⟨by first|rfl|(simp;done)|(simp [*];done),by repeat (first|exact Drawn0.refl _|apply Drawn0.step)⟩


/-! ### spec_voBits: function 121 -/
def spec_voBits.l0:Nat → Int → List Int → Int → Int → Option (Int)
 | 0,_,_,_,_=>none
 | k + 1,x3,x6,x7,x8=>if x8 < x7 then (if 0 ≤ x8 then (if x8 < (x6.length:Int) then (if 0 ≤ (rd x6 x8) then (spec_voBits.l0 k (Go.bits .or .i64 x3 (shl .i64 1 (rd x6 x8))) x6 x7 (wrap64 (x8 + 1))) else (none)) else (none)) else (none)) else (some x3)
def spec_voBits.f (k:Nat) (l0:List Int):Option (Int):=spec_voBits.l0 k 0 l0 (l0.length:Int) 0
theorem spec_voBits.mono_l:∀ k,(∀ y0 y1 y2 y3,LeO (spec_voBits.l0 k y0 y1 y2 y3) (spec_voBits.l0 (k + 1) y0 y1 y2 y3))
 | 0=>fun _ _ _ _ r h=>by simp [spec_voBits.l0] at h
 | k + 1=>by
  have ih0:=spec_voBits.mono_l k
  ·intro y0 y1 y2 y3;unfold spec_voBits.l0
   repeat' with_reducible first|exact ih0 _ _ _ _|exact LeO.refl _|exact LeO.none _|refine LeO.ite ?_ ?_|refine LeO.bind ?_ (fun _=>?_)
theorem spec_voBits.mono:∀ a0 k,LeO (spec_voBits.f k a0) (spec_voBits.f (k + 1) a0):=by
 intro a0 k;have ih0:=spec_voBits.mono_l k;unfold spec_voBits.f
 repeat' with_reducible first|exact ih0 _ _ _ _|exact LeO.refl _|exact LeO.none _|refine LeO.ite ?_ ?_|refine LeO.bind ?_ (fun _=>?_)
set_option maxHeartbeats 8000000 in
set_option maxRecDepth 100000 in
theorem spec_voBits.calls (k:Nat) (A0:Option Addr) (c0:Nat) (l0:List Int) (r:Int) (w:World) (hr0:Kd.C (Kd.int .i64) w A0 l0.length l0) (hc0:l0.length ≤ c0) (h:spec_voBits.f k l0 = some r) :
  Calls Try.prog 121 #[.slice A0 l0.length c0] w fun e w'=>e = .returned (.int .i64 r) ∧ Drawn0 w w':=by
 have HR0:=aM hr0;have HC0:=aM hc0;clear hr0 hc0;have H:(spec_voBits.l0 k 0 l0 (l0.length:Int) 0) = some r:=h;clear h;have H':=aM H;clear H;go_enter Try.func121,Try.ntmps121;go_wp2
 go_loopg [3,8] k (fun kq v3 v8 w'=>∃ (x3_1:Int) (x8_1:Int),v3 = .int .i64 x3_1 ∧ v8 = .int .i64 x8_1 ∧ Aside0 (spec_voBits.l0 kq x3_1 l0 (l0.length:Int) x8_1 = some r) ∧ Aside0 (kq ≤ k) ∧ Drawn0 w w')
 case atStart=>exact ⟨(0),(0),qrs,qrs,H',⟨Nat.le_refl _⟩,by repeat (first|exact Drawn0.refl _|apply Drawn0.step)⟩
 case round =>
  clear H'
  try clear c1
  obtain ⟨x3_1,x8_1,rfl,rfl,HA,HK1,⟨m1,rfl⟩⟩:=hrel
  cases gk with
  | zero=>exact absurd HA.out (by simp [spec_voBits.l0])
  | succ k1 =>
   have H:=HA.out;clear HA;simp only [spec_voBits.l0] at H;by_cases c2:x8_1 < (l0.length:Int)
   ·rw [if_pos c2] at H;have c2b0:decide (x8_1 < (l0.length:Int)) = true:=decide_eq_true c2;clear c2;by_cases c3:0 ≤ x8_1
    ·rw [if_pos c3] at H;have c3b0:decide (0 ≤ x8_1) = true:=decide_eq_true c3;clear c3;by_cases c4:x8_1 < (l0.length:Int)
     ·rw [if_pos c4] at H;have c4b0:decide (x8_1 < (l0.length:Int)) = true:=decide_eq_true c4;clear c4;by_cases c5:0 ≤ (rd l0 x8_1)
      ·rw [if_pos c5] at H;have c5b0:=eq_true c5;have c5b1:decide (0 ≤ (rd l0 x8_1)) = true:=decide_eq_true c5;clear c5;obtain ⟨ji6,hji6⟩:∃ j_:Int,(shl .i64 1 (rd l0 x8_1)) = j_:=⟨_,rfl⟩;replace H:(spec_voBits.l0 k1 (Go.bits .or .i64 x3_1 (ji6)) l0 (l0.length:Int) (wrap64 (x8_1 + 1))) = some r:=by first|(rw [hji6] at H;exact H)|(simp only [hji6] at H ⊢;exact H)
       have hji6_:(IntKind.i64.wrap (1 * 2 ^ min (rd l0 x8_1).toNat 64)) = ji6:=hji6;have hji6z:(rd l0 x8_1) ≤ 64 → (IntKind.i64.wrap (1 * 2 ^ (rd l0 x8_1).toNat)) = ji6:=shl_small hji6;have hji6u:(IntKind.i64.wrap (2 ^ min (rd l0 x8_1).toNat 64)) = ji6:=by have h_:=hji6_;rw [Int.one_mul] at h_;exact h_
       have hji6v:(rd l0 x8_1) ≤ 64 → (IntKind.i64.wrap (2 ^ (rd l0 x8_1).toNat)) = ji6:=fun hle_=>by have h_:=hji6z hle_;rw [Int.one_mul] at h_;exact h_
       have hji6y:(wrap64 (1 * 2 ^ min (rd l0 x8_1).toNat 64)) = ji6:=(i64_w _).symm.trans hji6_;have hji6x:(rd l0 x8_1) ≤ 64 → (wrap64 (1 * 2 ^ (rd l0 x8_1).toNat)) = ji6:=fun h_=>(i64_w _).symm.trans (hji6z h_)
       have H':=aM H;clear H;have p105:0 ≤ (x8_1:Int):=of_decide_eq_true ab;have q105:x8_1 < (l0.length:Int):=of_decide_eq_true ab;obtain ⟨ad105,e105,hx105_0⟩:=Kd.at_int HR0.out x8_1 p105 q105;cases e105
       replace p105:=eq_true p105;replace q105:=eq_true q105;go_wp2
       go_roundg k1
       case measure=>have:=HK1.out;omega
       case rel=>exact ⟨(Go.bits .or .i64 x3_1 (ji6)),(wrap64 (x8_1 + 1)),(by first|rfl|(simp;done)|(simp only [← hji6] <;> (first|rfl|simp))|(simp [*];done)),qrs,H',⟨by have:=HK1.out;omega⟩,by repeat (first|exact Drawn0.refl _|apply Drawn0.step)⟩
      ·rw [if_neg c5] at H;exact absurd H (by simp)
     ·rw [if_neg c4] at H;exact absurd H (by simp)
    ·rw [if_neg c3] at H;exact absurd H (by simp)
   ·rw [if_neg c2] at H;have c2b0:decide (x8_1 < (l0.length:Int)) = false:=decide_eq_false c2;clear c2;obtain rfl:=Option.some.inj H;go_wp2
    go_ret
    exact ⟨by first|rfl|(simp;done)|(simp [*];done),by repeat (first|exact Drawn0.refl _|apply Drawn0.step)⟩


/-! ### laws_szIntSS: function 43 -/
def laws_szIntSS.l0:Nat → List (List Int) → Int → Int → Option (Int)
 | 0,_,_,_=>none
 | k + 1,x0,x1,x5=>if x5 < (x0.length:Int) then (if 0 ≤ x5 then ((laws_szIntS.f (rd_LI x0 x5) x1).bind fun t102=>(if t102 < 0 then (some (-1)) else (laws_szIntSS.l0 k x0 t102 (wrap64 (x5 + 1))))) else (none)) else (some x1)
def laws_szIntSS.f (k:Nat) (l0:List (List Int)) (a1:Int):Option (Int):=if (wrap64 (a1 - (l0.length:Int))) < 0 then (some (-1)) else (laws_szIntSS.l0 k l0 (wrap64 (a1 - (l0.length:Int))) 0)
theorem laws_szIntSS.mono_l:∀ k,(∀ y0 y1 y2,LeO (laws_szIntSS.l0 k y0 y1 y2) (laws_szIntSS.l0 (k + 1) y0 y1 y2))
 | 0=>fun _ _ _ r h=>by simp [laws_szIntSS.l0] at h
 | k + 1=>by
  have ih0:=laws_szIntSS.mono_l k
  ·intro y0 y1 y2;unfold laws_szIntSS.l0
   repeat' with_reducible first|exact ih0 _ _ _|exact LeO.refl _|exact LeO.none _|refine LeO.ite ?_ ?_|refine LeO.bind ?_ (fun _=>?_)
theorem laws_szIntSS.mono:∀ a0 a1 k,LeO (laws_szIntSS.f k a0 a1) (laws_szIntSS.f (k + 1) a0 a1):=by
 intro a0 a1 k;have ih0:=laws_szIntSS.mono_l k;unfold laws_szIntSS.f
 repeat' with_reducible first|exact ih0 _ _ _|exact LeO.refl _|exact LeO.none _|refine LeO.ite ?_ ?_|refine LeO.bind ?_ (fun _=>?_)
set_option maxHeartbeats 8000000 in
set_option maxRecDepth 100000 in
theorem laws_szIntSS.calls (k:Nat) (A0:Option Addr) (c0:Nat) (l0:List (List Int)) (a1:Int) (r:Int) (w:World) (hr0:Kd.C (Kd.slice 3 (Kd.int .i64)) w A0 l0.length l0) (hc0:l0.length ≤ c0) (h:laws_szIntSS.f k l0 a1 = some r) :
  Calls Try.prog 43 #[.slice A0 l0.length c0,.int .i64 a1] w fun e w'=>e = .returned (.int .i64 r) ∧ Drawn0 w w':=by
 have HR0:=aM hr0;have HC0:=aM hc0;clear hr0 hc0;have H:(if (wrap64 (a1 - (l0.length:Int))) < 0 then (some (-1)) else (laws_szIntSS.l0 k l0 (wrap64 (a1 - (l0.length:Int))) 0)) = some r:=h;clear h;by_cases c3:(wrap64 (a1 - (l0.length:Int))) < 0
 ·rw [if_pos c3] at H;have c3b0:decide ((wrap64 (a1 - (l0.length:Int))) < 0) = true:=decide_eq_true c3;clear c3;obtain rfl:=Option.some.inj H;go_enter Try.func43,Try.ntmps43;go_wp2
  go_ret
  exact ⟨by first|rfl|(simp;done)|(simp [*];done),by repeat (first|exact Drawn0.refl _|apply Drawn0.step)⟩
 ·rw [if_neg c3] at H;have c3b0:decide ((wrap64 (a1 - (l0.length:Int))) < 0) = false:=decide_eq_false c3;clear c3;have H':=aM H;clear H;go_enter Try.func43,Try.ntmps43;go_wp2
  go_loopg [1,5] k (fun kq v1 v5 w'=>∃ (x1_1:Int) (x5_1:Int),v1 = .int .i64 x1_1 ∧ v5 = .int .i64 x5_1 ∧ Aside0 (laws_szIntSS.l0 kq l0 x1_1 x5_1 = some r) ∧ Aside0 (kq ≤ k) ∧ Drawn0 w w')
  case atStart=>exact ⟨(wrap64 (a1 - (l0.length:Int))),(0),qrs,qrs,H',⟨Nat.le_refl _⟩,by repeat (first|exact Drawn0.refl _|apply Drawn0.step)⟩
  case round =>
   clear H';(try clear p2);(try clear c3);(try clear c3b0)
   obtain ⟨x1_1,x5_1,rfl,rfl,HA,HK1,⟨m1,rfl⟩⟩:=hrel
   cases gk with
   | zero=>exact absurd HA.out (by simp [laws_szIntSS.l0])
   | succ k1 =>
    have H:=HA.out;clear HA;simp only [laws_szIntSS.l0] at H;by_cases c4:x5_1 < (l0.length:Int)
    ·rw [if_pos c4] at H;have c4b0:decide (x5_1 < (l0.length:Int)) = true:=decide_eq_true c4;clear c4;by_cases c5:0 ≤ x5_1
     ·rw [if_pos c5] at H;have c5b0:decide (0 ≤ x5_1) = true:=decide_eq_true c5;clear c5;replace H:=Option.bind_eq_some_iff.mp H;obtain ⟨t102,A60,H⟩:=H;replace H:(if t102 < 0 then (some (-1)) else (laws_szIntSS.l0 k1 l0 t102 (wrap64 (x5_1 + 1)))) = some r:=H;have A6:=aM A60;clear A60;by_cases c7:t102 < 0
      ·rw [if_pos c7] at H;have c7b0:decide (t102 < 0) = true:=decide_eq_true c7;clear c7;obtain rfl:=Option.some.inj H;have p101:0 ≤ (x5_1:Int):=of_decide_eq_true ab;have q101:x5_1 < (l0.length:Int):=of_decide_eq_true ab;obtain ⟨ad101,A101_0,c101_0,e101,hx101_0,hl101_0,hi101_0⟩:=at_LI HR0.out x5_1 p101 q101;cases e101
       have HR101_0:=aM hi101_0;have HC101_0:=aM hl101_0;clear hi101_0 hl101_0;replace p101:=eq_true p101;replace q101:=eq_true q101;go_wp2_with (first|((with_reducible refine gate_callee (f:=62) rfl ?_);refine goesL_ (some 23) rfl rfl Try.func62 kR rfl #[.slice A101_0 (rd_LI l0 x5_1).length c101_0,.int .i64 x1_1] rfl mq ?_;(with_reducible refine (laws_szIntS.calls _ _ (rd_LI l0 x5_1) x1_1 t102 _ ?side1 ?side2 A6.out).mono ?_);(case side1=>repeat (first|exact HR101_0.out|(with_reducible refine Kd.C_alloc ?_ _)|(with_reducible refine Kd.C_drewN ?_ _)|(with_reducible refine Kd.C_drew ?_)));(case side2=>exact HC101_0.out);rintro e w' ⟨rfl,⟨nd,rfl⟩⟩;refine ⟨_,rfl,?_⟩))
       go_ret
       exact ⟨by first|rfl|(simp;done)|(simp [*];done),by repeat (first|exact Drawn0.refl _|apply Drawn0.step)⟩
      ·rw [if_neg c7] at H;have c7b0:decide (t102 < 0) = false:=decide_eq_false c7;clear c7;have H':=aM H;clear H;have p101:0 ≤ (x5_1:Int):=of_decide_eq_true ab;have q101:x5_1 < (l0.length:Int):=of_decide_eq_true ab;obtain ⟨ad101,A101_0,c101_0,e101,hx101_0,hl101_0,hi101_0⟩:=at_LI HR0.out x5_1 p101 q101;cases e101
       have HR101_0:=aM hi101_0;have HC101_0:=aM hl101_0;clear hi101_0 hl101_0;replace p101:=eq_true p101;replace q101:=eq_true q101;go_wp2_with (first|((with_reducible refine gate_callee (f:=62) rfl ?_);refine goesL_ (some 23) rfl rfl Try.func62 kR rfl #[.slice A101_0 (rd_LI l0 x5_1).length c101_0,.int .i64 x1_1] rfl mq ?_;(with_reducible refine (laws_szIntS.calls _ _ (rd_LI l0 x5_1) x1_1 t102 _ ?side1 ?side2 A6.out).mono ?_);(case side1=>repeat (first|exact HR101_0.out|(with_reducible refine Kd.C_alloc ?_ _)|(with_reducible refine Kd.C_drewN ?_ _)|(with_reducible refine Kd.C_drew ?_)));(case side2=>exact HC101_0.out);rintro e w' ⟨rfl,⟨nd,rfl⟩⟩;refine ⟨_,rfl,?_⟩))
       go_roundg k1
       case measure=>have:=HK1.out;omega
       case rel=>exact ⟨(t102),(wrap64 (x5_1 + 1)),qrs,qrs,H',⟨by have:=HK1.out;omega⟩,by repeat (first|exact Drawn0.refl _|apply Drawn0.step)⟩
     ·rw [if_neg c5] at H;exact absurd H (by simp)
    ·rw [if_neg c4] at H;have c4b0:decide (x5_1 < (l0.length:Int)) = false:=decide_eq_false c4;clear c4;obtain rfl:=Option.some.inj H;go_wp2
     go_ret
     exact ⟨by first|rfl|(simp;done)|(simp [*];done),by repeat (first|exact Drawn0.refl _|apply Drawn0.step)⟩


/-! ### laws_toIntSS: function 47 -/
def laws_toIntSS.l0:Nat → List (List Int) → List (List Int) → Int → Option ((List (List Int)))
 | 0,_,_,_=>none
 | k + 1,x0,x3,x4=>if x4 < (x0.length:Int) then (if 0 ≤ x4 then ((laws_toIntS.f k (rd_LI x0 x4)).bind fun t238=>(if x4 < (x3.length:Int) then (laws_toIntSS.l0 k x0 (x3.set (x4:Int).toNat t238) (wrap64 (x4 + 1))) else (none))) else (none)) else (some x3)
def laws_toIntSS.f (k:Nat) (l0:List (List Int)):Option ((List (List Int))):=if 0 ≤ (l0.length:Int) then (if ((l0.length:Int):Int).toNat ≤ 11728124029610 then (laws_toIntSS.l0 k l0 (List.replicate ((l0.length:Int):Int).toNat []) 0) else (none)) else (none)
theorem laws_toIntSS.mono_l:∀ k,(∀ y0 y1 y2,LeO (laws_toIntSS.l0 k y0 y1 y2) (laws_toIntSS.l0 (k + 1) y0 y1 y2))
 | 0=>fun _ _ _ r h=>by simp [laws_toIntSS.l0] at h
 | k + 1=>by
  have ih0:=laws_toIntSS.mono_l k
  ·intro y0 y1 y2;unfold laws_toIntSS.l0
   repeat' with_reducible first|exact ih0 _ _ _|exact laws_toIntS.mono _ _|exact LeO.refl _|exact LeO.none _|refine LeO.ite ?_ ?_|refine LeO.bind ?_ (fun _=>?_)
theorem laws_toIntSS.mono:∀ a0 k,LeO (laws_toIntSS.f k a0) (laws_toIntSS.f (k + 1) a0):=by
 intro a0 k;have ih0:=laws_toIntSS.mono_l k;unfold laws_toIntSS.f
 repeat' with_reducible first|exact ih0 _ _ _|exact laws_toIntS.mono _ _|exact LeO.refl _|exact LeO.none _|refine LeO.ite ?_ ?_|refine LeO.bind ?_ (fun _=>?_)
set_option maxHeartbeats 8000000 in
set_option maxRecDepth 100000 in
theorem laws_toIntSS.calls (k:Nat) (A0:Option Addr) (c0:Nat) (l0:List (List Int)) (r:List (List Int)) (w:World) (hr0:Kd.C (Kd.slice 3 (Kd.int .i64)) w A0 l0.length l0) (hc0:l0.length ≤ c0) (h:laws_toIntSS.f k l0 = some r) :
  Calls Try.prog 47 #[.slice A0 l0.length c0] w fun e w'=>∃ v0_:Value,e = .returned (v0_) ∧ Kd.S (Kd.slice 3 (Kd.int .i64)) 40 w' w.heap.size (fun _=>True) v0_ r ∧ Below w.heap.size w w':=by
 have HR0:=aM hr0;have HC0:=aM hc0;clear hr0 hc0;have HB:=aM (Below.refl w.heap.size w);have H:(if 0 ≤ (l0.length:Int) then (if ((l0.length:Int):Int).toNat ≤ 11728124029610 then (laws_toIntSS.l0 k l0 (List.replicate ((l0.length:Int):Int).toNat []) 0) else (none)) else (none)) = some r:=h;clear h;by_cases c2:0 ≤ (l0.length:Int)
 ·rw [if_pos c2] at H;have c2b0:=eq_true c2;have c2b1:decide (0 ≤ (l0.length:Int)) = true:=decide_eq_true c2;clear c2;by_cases c3:((l0.length:Int):Int).toNat ≤ 11728124029610
  ·rw [if_pos c3] at H;have c3b0:=eq_true c3;have c3b1:decide (((l0.length:Int):Int).toNat ≤ 11728124029610) = true:=decide_eq_true c3;clear c3;obtain ⟨y234,hy234⟩:∃ y_:List (List Int),y_ = (List.replicate ((l0.length:Int):Int).toNat []):=⟨_,rfl⟩;replace H:(laws_toIntSS.l0 k l0 y234 0) = some r:=by first|(rw [hy234];with_reducible exact H)|(have H2_:=(Option.bind_some _ _).symm.trans H;rw [hy234];with_reducible exact H2_)|(have H2_:=(Option.bind_some _ _).symm.trans H;with_reducible exact H2_)|with_reducible exact H|(rw [hy234];exact H)|exact H
   have Ny234:=aM hy234;clear hy234;have H':=aM H;clear H;go_enter Try.func47,Try.ntmps47;go_wp2_with (first|((with_reducible refine gate_dst (N:=7) rfl ?_);refine Kd.S_make (Kd.slice 3 (Kd.int .i64)) _ 40 rfl (N:=7) rfl 22 _ _ rfl (l0.length:Int) rfl rfl Try.underlying22 (.slice none 0 0) 24 info40 rfl (by decide) (by omega) [] (ok:=fun _=>True) (okp:=fun _=>True) ⟨_,rfl,Kd.R_nil _ _ _ _ _⟩ (fun _ hk=>hk) trivial (of_decide_eq_true ab) (Nat.le_trans (Nat.mul_le_mul_right _ (of_decide_eq_true ab:(l0.length:Int).toNat ≤ 11728124029610)) (by omega)) (Below.refl _ _) (Nat.le_refl _) ?_;intro v235 w4 ho5 hb hg_ hnew_;clear hg_ hnew_;(first|rw [← Ny234.out] at ho5|(simp only [Int.reduceToNat] at ho5;rw [← Ny234.out] at ho5));have n0_:=aM (Kd.S_lower ho5 (below_size bw));have n1_:=aM (below_step bw hb);clear HB;have HO236:=n0_;have HB:=n1_;clear n0_ n1_;clear hb ho5))
   go_loopg [4] k (fun kq v4 w'=>∃ (x3_1:List (List Int)) (x4_1:Int),v4 = .int .i64 x4_1 ∧ Aside0 (laws_toIntSS.l0 kq l0 x3_1 x4_1 = some r) ∧ Aside0 (kq ≤ k) ∧ Aside0 (Kd.S (Kd.slice 3 (Kd.int .i64)) 40 w' w.heap.size (fun _=>True) v235 x3_1) ∧ Aside0 (Below w.heap.size w w'))
   case atStart=>exact ⟨(y234),(0),qrs,H',⟨Nat.le_refl _⟩,⟨qsa HO236.out⟩,⟨by exact bw⟩⟩
   case round =>
    clear H';(try clear c2);(try clear c2b0);(try clear c2b1);(try clear p2);(try clear c3);(try clear c3b0);(try clear c3b1);(try clear c4)
    obtain ⟨x3_1,x4_1,rfl,HA,HK1,HO_3,HB⟩:=hrel
    cases gk with
    | zero=>exact absurd HA.out (by simp [laws_toIntSS.l0])
    | succ k1 =>
     have H:=HA.out;clear HA;simp only [laws_toIntSS.l0] at H;by_cases c6:x4_1 < (l0.length:Int)
     ·rw [if_pos c6] at H;have c6b0:decide (x4_1 < (l0.length:Int)) = true:=decide_eq_true c6;clear c6;by_cases c7:0 ≤ x4_1
      ·rw [if_pos c7] at H;have c7b0:decide (0 ≤ x4_1) = true:=decide_eq_true c7;clear c7;replace H:=Option.bind_eq_some_iff.mp H;obtain ⟨t238,A80,H⟩:=H;replace H:(if x4_1 < (x3_1.length:Int) then (laws_toIntSS.l0 k1 l0 (x3_1.set (x4_1:Int).toNat t238) (wrap64 (x4_1 + 1))) else (none)) = some r:=H;have A8:=aM A80;clear A80;by_cases c9:x4_1 < (x3_1.length:Int)
       ·rw [if_pos c9] at H;have c9b0:decide (x4_1 < (x3_1.length:Int)) = true:=decide_eq_true c9;clear c9;obtain ⟨y241,hy241⟩:∃ y_:List (List Int),y_ = (x3_1.set (x4_1:Int).toNat t238):=⟨_,rfl⟩;replace H:(laws_toIntSS.l0 k1 l0 y241 (wrap64 (x4_1 + 1))) = some r:=by first|(rw [hy241];with_reducible exact H)|(have H2_:=(Option.bind_some _ _).symm.trans H;rw [hy241];with_reducible exact H2_)|(have H2_:=(Option.bind_some _ _).symm.trans H;with_reducible exact H2_)|with_reducible exact H|(rw [hy241];exact H)|exact H
        have Ny241:=aM hy241;clear hy241;have H':=aM H;clear H;have p237:0 ≤ (x4_1:Int):=of_decide_eq_true ab;have q237:x4_1 < (l0.length:Int):=of_decide_eq_true ab;obtain ⟨ad237,A237_0,c237_0,e237,hx237_0,hl237_0,hi237_0⟩:=at_LI HR0.out x4_1 p237 q237;cases e237
        replace hx237_0:=(HB.out.cell (World.block_lt_of_cell? w _ hx237_0)).trans hx237_0;have HR237_0:=aM hi237_0;have HC237_0:=aM hl237_0;clear hi237_0 hl237_0;replace p237:=eq_true p237;replace q237:=eq_true q237;go_wp2_with (first|((with_reducible refine gate_callee (f:=67) rfl ?_);refine goesL_ (some 20) rfl rfl Try.func67 kR rfl #[.slice A237_0 (rd_LI l0 x4_1).length c237_0] rfl mq ?_;(with_reducible refine (laws_toIntS.calls k1 _ _ (rd_LI l0 x4_1) t238 _ ?side1 ?side2 A8.out).mono ?_);(case side1=>exact qcs HR237_0.out HB.out);(case side2=>exact HC237_0.out);rintro e w11 ⟨v239,rfl,ho0,hb⟩;refine ⟨_,rfl,?_⟩;have n0_:=aM (Kd.S_elder' (qsa HO_3.out) (Kd.R_base ho0) hb);have n1_:=aM (Kd.R_lower ho0 (below_size bw));have n2_:=aM (below_step bw hb);clear HO_3;clear HB;have HO_3:=n0_;have HO240:=n1_;have HB:=n2_;clear n0_ n1_ n2_;(try clear hb);(try clear hb2);(try clear hk);(try clear hi);(try clear ho0);have p10:0 ≤ (x4_1:Int):=of_decide_eq_true ab;have q10:(x4_1:Int) < ((x3_1.length:Int):Int):=of_decide_eq_true ab;obtain ⟨go10,co10,eo10,gb10,gl10,cl10,HG10⟩:=Kd.S_form HO_3.out (by omega);(first|cases eo10|(injection eo10 with ea_ en_ ec_;(first|subst ea_|(injection ea_ with ea_;subst ea_));subst ec_;clear en_));have GB10:=aM gb10;have GG10:=aM HG10;clear gb10 gl10 HG10;obtain ⟨_,ce10,hcl10,hM10,hcc10,hfr10,_,_⟩:=Kd.S_elem HO_3.out [] (x4_1:Int) p10 q10;obtain ⟨ve10_0,rfl,ge10_0⟩:=hM10;have hx10_0:=hcc10 0 _ rfl;have hf10_0:=hfr10 0;(try simp only [show ((Kd.slice 3 (Kd.int .i64))).sz = 1 from rfl,Nat.mul_one,Nat.add_zero] at hx10_0);(try simp only [show ((Kd.slice 3 (Kd.int .i64))).sz = 1 from rfl,Nat.mul_one,Nat.add_zero] at hf10_0);clear hcl10 hcc10 hfr10;(try clear hM10);replace p10:=eq_true p10;replace q10:=eq_true q10;obtain ⟨Ao12,co12,eo12⟩:=Kd.R_slice HO240.out;subst eo12;have n_:=aM (Kd.S_mono (ok':=(fun k_=>some k_ ≠ (.slice Ao12 t238.length co12:Value).ownBlock)) HO_3.out (fun k_ hk=>hk.2));clear HO_3;have HO_3:=n_;clear n_;have HX13:=aM (show Kd.S (Kd.slice 3 (Kd.int .i64)) 40 w11 w.heap.size (fun k_=>((fun _=>True)) k_ ∧ ¬ ((fun k_=>some k_ = (.slice Ao12 t238.length co12:Value).ownBlock)) k_) (.slice (some ⟨go10,0,none⟩) x3_1.length co10) x3_1 from (by (with_reducible repeat (first|apply Kd.S_alloc|apply Kd.S_drewN|apply Kd.S_drew));exact Kd.S_mono HO_3.out (fun k_ hk=>⟨trivial,fun e_=>hk e_⟩)));obtain ⟨oki13,ce13,hcl13,hM13,hcc13,hfr13,hoki13,hH13⟩:=Kd.S_elem HX13.out [] (x4_1:Int) (of_decide_eq_true ab) (by have h_:(x4_1:Int) < ((x3_1.length:Int):Int):=of_decide_eq_true ab;first|exact h_|(have e_:=(Kd.S_reads' HO_3.out).1;omega)|simpa using h_);obtain ⟨ve13_0,rfl,ge13_0⟩:=hM13;have HP13:=Kd.S_seg hH13 (of_decide_eq_true ab) (by have h_:(x4_1:Int) < ((x3_1.length:Int):Int):=of_decide_eq_true ab;first|exact h_|(have e_:=(Kd.S_reads' HO_3.out).1;omega)|simpa using h_) (seg:=[.slice Ao12 t238.length co12]) (j:=0) (show 1 ≤ 1 from by decide) (x':=t238) (Kd.M_row (Kd.R_mono (Kd.R_tight rfl (Kd.R_mono (ok':=fun k_=>((fun _=>True)) k_ ∧ k_ ≠ go10) (Kd.R_apart' (HO240.out) (Kd.S_typed HO_3.out) (by decide)) (fun k_ hk=>⟨trivial,fun e_=>(hk.2) (by rw [e_];rfl)⟩))) (fun _ h_=>Or.inr (h_)))) (fun _ hk=>hk) (fun k_ hk_=>((Kd.R_mono (ok':=fun k_=>((fun _=>True)) k_ ∧ k_ ≠ go10) (Kd.R_apart' (HO240.out) (Kd.S_typed HO_3.out) (by decide)) (fun k_ hk=>⟨trivial,fun e_=>(hk.2) (by rw [e_];rfl)⟩))).1 k_ hk_.symm);have hx13_0:=hcc13 0 _ rfl;(try simp only [show ((Kd.slice 3 (Kd.int .i64))).sz = 1 from rfl,Nat.mul_one,Nat.add_zero] at hx13_0);have hf13_0:=hfr13 0;(try simp only [show ((Kd.slice 3 (Kd.int .i64))).sz = 1 from rfl,Nat.mul_one,Nat.add_zero] at hf13_0);clear hcl13 hcc13 hfr13;(try clear hM13);clear hoki13 hH13;(try simp only [show ((Kd.slice 3 (Kd.int .i64))).sz = 1 from rfl,Nat.mul_one,Nat.add_zero] at HP13))|((with_reducible refine gate_store (t:=40) (p:=21) rfl ?_);refine store_event (t:=40) (p:=21) (v:=?vo_w14) (w1:=(w11.setCell ⟨go10,(x4_1:Int).toNat,none⟩ (.slice Ao12 t238.length co12))) ?hg ?ho ?hn ?hr ?_;(case ho=>rfl);(case hg=>rfl);(case hn=>rfl);(case hr=>first|(go_simp;done)|(go_simp;rfl));intro w14 hw;have hg:w11.grownBy w14 (some go10):=(by rw [hw];exact HP13.2);have hp_:Kd.S (Kd.slice 3 (Kd.int .i64)) 40 w14 w.heap.size (fun _=>True) (.slice (some ⟨go10,0,none⟩) x3_1.length co10) y241:=(by rw [hw,Ny241.out];exact HP13.1);clear HP13;have n0_:=aM (hp_);have n1_:=aM ((by rw [hw];exact below_set (HB.out) GB10.out:Below w.heap.size w w14));clear HO_3;clear HB;clear HO240;have HO_3:=n0_;have HB:=n1_;clear n0_ n1_;clear hg hw hp_))
        go_roundg k1
        case measure=>have:=HK1.out;omega
        case rel=>exact ⟨(y241),(wrap64 (x4_1 + 1)),qrs,H',⟨by have:=HK1.out;omega⟩,⟨qsa HO_3.out⟩,⟨by exact bw⟩⟩
       ·rw [if_neg c9] at H;exact absurd H (by simp)
      ·rw [if_neg c7] at H;exact absurd H (by simp)
     ·rw [if_neg c6] at H;have c6b0:decide (x4_1 < (l0.length:Int)) = false:=decide_eq_false c6;clear c6;obtain rfl:=Option.some.inj H;go_wp2
      go_ret
      exact ⟨_,by first|rfl|(simp [errW_none,errW_some] <;> rfl)|(simp [*,errW_none,errW_some] <;> rfl),by (with_reducible repeat (first|apply Kd.S_alloc|apply Kd.S_drewN|apply Kd.S_drew));exact HO_3.out,by exact bw⟩
  ·rw [if_neg c3] at H;exact absurd H (by simp)
 ·rw [if_neg c2] at H;exact absurd H (by simp)


/-! ### laws_eqIntSS: function 15 -/
def laws_eqIntSS.l0:Nat → List (List Int) → List (List Int) → Int → Option (Bool)
 | 0,_,_,_=>none
 | k + 1,x0,x1,x5=>if x5 < (x0.length:Int) then (if 0 ≤ x5 then (if x5 < (x1.length:Int) then ((laws_eqIntS.f k (rd_LI x0 x5) (rd_LI x1 x5)).bind fun t408=>(if t408 = true then (laws_eqIntSS.l0 k x0 x1 (wrap64 (x5 + 1))) else (some false))) else (none)) else (none)) else (some true)
def laws_eqIntSS.f (k:Nat) (l0:List (List Int)) (l1:List (List Int)):Option (Bool):=if (l0.length:Int) = (l1.length:Int) then (laws_eqIntSS.l0 k l0 l1 0) else (some false)
theorem laws_eqIntSS.mono_l:∀ k,(∀ y0 y1 y2,LeO (laws_eqIntSS.l0 k y0 y1 y2) (laws_eqIntSS.l0 (k + 1) y0 y1 y2))
 | 0=>fun _ _ _ r h=>by simp [laws_eqIntSS.l0] at h
 | k + 1=>by
  have ih0:=laws_eqIntSS.mono_l k
  ·intro y0 y1 y2;unfold laws_eqIntSS.l0
   repeat' with_reducible first|exact ih0 _ _ _|exact laws_eqIntS.mono _ _ _|exact LeO.refl _|exact LeO.none _|refine LeO.ite ?_ ?_|refine LeO.bind ?_ (fun _=>?_)
theorem laws_eqIntSS.mono:∀ a0 a1 k,LeO (laws_eqIntSS.f k a0 a1) (laws_eqIntSS.f (k + 1) a0 a1):=by
 intro a0 a1 k;have ih0:=laws_eqIntSS.mono_l k;unfold laws_eqIntSS.f
 repeat' with_reducible first|exact ih0 _ _ _|exact laws_eqIntS.mono _ _ _|exact LeO.refl _|exact LeO.none _|refine LeO.ite ?_ ?_|refine LeO.bind ?_ (fun _=>?_)
set_option maxHeartbeats 8000000 in
set_option maxRecDepth 100000 in
theorem laws_eqIntSS.calls (k:Nat) (A0:Option Addr) (c0:Nat) (l0:List (List Int)) (A1:Option Addr) (c1:Nat) (l1:List (List Int)) (r:Bool) (w:World) (hr0:Kd.C (Kd.slice 3 (Kd.int .i64)) w A0 l0.length l0) (hc0:l0.length ≤ c0) (hr1:Kd.C (Kd.slice 3 (Kd.int .i64)) w A1 l1.length l1) (hc1:l1.length ≤ c1) (h:laws_eqIntSS.f k l0 l1 = some r) :
  Calls Try.prog 15 #[.slice A0 l0.length c0,.slice A1 l1.length c1] w fun e w'=>e = .returned (.bool r) ∧ Drawn0 w w':=by
 have HR0:=aM hr0;have HC0:=aM hc0;clear hr0 hc0;have HR1:=aM hr1;have HC1:=aM hc1;clear hr1 hc1;have H:(if (l0.length:Int) = (l1.length:Int) then (laws_eqIntSS.l0 k l0 l1 0) else (some false)) = some r:=h;clear h;by_cases c3:(l0.length:Int) = (l1.length:Int)
 ·rw [if_pos c3] at H;have c3b0:((l0.length:Int) == (l1.length:Int)) = true:=beq_iff_eq.mpr c3;have c3b1:((l0.length:Int) != (l1.length:Int)) = false:=bne_eq_false_iff_eq.mpr c3;have c3b2:(l0.length == l1.length) = true:=by first|simpa using c3|(simp at c3 ⊢;omega)
  clear c3;have H':=aM H;clear H;go_enter Try.func15,Try.ntmps15;go_wp2
  repeat (go_quiet (fail);try go_wp2)
  go_loopg [5] k (fun kq v5 w'=>∃ (x5_1:Int),v5 = .int .i64 x5_1 ∧ Aside0 (laws_eqIntSS.l0 kq l0 l1 x5_1 = some r) ∧ Aside0 (kq ≤ k) ∧ Drawn0 w w')
  case atStart=>exact ⟨(0),qrs,H',⟨Nat.le_refl _⟩,by repeat (first|exact Drawn0.refl _|apply Drawn0.step)⟩
  case round =>
   clear H';(try clear c1);(try clear p2);(try clear c3);(try clear c3b0);(try clear c3b1);(try clear c3b2)
   obtain ⟨x5_1,rfl,HA,HK1,⟨m1,rfl⟩⟩:=hrel
   cases gk with
   | zero=>exact absurd HA.out (by simp [laws_eqIntSS.l0])
   | succ k1 =>
    have H:=HA.out;clear HA;simp only [laws_eqIntSS.l0] at H;by_cases c4:x5_1 < (l0.length:Int)
    ·rw [if_pos c4] at H;have c4b0:decide (x5_1 < (l0.length:Int)) = true:=decide_eq_true c4;clear c4;by_cases c5:0 ≤ x5_1
     ·rw [if_pos c5] at H;have c5b0:decide (0 ≤ x5_1) = true:=decide_eq_true c5;clear c5;by_cases c6:x5_1 < (l1.length:Int)
      ·rw [if_pos c6] at H;have c6b0:decide (x5_1 < (l1.length:Int)) = true:=decide_eq_true c6;clear c6;replace H:=Option.bind_eq_some_iff.mp H;obtain ⟨t408,A70,H⟩:=H;replace H:(if t408 = true then (laws_eqIntSS.l0 k1 l0 l1 (wrap64 (x5_1 + 1))) else (some false)) = some r:=H;have A7:=aM A70;clear A70;by_cases c8:t408 = true
       ·subst c8;have H1:(laws_eqIntSS.l0 k1 l0 l1 (wrap64 (x5_1 + 1))) = some r:=by rw [if_pos rfl] at H;exact H
        clear H;have H:=H1;clear H1;have H':=aM H;clear H;have p406:0 ≤ (x5_1:Int):=of_decide_eq_true ab;have q406:x5_1 < (l0.length:Int):=of_decide_eq_true ab;obtain ⟨ad406,A406_0,c406_0,e406,hx406_0,hl406_0,hi406_0⟩:=at_LI HR0.out x5_1 p406 q406;cases e406
        have HR406_0:=aM hi406_0;have HC406_0:=aM hl406_0;clear hi406_0 hl406_0;replace p406:=eq_true p406;replace q406:=eq_true q406;have p407:0 ≤ (x5_1:Int):=of_decide_eq_true ab;have q407:x5_1 < (l1.length:Int):=of_decide_eq_true ab;obtain ⟨ad407,A407_0,c407_0,e407,hx407_0,hl407_0,hi407_0⟩:=at_LI HR1.out x5_1 p407 q407;cases e407
        have HR407_0:=aM hi407_0;have HC407_0:=aM hl407_0;clear hi407_0 hl407_0;replace p407:=eq_true p407;replace q407:=eq_true q407;go_wp2_with (first|(go_at_call 51;(with_reducible refine (laws_eqIntS.calls k1 _ _ (rd_LI l0 x5_1) _ _ (rd_LI l1 x5_1) true _ ?side1 ?side2 ?side3 ?side4 A7.out).mono ?_);(case side1=>repeat (first|exact HR406_0.out|(with_reducible refine Kd.C_alloc ?_ _)|(with_reducible refine Kd.C_drewN ?_ _)|(with_reducible refine Kd.C_drew ?_)));(case side2=>exact HC406_0.out);(case side3=>repeat (first|exact HR407_0.out|(with_reducible refine Kd.C_alloc ?_ _)|(with_reducible refine Kd.C_drewN ?_ _)|(with_reducible refine Kd.C_drew ?_)));(case side4=>exact HC407_0.out);rintro e w' ⟨rfl,⟨nd,rfl⟩⟩;(try first|exact ⟨rfl,_,World.drewN_drewN _ _ _⟩|exact ⟨rfl,_,Eq.trans (World.drewN_drewN _ _ _) (congrArg (World.drewN _) (Nat.add_assoc _ _ _))⟩)))
        repeat (go_quiet (first|(go_at_call 51;(with_reducible refine (laws_eqIntS.calls k1 _ _ (rd_LI l0 x5_1) _ _ (rd_LI l1 x5_1) true _ ?side1 ?side2 ?side3 ?side4 A7.out).mono ?_);(case side1=>repeat (first|exact HR406_0.out|(with_reducible refine Kd.C_alloc ?_ _)|(with_reducible refine Kd.C_drewN ?_ _)|(with_reducible refine Kd.C_drew ?_)));(case side2=>exact HC406_0.out);(case side3=>repeat (first|exact HR407_0.out|(with_reducible refine Kd.C_alloc ?_ _)|(with_reducible refine Kd.C_drewN ?_ _)|(with_reducible refine Kd.C_drew ?_)));(case side4=>exact HC407_0.out);rintro e w' ⟨rfl,⟨nd,rfl⟩⟩;(try first|exact ⟨rfl,_,World.drewN_drewN _ _ _⟩|exact ⟨rfl,_,Eq.trans (World.drewN_drewN _ _ _) (congrArg (World.drewN _) (Nat.add_assoc _ _ _))⟩)));try go_wp2_with (first|(go_at_call 51;(with_reducible refine (laws_eqIntS.calls k1 _ _ (rd_LI l0 x5_1) _ _ (rd_LI l1 x5_1) true _ ?side1 ?side2 ?side3 ?side4 A7.out).mono ?_);(case side1=>repeat (first|exact HR406_0.out|(with_reducible refine Kd.C_alloc ?_ _)|(with_reducible refine Kd.C_drewN ?_ _)|(with_reducible refine Kd.C_drew ?_)));(case side2=>exact HC406_0.out);(case side3=>repeat (first|exact HR407_0.out|(with_reducible refine Kd.C_alloc ?_ _)|(with_reducible refine Kd.C_drewN ?_ _)|(with_reducible refine Kd.C_drew ?_)));(case side4=>exact HC407_0.out);rintro e w' ⟨rfl,⟨nd,rfl⟩⟩;(try first|exact ⟨rfl,_,World.drewN_drewN _ _ _⟩|exact ⟨rfl,_,Eq.trans (World.drewN_drewN _ _ _) (congrArg (World.drewN _) (Nat.add_assoc _ _ _))⟩))))
        go_roundg k1
        case measure=>have:=HK1.out;omega
        case rel=>exact ⟨(wrap64 (x5_1 + 1)),qrs,H',⟨by have:=HK1.out;omega⟩,by repeat (first|exact Drawn0.refl _|apply Drawn0.step)⟩
       ·replace c8:=Bool.eq_false_iff.mpr c8;subst c8;have H1:(some false) = some r:=by rw [if_neg (show ¬ (false = true) by decide)] at H;exact H
        clear H;have H:=H1;clear H1;obtain rfl:=Option.some.inj H;have p406:0 ≤ (x5_1:Int):=of_decide_eq_true ab;have q406:x5_1 < (l0.length:Int):=of_decide_eq_true ab;obtain ⟨ad406,A406_0,c406_0,e406,hx406_0,hl406_0,hi406_0⟩:=at_LI HR0.out x5_1 p406 q406;cases e406
        have HR406_0:=aM hi406_0;have HC406_0:=aM hl406_0;clear hi406_0 hl406_0;replace p406:=eq_true p406;replace q406:=eq_true q406;have p407:0 ≤ (x5_1:Int):=of_decide_eq_true ab;have q407:x5_1 < (l1.length:Int):=of_decide_eq_true ab;obtain ⟨ad407,A407_0,c407_0,e407,hx407_0,hl407_0,hi407_0⟩:=at_LI HR1.out x5_1 p407 q407;cases e407
        have HR407_0:=aM hi407_0;have HC407_0:=aM hl407_0;clear hi407_0 hl407_0;replace p407:=eq_true p407;replace q407:=eq_true q407;go_wp2_with (first|(go_at_call 51;(with_reducible refine (laws_eqIntS.calls k1 _ _ (rd_LI l0 x5_1) _ _ (rd_LI l1 x5_1) false _ ?side1 ?side2 ?side3 ?side4 A7.out).mono ?_);(case side1=>repeat (first|exact HR406_0.out|(with_reducible refine Kd.C_alloc ?_ _)|(with_reducible refine Kd.C_drewN ?_ _)|(with_reducible refine Kd.C_drew ?_)));(case side2=>exact HC406_0.out);(case side3=>repeat (first|exact HR407_0.out|(with_reducible refine Kd.C_alloc ?_ _)|(with_reducible refine Kd.C_drewN ?_ _)|(with_reducible refine Kd.C_drew ?_)));(case side4=>exact HC407_0.out);rintro e w' ⟨rfl,⟨nd,rfl⟩⟩;(try first|exact ⟨rfl,_,World.drewN_drewN _ _ _⟩|exact ⟨rfl,_,Eq.trans (World.drewN_drewN _ _ _) (congrArg (World.drewN _) (Nat.add_assoc _ _ _))⟩)))
        repeat (go_quiet (first|(go_at_call 51;(with_reducible refine (laws_eqIntS.calls k1 _ _ (rd_LI l0 x5_1) _ _ (rd_LI l1 x5_1) false _ ?side1 ?side2 ?side3 ?side4 A7.out).mono ?_);(case side1=>repeat (first|exact HR406_0.out|(with_reducible refine Kd.C_alloc ?_ _)|(with_reducible refine Kd.C_drewN ?_ _)|(with_reducible refine Kd.C_drew ?_)));(case side2=>exact HC406_0.out);(case side3=>repeat (first|exact HR407_0.out|(with_reducible refine Kd.C_alloc ?_ _)|(with_reducible refine Kd.C_drewN ?_ _)|(with_reducible refine Kd.C_drew ?_)));(case side4=>exact HC407_0.out);rintro e w' ⟨rfl,⟨nd,rfl⟩⟩;(try first|exact ⟨rfl,_,World.drewN_drewN _ _ _⟩|exact ⟨rfl,_,Eq.trans (World.drewN_drewN _ _ _) (congrArg (World.drewN _) (Nat.add_assoc _ _ _))⟩)));try go_wp2_with (first|(go_at_call 51;(with_reducible refine (laws_eqIntS.calls k1 _ _ (rd_LI l0 x5_1) _ _ (rd_LI l1 x5_1) false _ ?side1 ?side2 ?side3 ?side4 A7.out).mono ?_);(case side1=>repeat (first|exact HR406_0.out|(with_reducible refine Kd.C_alloc ?_ _)|(with_reducible refine Kd.C_drewN ?_ _)|(with_reducible refine Kd.C_drew ?_)));(case side2=>exact HC406_0.out);(case side3=>repeat (first|exact HR407_0.out|(with_reducible refine Kd.C_alloc ?_ _)|(with_reducible refine Kd.C_drewN ?_ _)|(with_reducible refine Kd.C_drew ?_)));(case side4=>exact HC407_0.out);rintro e w' ⟨rfl,⟨nd,rfl⟩⟩;(try first|exact ⟨rfl,_,World.drewN_drewN _ _ _⟩|exact ⟨rfl,_,Eq.trans (World.drewN_drewN _ _ _) (congrArg (World.drewN _) (Nat.add_assoc _ _ _))⟩))))
        go_ret
        exact ⟨by first|rfl|(simp;done)|(simp [*];done),by repeat (first|exact Drawn0.refl _|apply Drawn0.step)⟩
      ·rw [if_neg c6] at H;exact absurd H (by simp)
     ·rw [if_neg c5] at H;exact absurd H (by simp)
    ·rw [if_neg c4] at H;have c4b0:decide (x5_1 < (l0.length:Int)) = false:=decide_eq_false c4;clear c4;obtain rfl:=Option.some.inj H;go_wp2
     repeat (go_quiet (fail);try go_wp2)
     go_ret
     exact ⟨by first|rfl|(simp;done)|(simp [*];done),by repeat (first|exact Drawn0.refl _|apply Drawn0.step)⟩
 ·rw [if_neg c3] at H;have c3b0:((l0.length:Int) == (l1.length:Int)) = false:=beq_eq_false_iff_ne.mpr c3;have c3b1:((l0.length:Int) != (l1.length:Int)) = true:=bne_iff_ne.mpr c3;have c3b2:(l0.length == l1.length) = false:=by first|simpa using c3|(simp at c3 ⊢;omega)
  obtain rfl:=Option.some.inj H;go_enter Try.func15,Try.ntmps15;go_wp2
  repeat (go_quiet (fail);try go_wp2)
  go_ret
  exact ⟨by first|rfl|(simp;done)|(simp [*];done),by repeat (first|exact Drawn0.refl _|apply Drawn0.step)⟩


/-! ### slices_IndexFunc_LLint_int: function 167 -/
def slices_IndexFunc_LLint_int.l0:Nat → List (List Int) → (List Int → Option (Bool)) → Int → Int → Option (Int)
 | 0,_,_,_,_=>none
 | k + 1,x0,x1,x7,x8=>if x8 < x7 then (if 0 ≤ x8 then (if x8 < (x0.length:Int) then ((x1 (rd_LI x0 x8)).bind fun t282=>(if t282 = true then (some x8) else (slices_IndexFunc_LLint_int.l0 k x0 x1 x7 (wrap64 (x8 + 1))))) else (none)) else (none)) else (some (-1))
def slices_IndexFunc_LLint_int.f (k:Nat) (l0:List (List Int)) (a1:(List Int → Option (Bool))):Option (Int):=slices_IndexFunc_LLint_int.l0 k l0 a1 (l0.length:Int) 0
theorem slices_IndexFunc_LLint_int.mono_l:∀ k,(∀ y0 y1 y2 y3,LeO (slices_IndexFunc_LLint_int.l0 k y0 y1 y2 y3) (slices_IndexFunc_LLint_int.l0 (k + 1) y0 y1 y2 y3))
 | 0=>fun _ _ _ _ r h=>by simp [slices_IndexFunc_LLint_int.l0] at h
 | k + 1=>by
  have ih0:=slices_IndexFunc_LLint_int.mono_l k
  ·intro y0 y1 y2 y3;unfold slices_IndexFunc_LLint_int.l0
   repeat' with_reducible first|exact ih0 _ _ _ _|exact LeO.refl _|exact LeO.none _|refine LeO.ite ?_ ?_|refine LeO.bind ?_ (fun _=>?_)
theorem slices_IndexFunc_LLint_int.mono:∀ a0 a1 k,LeO (slices_IndexFunc_LLint_int.f k a0 a1) (slices_IndexFunc_LLint_int.f (k + 1) a0 a1):=by
 intro a0 a1 k;have ih0:=slices_IndexFunc_LLint_int.mono_l k;unfold slices_IndexFunc_LLint_int.f
 repeat' with_reducible first|exact ih0 _ _ _ _|exact LeO.refl _|exact LeO.none _|refine LeO.ite ?_ ?_|refine LeO.bind ?_ (fun _=>?_)
theorem slices_IndexFunc_LLint_int.monop_l {p_ q_:(List Int → Option (Bool))} (h_:∀ x0_,LeO (p_ x0_) (q_ x0_)):∀ k,(∀ y0 y2 y3,LeO (slices_IndexFunc_LLint_int.l0 k y0 p_ y2 y3) (slices_IndexFunc_LLint_int.l0 k y0 q_ y2 y3))
 | 0=>fun _ _ _ r hz=>by simp [slices_IndexFunc_LLint_int.l0] at hz
 | k + 1=>by
  have ih0:=slices_IndexFunc_LLint_int.monop_l h_ k
  ·intro y0 y1 y2;unfold slices_IndexFunc_LLint_int.l0
   repeat' with_reducible first|exact ih0 _ _ _|exact h_ _|exact LeO.refl _|refine LeO.ite ?_ ?_|refine LeO.bind ?_ (fun _=>?_)
theorem slices_IndexFunc_LLint_int.mono_p {p_ q_:(List Int → Option (Bool))} (h_:∀ x0_,LeO (p_ x0_) (q_ x0_)):∀ a0 k,LeO (slices_IndexFunc_LLint_int.f k a0 p_) (slices_IndexFunc_LLint_int.f k a0 q_):=by
 intro a0 k;have ih0:=slices_IndexFunc_LLint_int.monop_l h_ k;unfold slices_IndexFunc_LLint_int.f
 repeat' with_reducible first|exact ih0 _ _ _|exact h_ _|exact LeO.refl _|refine LeO.ite ?_ ?_|refine LeO.bind ?_ (fun _=>?_)
set_option maxHeartbeats 8000000 in
set_option maxRecDepth 100000 in
theorem slices_IndexFunc_LLint_int.calls (k:Nat) (A0:Option Addr) (c0:Nat) (l0:List (List Int)) (a1:(List Int → Option (Bool))) (g1_:Nat) (lb1_:Array Value) (eg1_:∀ (args:Array Value) (w:World),(callFunc g1_ args).run Try.prog w = .ok (.enter g1_ args) w) (r:Int) (w:World) (hr0:Kd.C (Kd.slice 3 (Kd.int .i64)) w A0 l0.length l0) (hc0:l0.length ≤ c0) (hp1:∀ (W:World) (A0_:Option Addr) (c0_:Nat) (l0_:List Int) (r0_:Bool),a1 l0_ = some r0_ → Below w.heap.size w W → Kd.C (Kd.int .i64) W A0_ l0_.length l0_ → l0_.length ≤ c0_ → Calls Try.prog g1_ (#[.slice A0_ l0_.length c0_] ++ lb1_) W fun e w'=>e = .returned (.bool r0_) ∧ Below W.heap.size W w') (h:slices_IndexFunc_LLint_int.f k l0 a1 = some r) :
  Calls Try.prog 167 #[.slice A0 l0.length c0,.func (.func g1_) #[] lb1_] w fun e w'=>e = .returned (.int .i64 r) ∧ Below w.heap.size w w':=by
 have HR0:=aM hr0;have HC0:=aM hc0;clear hr0 hc0;have HP1:=aM hp1;clear hp1;have HB:=aM (Below.refl w.heap.size w);have H:(slices_IndexFunc_LLint_int.l0 k l0 a1 (l0.length:Int) 0) = some r:=h;clear h;have H':=aM H;clear H;go_enter Try.func167,Try.ntmps167;go_wp2
 go_loopg [8] k (fun kq v8 w'=>∃ (x8_1:Int),v8 = .int .i64 x8_1 ∧ Aside0 (slices_IndexFunc_LLint_int.l0 kq l0 a1 (l0.length:Int) x8_1 = some r) ∧ Aside0 (kq ≤ k) ∧ Aside0 (Below w.heap.size w w'))
 case atStart=>exact ⟨(0),qrs,H',⟨Nat.le_refl _⟩,⟨by exact bw⟩⟩
 case round =>
  clear H';(try clear c1);(try clear p1);(try clear p2)
  obtain ⟨x8_1,rfl,HA,HK1,HB⟩:=hrel
  cases gk with
  | zero=>exact absurd HA.out (by simp [slices_IndexFunc_LLint_int.l0])
  | succ k1 =>
   have H:=HA.out;clear HA;simp only [slices_IndexFunc_LLint_int.l0] at H;by_cases c3:x8_1 < (l0.length:Int)
   ·rw [if_pos c3] at H;have c3b0:decide (x8_1 < (l0.length:Int)) = true:=decide_eq_true c3;clear c3;by_cases c4:0 ≤ x8_1
    ·rw [if_pos c4] at H;have c4b0:decide (0 ≤ x8_1) = true:=decide_eq_true c4;clear c4;by_cases c5:x8_1 < (l0.length:Int)
     ·rw [if_pos c5] at H;have c5b0:decide (x8_1 < (l0.length:Int)) = true:=decide_eq_true c5;clear c5;replace H:=Option.bind_eq_some_iff.mp H;obtain ⟨t282,A60,H⟩:=H;replace H:(if t282 = true then (some x8_1) else (slices_IndexFunc_LLint_int.l0 k1 l0 a1 (l0.length:Int) (wrap64 (x8_1 + 1)))) = some r:=H;have A6:=aM A60;clear A60;by_cases c7:t282 = true
      ·subst c7;have H1:(some x8_1) = some r:=by rw [if_pos rfl] at H;exact H
       clear H;have H:=H1;clear H1;obtain rfl:=Option.some.inj H;have p281:0 ≤ (x8_1:Int):=of_decide_eq_true ab;have q281:x8_1 < (l0.length:Int):=of_decide_eq_true ab;obtain ⟨ad281,A281_0,c281_0,e281,hx281_0,hl281_0,hi281_0⟩:=at_LI HR0.out x8_1 p281 q281;cases e281
       replace hx281_0:=(HB.out.cell (World.block_lt_of_cell? w _ hx281_0)).trans hx281_0;have HR281_0:=aM hi281_0;have HC281_0:=aM hl281_0;clear hi281_0 hl281_0;replace p281:=eq_true p281;replace q281:=eq_true q281;go_wp2_with (first|((with_reducible refine gate_fn (t:=11) rfl ?_);refine goesFL_ (some 16) rfl rfl eg1_ #[.slice A281_0 (rd_LI l0 x8_1).length c281_0] rfl rfl mq ?_;(with_reducible refine (HP1.out _ _ _ (rd_LI l0 x8_1) true A6.out ?side1 ?side2 ?side3).mono ?_);(case side1=>exact bw);(case side2=>exact qcs HR281_0.out HB.out);(case side3=>exact HC281_0.out);rintro e w8 ⟨rfl,hb⟩;refine ⟨_,rfl,?_⟩;have n0_:=aM (below_step bw hb);clear HB;have HB:=n0_;clear n0_;(try clear hb);(try clear hb2);(try clear hk);(try clear hi)))
       go_ret
       exact ⟨by first|rfl|(simp [errW_none,errW_some] <;> rfl)|(simp [*,errW_none,errW_some] <;> rfl),by exact bw⟩
      ·replace c7:=Bool.eq_false_iff.mpr c7;subst c7;have H1:(slices_IndexFunc_LLint_int.l0 k1 l0 a1 (l0.length:Int) (wrap64 (x8_1 + 1))) = some r:=by rw [if_neg (show ¬ (false = true) by decide)] at H;exact H
       clear H;have H:=H1;clear H1;have H':=aM H;clear H;have p281:0 ≤ (x8_1:Int):=of_decide_eq_true ab;have q281:x8_1 < (l0.length:Int):=of_decide_eq_true ab;obtain ⟨ad281,A281_0,c281_0,e281,hx281_0,hl281_0,hi281_0⟩:=at_LI HR0.out x8_1 p281 q281;cases e281
       replace hx281_0:=(HB.out.cell (World.block_lt_of_cell? w _ hx281_0)).trans hx281_0;have HR281_0:=aM hi281_0;have HC281_0:=aM hl281_0;clear hi281_0 hl281_0;replace p281:=eq_true p281;replace q281:=eq_true q281;go_wp2_with (first|((with_reducible refine gate_fn (t:=11) rfl ?_);refine goesFL_ (some 16) rfl rfl eg1_ #[.slice A281_0 (rd_LI l0 x8_1).length c281_0] rfl rfl mq ?_;(with_reducible refine (HP1.out _ _ _ (rd_LI l0 x8_1) false A6.out ?side1 ?side2 ?side3).mono ?_);(case side1=>exact bw);(case side2=>exact qcs HR281_0.out HB.out);(case side3=>exact HC281_0.out);rintro e w9 ⟨rfl,hb⟩;refine ⟨_,rfl,?_⟩;have n0_:=aM (below_step bw hb);clear HB;have HB:=n0_;clear n0_;(try clear hb);(try clear hb2);(try clear hk);(try clear hi)))
       go_roundg k1
       case measure=>have:=HK1.out;omega
       case rel=>exact ⟨(wrap64 (x8_1 + 1)),qrs,H',⟨by have:=HK1.out;omega⟩,⟨by exact bw⟩⟩
     ·rw [if_neg c5] at H;exact absurd H (by simp)
    ·rw [if_neg c4] at H;exact absurd H (by simp)
   ·rw [if_neg c3] at H;have c3b0:decide (x8_1 < (l0.length:Int)) = false:=decide_eq_false c3;clear c3;obtain rfl:=Option.some.inj H;go_wp2
    go_ret
    exact ⟨by first|rfl|(simp [errW_none,errW_some] <;> rfl)|(simp [*,errW_none,errW_some] <;> rfl),by exact bw⟩


/-! ### slices_ContainsFunc_LLint_int: function 152 -/
def slices_ContainsFunc_LLint_int.f (k:Nat) (l0:List (List Int)) (a1:(List Int → Option (Bool))):Option (Bool):=(slices_IndexFunc_LLint_int.f k l0 a1).bind fun t283=>(some (decide (t283 ≥ 0)))
theorem slices_ContainsFunc_LLint_int.mono:∀ a0 a1 k,LeO (slices_ContainsFunc_LLint_int.f k a0 a1) (slices_ContainsFunc_LLint_int.f (k + 1) a0 a1):=by
 intro a0 a1 k;unfold slices_ContainsFunc_LLint_int.f
 repeat' with_reducible first|exact slices_IndexFunc_LLint_int.mono _ _ _|exact LeO.refl _|exact LeO.none _|refine LeO.trans (slices_IndexFunc_LLint_int.mono _ _ _) (slices_IndexFunc_LLint_int.mono_p (fun _=>?_) _ _)|refine LeO.ite ?_ ?_|refine LeO.bind ?_ (fun _=>?_)
theorem slices_ContainsFunc_LLint_int.mono_p {p_ q_:(List Int → Option (Bool))} (h_:∀ x0_,LeO (p_ x0_) (q_ x0_)):∀ a0 k,LeO (slices_ContainsFunc_LLint_int.f k a0 p_) (slices_ContainsFunc_LLint_int.f k a0 q_):=by
 intro a0 k;unfold slices_ContainsFunc_LLint_int.f
 repeat' with_reducible first|exact h_ _|refine slices_IndexFunc_LLint_int.mono_p (fun _=>?_) _ _|exact LeO.refl _|refine LeO.ite ?_ ?_|refine LeO.bind ?_ (fun _=>?_)
set_option maxHeartbeats 8000000 in
set_option maxRecDepth 100000 in
theorem slices_ContainsFunc_LLint_int.calls (k:Nat) (A0:Option Addr) (c0:Nat) (l0:List (List Int)) (a1:(List Int → Option (Bool))) (g1_:Nat) (lb1_:Array Value) (eg1_:∀ (args:Array Value) (w:World),(callFunc g1_ args).run Try.prog w = .ok (.enter g1_ args) w) (r:Bool) (w:World) (hr0:Kd.C (Kd.slice 3 (Kd.int .i64)) w A0 l0.length l0) (hc0:l0.length ≤ c0) (hp1:∀ (W:World) (A0_:Option Addr) (c0_:Nat) (l0_:List Int) (r0_:Bool),a1 l0_ = some r0_ → Below w.heap.size w W → Kd.C (Kd.int .i64) W A0_ l0_.length l0_ → l0_.length ≤ c0_ → Calls Try.prog g1_ (#[.slice A0_ l0_.length c0_] ++ lb1_) W fun e w'=>e = .returned (.bool r0_) ∧ Below W.heap.size W w') (h:slices_ContainsFunc_LLint_int.f k l0 a1 = some r) :
  Calls Try.prog 152 #[.slice A0 l0.length c0,.func (.func g1_) #[] lb1_] w fun e w'=>e = .returned (.bool r) ∧ Below w.heap.size w w':=by
 have HR0:=aM hr0;have HC0:=aM hc0;clear hr0 hc0;have HP1:=aM hp1;clear hp1;have HB:=aM (Below.refl w.heap.size w);have H:((slices_IndexFunc_LLint_int.f k l0 a1).bind fun t283=>(some (decide (t283 ≥ 0)))) = some r:=h;clear h;replace H:=Option.bind_eq_some_iff.mp H;obtain ⟨t283,A30,H⟩:=H;replace H:(some (decide (t283 ≥ 0))) = some r:=H;have A3:=aM A30;clear A30;obtain rfl:=Option.some.inj H;go_enter Try.func152,Try.ntmps152;go_wp2_with (first|((with_reducible refine gate_callee (f:=167) rfl ?_);refine goesL_ (some 7) rfl rfl Try.func167 kR rfl #[.slice A0 l0.length c0,.func (.func g1_) #[] lb1_] rfl mq ?_;(with_reducible refine (slices_IndexFunc_LLint_int.calls k _ _ l0 a1 g1_ lb1_ eg1_ t283 _ ?side1 ?side2 ?side3 A3.out).mono ?_);(case side1=>repeat (first|exact HR0.out|(with_reducible refine Kd.C_alloc ?_ _)|(with_reducible refine Kd.C_drewN ?_ _)|(with_reducible refine Kd.C_drew ?_)));(case side2=>exact HC0.out);(case side3=>exact (fun W_ A0_ c0_ l0_ r0_ hx_ hb_ hr0_ hc0_=>HP1.out W_ A0_ c0_ l0_ r0_ hx_ (below_step bw hb_) hr0_ hc0_));rintro e w4 ⟨rfl,hb⟩;refine ⟨_,rfl,?_⟩;have n0_:=aM (below_step bw hb);clear HB;have HB:=n0_;clear n0_;(try clear hb);(try clear hb2);(try clear hk);(try clear hi)))
 go_ret
 exact ⟨by first|rfl|(simp [errW_none,errW_some] <;> rfl)|(simp [*,errW_none,errW_some] <;> rfl),by exact bw⟩


/-! ### impl_areSets_1: function 153 -/
def impl_areSets_1.f (k:Nat) (l0:List Int) (a1:Int):Option (Bool):=if (l0.length:Int) = 0 then (some true) else ((impl_isSet.f k l0 a1).bind fun t292=>(some (!t292)))
theorem impl_areSets_1.mono:∀ a0 a1 k,LeO (impl_areSets_1.f k a0 a1) (impl_areSets_1.f (k + 1) a0 a1):=by
 intro a0 a1 k;unfold impl_areSets_1.f
 repeat' with_reducible first|exact impl_isSet.mono _ _ _|exact LeO.refl _|exact LeO.none _|refine LeO.ite ?_ ?_|refine LeO.bind ?_ (fun _=>?_)
set_option maxHeartbeats 8000000 in
set_option maxRecDepth 100000 in
theorem impl_areSets_1.calls (k:Nat) (A0:Option Addr) (c0:Nat) (l0:List Int) (gc1:Nat) (a1:Int) (r:Bool) (w:World) (hr0:Kd.C (Kd.int .i64) w A0 l0.length l0) (hc0:l0.length ≤ c0) (hb1:w.heap[gc1]? = some (.cells #[.int .i64 a1] 3 (0,0))) (h:impl_areSets_1.f k l0 a1 = some r) :
  Calls Try.prog 153 #[.slice A0 l0.length c0,.pointer (some ⟨gc1,0,none⟩)] w fun e w'=>e = .returned (.bool r) ∧ Below w.heap.size w w':=by
 have HR0:=aM hr0;have HC0:=aM hc0;clear hr0 hc0;have BK1:=aM hb1;clear hb1;have HB:=aM (Below.refl w.heap.size w);have H:(if (l0.length:Int) = 0 then (some true) else ((impl_isSet.f k l0 a1).bind fun t292=>(some (!t292)))) = some r:=h;clear h;by_cases c3:(l0.length:Int) = 0
 ·rw [if_pos c3] at H;have c3b0:((l0.length:Int) == 0) = true:=beq_iff_eq.mpr c3;have c3b1:((l0.length:Int) != 0) = false:=bne_eq_false_iff_eq.mpr c3;clear c3;obtain rfl:=Option.some.inj H;go_enter Try.func153,Try.ntmps153;go_wp2
  go_ret
  exact ⟨by first|rfl|(simp [errW_none,errW_some] <;> rfl)|(simp [*,errW_none,errW_some] <;> rfl),by exact bw⟩
 ·rw [if_neg c3] at H;have c3b0:((l0.length:Int) == 0) = false:=beq_eq_false_iff_ne.mpr c3;have c3b1:((l0.length:Int) != 0) = true:=bne_iff_ne.mpr c3;have c3b2:¬ (l0 = []):=fun h_=>c3 (by rw [h_];rfl)
  replace H:=Option.bind_eq_some_iff.mp H;obtain ⟨t292,A40,H⟩:=H;replace H:(some (!t292)) = some r:=H;have A4:=aM A40;clear A40;obtain rfl:=Option.some.inj H;have hcz5_0:w.cell? ⟨gc1,0,none⟩ = some (.int .i64 a1):=(blk_cell BK1.out 0).trans rfl;have hfz5_0:=blk_frozen BK1.out 0;go_enter Try.func153,Try.ntmps153;go_wp2_with (first|(go_at_call 154;(with_reducible refine (impl_isSet.calls k _ _ l0 a1 t292 _ ?side1 ?side2 A4.out).mono ?_);(case side1=>repeat (first|exact HR0.out|(with_reducible refine Kd.C_alloc ?_ _)|(with_reducible refine Kd.C_drewN ?_ _)|(with_reducible refine Kd.C_drew ?_)));(case side2=>exact HC0.out);rintro e w6 ⟨rfl,hb⟩;have n0_:=aM (blk_below (g:=gc1) (o:=.cells #[.int .i64 a1] 3 (0,0)) bk hb);have n1_:=aM (below_step bw hb);clear BK1;clear HB;have BK1:=n0_;have HB:=n1_;clear n0_ n1_;(try clear hb);(try clear hb2);(try clear hk);(try clear hi)))
  go_ret
  exact ⟨by first|rfl|(simp [errW_none,errW_some] <;> rfl)|(simp [*,errW_none,errW_some] <;> rfl),by exact bw⟩
theorem impl_areSets_1.enters:∀ (args:Array Value) (w:World),(callFunc 153 args).run Try.prog w = .ok (.enter 153 args) w:=enters_of Try.func153 kR rfl


/-! ### impl_areSets: function 127 -/
def impl_areSets.f (k:Nat) (l0:List (List Int)) (a1:Int):Option (Bool):=(slices_ContainsFunc_LLint_int.f k l0 (fun y0_=>impl_areSets_1.f k y0_ a1)).bind fun t294=>(some (!t294))
theorem impl_areSets.mono:∀ a0 a1 k,LeO (impl_areSets.f k a0 a1) (impl_areSets.f (k + 1) a0 a1):=by
 intro a0 a1 k;unfold impl_areSets.f
 repeat' with_reducible first|exact impl_areSets_1.mono _ _ _|exact slices_ContainsFunc_LLint_int.mono _ _ _|exact LeO.refl _|exact LeO.none _|refine LeO.trans (slices_ContainsFunc_LLint_int.mono _ _ _) (slices_ContainsFunc_LLint_int.mono_p (fun _=>?_) _ _)|refine LeO.ite ?_ ?_|refine LeO.bind ?_ (fun _=>?_)
set_option maxHeartbeats 8000000 in
set_option maxRecDepth 100000 in
theorem impl_areSets.calls (k:Nat) (A0:Option Addr) (c0:Nat) (l0:List (List Int)) (a1:Int) (r:Bool) (w:World) (hr0:Kd.C (Kd.slice 3 (Kd.int .i64)) w A0 l0.length l0) (hc0:l0.length ≤ c0) (h:impl_areSets.f k l0 a1 = some r) :
  Calls Try.prog 127 #[.slice A0 l0.length c0,.int .i64 a1] w fun e w'=>e = .returned (.bool r) ∧ Below w.heap.size w w':=by
 have hmf:∀ (fn:Fn) (first cap:Array Value) (w:World),(Instr.makeFunc fn first cap).run Try.prog w = .ok (.func fn first cap) w:=fun _ _ _ _=>rfl
 have HR0:=aM hr0;have HC0:=aM hc0;clear hr0 hc0;have HB:=aM (Below.refl w.heap.size w);have H:((slices_ContainsFunc_LLint_int.f k l0 (fun y0_=>impl_areSets_1.f k y0_ a1)).bind fun t294=>(some (!t294))) = some r:=h;clear h;replace H:=Option.bind_eq_some_iff.mp H;obtain ⟨t294,A30,H⟩:=H;replace H:(some (!t294)) = some r:=H;have A3:=aM A30;clear A30;obtain rfl:=Option.some.inj H;go_enter Try.func127,Try.ntmps127;go_wp2_with (first|((with_reducible refine gate_dst (N:=3) rfl ?_);refine box_event ?hg (N:=3) ?hd (cs:=#[.int .i64 a1]) (t:=3) ?hr ?_;(case hd=>rfl);(case hg=>rfl);(case hr=>first|(go_simp;done)|(go_simp;rfl));intro gb293 hg w4 hbox hb;have n0_:=aM (below_step bw hb);have n1_:=aM (hbox);have n2_:=aM ((by rw [hg];exact (below_size bw):w.heap.size ≤ gb293));have n3_:=aM ((by rw [hg];exact (below_size bw):w.heap.size ≤ gb293));clear HB;have HB:=n0_;have BK293:=n1_;have GW293:=n2_;have GE293:=n3_;clear n0_ n1_ n2_ n3_;clear hb hbox hg)|((with_reducible refine gate_callee (f:=152) rfl ?_);refine goesL_ (some 7) rfl rfl Try.func152 kR rfl #[.slice A0 l0.length c0,.func (.func 153) #[] #[.pointer (some ⟨gb293,0,none⟩)]] rfl mq ?_;(with_reducible refine (slices_ContainsFunc_LLint_int.calls k _ _ l0 (fun y0_=>impl_areSets_1.f k y0_ a1) 153 #[.pointer (some ⟨gb293,0,none⟩)] impl_areSets_1.enters t294 _ ?side1 ?side2 ?side3 A3.out).mono ?_);(case side1=>exact qcs HR0.out HB.out);(case side2=>exact HC0.out);(case side3=>exact (fun W_ A0_ c0_ l0_ r0_ hx_ hb_ hr0_ hc0_=>(impl_areSets_1.calls k A0_ c0_ l0_ gb293 a1 r0_ W_ hr0_ hc0_ (box_later bk hb_) hx_).mono (fun _ _ h_=>h_)));rintro e w5 ⟨rfl,hb⟩;refine ⟨_,rfl,?_⟩;have n0_:=aM (blk_below (g:=gb293) (o:=.cells #[.int .i64 a1] 3 (0,0)) bk hb);have n1_:=aM (below_step bw hb);clear BK293;clear HB;have BK293:=n0_;have HB:=n1_;clear n0_ n1_;(try clear hb);(try clear hb2);(try clear hk);(try clear hi)))
 go_ret
 exact ⟨by first|rfl|(simp [errW_none,errW_some] <;> rfl)|(simp [*,errW_none,errW_some] <;> rfl),by exact bw⟩


/-! ### impl_IsGame: function 91 -/
mutual
def impl_IsGame.j0:Nat → Bool → Int → List (List Int) → Option (Bool)
 | 0,_,_,_=>none
 | k + 1,x24,x301000,x301001=>if x24 = true then (some false) else (impl_IsGame.l0 k x301001 (x301001.length:Int) 0 x301000 x301001)
def impl_IsGame.l0:Nat → List (List Int) → Int → Int → Int → List (List Int) → Option (Bool)
 | 0,_,_,_,_,_=>none
 | k + 1,x26,x27,x28,x301000,x301001=>if x28 < x27 then (if 0 ≤ x28 then (if x28 < (x26.length:Int) then (if x28 > 0 then (if 0 ≤ (wrap64 (x28 - 1)) then (if (wrap64 (x28 - 1)) < (x301001.length:Int) then ((slices_Compare_int_int.f k (rd_LI x301001 (wrap64 (x28 - 1))) (rd_LI x26 x28)).bind fun t305=>(impl_IsGame.j2 k x28 (rd_LI x26 x28) x26 x27 x28 (decide (t305 ≥ 0)) x301000 x301001)) else (none)) else (none)) else (impl_IsGame.j2 k x28 (rd_LI x26 x28) x26 x27 x28 false x301000 x301001)) else (none)) else (none)) else (some true)
def impl_IsGame.j2:Nat → Int → List Int → List (List Int) → Int → Int → Bool → Int → List (List Int) → Option (Bool)
 | 0,_,_,_,_,_,_,_,_=>none
 | k + 1,x3,x4,x26,x27,x28,x45,x301000,x301001=>if x45 = true then (some false) else (impl_IsGame.l1 k x3 x4 x26 x27 x28 x301001 (x301001.length:Int) 0 x301000 x301001)
def impl_IsGame.l1:Nat → Int → List Int → List (List Int) → Int → Int → List (List Int) → Int → Int → Int → List (List Int) → Option (Bool)
 | 0,_,_,_,_,_,_,_,_,_,_=>none
 | k + 1,x3,x4,x26,x27,x28,x47,x48,x49,x301000,x301001=>if x49 < x48 then (if 0 ≤ x49 then (if x49 < (x47.length:Int) then (if x49 = x3 then (impl_IsGame.l1 k x3 x4 x26 x27 x28 x47 x48 (wrap64 (x49 + 1)) x301000 x301001) else ((impl_maskOf.f k x4).bind fun t307=>((impl_maskOf.f k (rd_LI x47 x49)).bind fun t308=>((impl_maskOf.f k (rd_LI x47 x49)).bind fun t309=>(if (Go.bits .and .i64 t307 t308) = t309 then (some false) else (impl_IsGame.l1 k x3 x4 x26 x27 x28 x47 x48 (wrap64 (x49 + 1)) x301000 x301001)))))) else (none)) else (none)) else (impl_IsGame.l0 k x26 x27 (wrap64 (x28 + 1)) x301000 x301001)
end
def impl_IsGame.f (k:Nat) (a0_0:Int) (l0_1:List (List Int)):Option (Bool):=(impl_within.f a0_0 1 9).bind fun t301=>(if t301 = true then (if (l0_1.length:Int) = 0 then (impl_IsGame.j0 k true a0_0 l0_1) else ((impl_areSets.f k l0_1 a0_0).bind fun t302=>(impl_IsGame.j0 k (!t302) a0_0 l0_1))) else (impl_IsGame.j0 k true a0_0 l0_1))
theorem impl_IsGame.mono_l:∀ k,(∀ y0 y1 y2,LeO (impl_IsGame.j0 k y0 y1 y2) (impl_IsGame.j0 (k + 1) y0 y1 y2)) ∧ (∀ y0 y1 y2 y3 y4,LeO (impl_IsGame.l0 k y0 y1 y2 y3 y4) (impl_IsGame.l0 (k + 1) y0 y1 y2 y3 y4)) ∧ (∀ y0 y1 y2 y3 y4 y5 y6 y7,LeO (impl_IsGame.j2 k y0 y1 y2 y3 y4 y5 y6 y7) (impl_IsGame.j2 (k + 1) y0 y1 y2 y3 y4 y5 y6 y7)) ∧ (∀ y0 y1 y2 y3 y4 y5 y6 y7 y8 y9,LeO (impl_IsGame.l1 k y0 y1 y2 y3 y4 y5 y6 y7 y8 y9) (impl_IsGame.l1 (k + 1) y0 y1 y2 y3 y4 y5 y6 y7 y8 y9))
 | 0=>⟨fun _ _ _ r h=>by simp [impl_IsGame.j0] at h,fun _ _ _ _ _ r h=>by simp [impl_IsGame.l0] at h,fun _ _ _ _ _ _ _ _ r h=>by simp [impl_IsGame.j2] at h,fun _ _ _ _ _ _ _ _ _ _ r h=>by simp [impl_IsGame.l1] at h⟩
 | k + 1=>by
  obtain ⟨ih0,ih1,ih2,ih3⟩:=impl_IsGame.mono_l k;refine ⟨?_,?_,?_,?_⟩
  ·intro y0 y1 y2;unfold impl_IsGame.j0
   repeat' with_reducible first|exact ih0 _ _ _|exact ih1 _ _ _ _ _|exact ih2 _ _ _ _ _ _ _ _|exact ih3 _ _ _ _ _ _ _ _ _ _|exact impl_areSets.mono _ _ _|exact impl_maskOf.mono _ _|exact slices_Compare_int_int.mono _ _ _|exact LeO.refl _|exact LeO.none _|refine LeO.ite ?_ ?_|refine LeO.bind ?_ (fun _=>?_)
  ·intro y0 y1 y2 y3 y4;unfold impl_IsGame.l0
   repeat' with_reducible first|exact ih0 _ _ _|exact ih1 _ _ _ _ _|exact ih2 _ _ _ _ _ _ _ _|exact ih3 _ _ _ _ _ _ _ _ _ _|exact impl_areSets.mono _ _ _|exact impl_maskOf.mono _ _|exact slices_Compare_int_int.mono _ _ _|exact LeO.refl _|exact LeO.none _|refine LeO.ite ?_ ?_|refine LeO.bind ?_ (fun _=>?_)
  ·intro y0 y1 y2 y3 y4 y5 y6 y7;unfold impl_IsGame.j2
   repeat' with_reducible first|exact ih0 _ _ _|exact ih1 _ _ _ _ _|exact ih2 _ _ _ _ _ _ _ _|exact ih3 _ _ _ _ _ _ _ _ _ _|exact impl_areSets.mono _ _ _|exact impl_maskOf.mono _ _|exact slices_Compare_int_int.mono _ _ _|exact LeO.refl _|exact LeO.none _|refine LeO.ite ?_ ?_|refine LeO.bind ?_ (fun _=>?_)
  ·intro y0 y1 y2 y3 y4 y5 y6 y7 y8 y9;unfold impl_IsGame.l1
   repeat' with_reducible first|exact ih0 _ _ _|exact ih1 _ _ _ _ _|exact ih2 _ _ _ _ _ _ _ _|exact ih3 _ _ _ _ _ _ _ _ _ _|exact impl_areSets.mono _ _ _|exact impl_maskOf.mono _ _|exact slices_Compare_int_int.mono _ _ _|exact LeO.refl _|exact LeO.none _|refine LeO.ite ?_ ?_|refine LeO.bind ?_ (fun _=>?_)
theorem impl_IsGame.mono:∀ a0 a1 k,LeO (impl_IsGame.f k a0 a1) (impl_IsGame.f (k + 1) a0 a1):=by
 intro a0 a1 k;obtain ⟨ih0,ih1,ih2,ih3⟩:=impl_IsGame.mono_l k;unfold impl_IsGame.f
 repeat' with_reducible first|exact ih0 _ _ _|exact ih1 _ _ _ _ _|exact ih2 _ _ _ _ _ _ _ _|exact ih3 _ _ _ _ _ _ _ _ _ _|exact impl_areSets.mono _ _ _|exact impl_maskOf.mono _ _|exact slices_Compare_int_int.mono _ _ _|exact LeO.refl _|exact LeO.none _|refine LeO.ite ?_ ?_|refine LeO.bind ?_ (fun _=>?_)
set_option maxHeartbeats 8000000 in
set_option maxRecDepth 100000 in
theorem impl_IsGame.calls (k:Nat) (a0_0:Int) (A0_1:Option Addr) (c0_1:Nat) (l0_1:List (List Int)) (r:Bool) (w:World) (hr0_1:Kd.C (Kd.slice 3 (Kd.int .i64)) w A0_1 l0_1.length l0_1) (hc0_1:l0_1.length ≤ c0_1) (h:impl_IsGame.f k a0_0 l0_1 = some r) :
  Calls Try.prog 91 #[.agg #[.int .i64 a0_0,.slice A0_1 l0_1.length c0_1]] w fun e w'=>e = .returned (.bool r) ∧ Below w.heap.size w w':=by
 have hu28:=Try.underlying28;have HR0_1:=aM hr0_1;have HC0_1:=aM hc0_1;clear hr0_1 hc0_1;have HB:=aM (Below.refl w.heap.size w);have H:((impl_within.f a0_0 1 9).bind fun t301=>(if t301 = true then (if (l0_1.length:Int) = 0 then (impl_IsGame.j0 k true a0_0 l0_1) else ((impl_areSets.f k l0_1 a0_0).bind fun t302=>(impl_IsGame.j0 k (!t302) a0_0 l0_1))) else (impl_IsGame.j0 k true a0_0 l0_1))) = some r:=h;clear h;have HC2:=aM H;clear H;go_enter Try.func91,Try.ntmps91;go_upto_region 1 with (first|((with_reducible refine gate_dst (N:=1) rfl ?_);(try (refine gate_guard (by rfl) ?_;dsimp only));refine box_event ?hg (N:=1) ?hd (cs:=#[.int .i64 a0_0,.slice A0_1 l0_1.length c0_1]) (t:=28) ?hr ?_;(case hd=>rfl);(case hg=>rfl);(case hr=>first|(go_simp;done)|(go_simp;rfl));intro gb300 hg w3 hbox hb;have n0_:=aM (below_step bw hb);have n1_:=aM (hbox);have n2_:=aM ((by rw [hg];exact (below_size bw):w.heap.size ≤ gb300));have n3_:=aM ((by rw [hg];exact (below_size bw):w.heap.size ≤ gb300));clear HB;have HB:=n0_;have BK300:=n1_;have GW300:=n2_;have GE300:=n3_;clear n0_ n1_ n2_ n3_;clear hb hbox hg))
 (try simp only [Act.put,sA,sZ,sS])
 go_cut [24] (fun v24 wc=>∃ (kq:Nat) (x24_1:Bool),v24 = .bool x24_1 ∧ Aside0 (impl_IsGame.j0 kq x24_1 a0_0 l0_1 = some r) ∧ Aside0 (kq ≤ k) ∧ Aside0 (wc.heap[gb300]? = some (.cells #[.int .i64 a0_0,(.slice A0_1 l0_1.length c0_1)] 28 (0,0))) ∧ Aside0 (Below w.heap.size w wc))
 case first =>
  have H:=HC2.out;clear HC2;replace H:=Option.bind_eq_some_iff.mp H;obtain ⟨t301,A40,H⟩:=H;replace H:(if t301 = true then (if (l0_1.length:Int) = 0 then (impl_IsGame.j0 k true a0_0 l0_1) else ((impl_areSets.f k l0_1 a0_0).bind fun t302=>(impl_IsGame.j0 k (!t302) a0_0 l0_1))) else (impl_IsGame.j0 k true a0_0 l0_1)) = some r:=H;have A4:=aM A40;clear A40;by_cases c5:t301 = true
  ·subst c5;have H1:(if (l0_1.length:Int) = 0 then (impl_IsGame.j0 k true a0_0 l0_1) else ((impl_areSets.f k l0_1 a0_0).bind fun t302=>(impl_IsGame.j0 k (!t302) a0_0 l0_1))) = some r:=by rw [if_pos rfl] at H;exact H
   clear H;have H:=H1;clear H1;by_cases c6:(l0_1.length:Int) = 0
   ·rw [if_pos c6] at H;have c6b0:((l0_1.length:Int) == 0) = true:=beq_iff_eq.mpr c6;have c6b1:((l0_1.length:Int) != 0) = false:=bne_eq_false_iff_eq.mpr c6;clear c6;(first|rw [c6b0]|(simp only [i64_w,i32_w];rw [c6b0])|skip)
    have H':=aM H;clear H;have hcz7_0:w3.cell? ⟨gb300,0,none⟩ = some (.int .i64 a0_0):=(blk_cell BK300.out 0).trans rfl;have hcz7_1:w3.cell? ⟨gb300,1,none⟩ = some (.slice A0_1 l0_1.length c0_1):=(blk_cell BK300.out 1).trans rfl;have hfz7_0:=blk_frozen BK300.out 0;have hfz7_1:=blk_frozen BK300.out 1;go_wp2_with (first|((with_reducible refine gate_callee (f:=69) rfl ?_);refine goesL_ (some 9) rfl rfl Try.func69 kR rfl #[.int .i64 a0_0,.int .i64 1,.int .i64 9] rfl mq ?_;(with_reducible refine (impl_within.calls a0_0 1 9 true _ A4.out).mono ?_);rintro e w' ⟨rfl,⟨nd,rfl⟩⟩;refine ⟨_,rfl,?_⟩))
    go_meet
    case rel=>exact ⟨_,(true),qrs,H',⟨by first|omega|exact Nat.le_refl _⟩,⟨by (with_reducible repeat (first|refine blk_drewN ?_ _|refine blk_drew ?_|refine blk_alloc ?_ _));exact BK300.out⟩,⟨by exact bw⟩⟩
   ·rw [if_neg c6] at H;have c6b0:((l0_1.length:Int) == 0) = false:=beq_eq_false_iff_ne.mpr c6;have c6b1:((l0_1.length:Int) != 0) = true:=bne_iff_ne.mpr c6;have c6b2:¬ (l0_1 = []):=fun h_=>c6 (by rw [h_];rfl)
    (first|rw [c6b0]|(simp only [i64_w,i32_w];rw [c6b0])|skip)
    replace H:=Option.bind_eq_some_iff.mp H;obtain ⟨t302,A80,H⟩:=H;replace H:(impl_IsGame.j0 k (!t302) a0_0 l0_1) = some r:=H;have A8:=aM A80;clear A80;have H':=aM H;clear H;have hcz9_0:w3.cell? ⟨gb300,0,none⟩ = some (.int .i64 a0_0):=(blk_cell BK300.out 0).trans rfl;have hcz9_1:w3.cell? ⟨gb300,1,none⟩ = some (.slice A0_1 l0_1.length c0_1):=(blk_cell BK300.out 1).trans rfl;have hfz9_0:=blk_frozen BK300.out 0;have hfz9_1:=blk_frozen BK300.out 1;go_wp2_with (first|((with_reducible refine gate_callee (f:=69) rfl ?_);refine goesL_ (some 9) rfl rfl Try.func69 kR rfl #[.int .i64 a0_0,.int .i64 1,.int .i64 9] rfl mq ?_;(with_reducible refine (impl_within.calls a0_0 1 9 true _ A4.out).mono ?_);rintro e w' ⟨rfl,⟨nd,rfl⟩⟩;refine ⟨_,rfl,?_⟩)|(go_at_call 127;(with_reducible refine (impl_areSets.calls k _ _ l0_1 a0_0 t302 _ ?side1 ?side2 A8.out).mono ?_);(case side1=>repeat (first|exact (Kd.C_below HR0_1.out bw)|(with_reducible refine Kd.C_alloc ?_ _)|(with_reducible refine Kd.C_drewN ?_ _)|(with_reducible refine Kd.C_drew ?_)));(case side2=>exact HC0_1.out);rintro e w10 ⟨rfl,hb⟩;have n0_:=aM (blk_below (g:=gb300) (o:=.cells #[.int .i64 a0_0,.slice A0_1 l0_1.length c0_1] 28 (0,0)) bk hb);have n1_:=aM (below_step bw hb);clear BK300;clear HB;have BK300:=n0_;have HB:=n1_;clear n0_ n1_;(try clear hb);(try clear hb2);(try clear hk);(try clear hi)))
    go_meet
    case rel=>exact ⟨_,(!t302),qrs,H',⟨by first|omega|exact Nat.le_refl _⟩,⟨by (with_reducible repeat (first|refine blk_drewN ?_ _|refine blk_drew ?_|refine blk_alloc ?_ _));exact BK300.out⟩,⟨by exact bw⟩⟩
  ·replace c5:=Bool.eq_false_iff.mpr c5;subst c5;have H1:(impl_IsGame.j0 k true a0_0 l0_1) = some r:=by rw [if_neg (show ¬ (false = true) by decide)] at H;exact H
   clear H;have H:=H1;clear H1;have H':=aM H;clear H;have hcz11_0:w3.cell? ⟨gb300,0,none⟩ = some (.int .i64 a0_0):=(blk_cell BK300.out 0).trans rfl;have hcz11_1:w3.cell? ⟨gb300,1,none⟩ = some (.slice A0_1 l0_1.length c0_1):=(blk_cell BK300.out 1).trans rfl;have hfz11_0:=blk_frozen BK300.out 0;have hfz11_1:=blk_frozen BK300.out 1;go_wp2_with (first|((with_reducible refine gate_callee (f:=69) rfl ?_);refine goesL_ (some 9) rfl rfl Try.func69 kR rfl #[.int .i64 a0_0,.int .i64 1,.int .i64 9] rfl mq ?_;(with_reducible refine (impl_within.calls a0_0 1 9 false _ A4.out).mono ?_);rintro e w' ⟨rfl,⟨nd,rfl⟩⟩;refine ⟨_,rfl,?_⟩))
   go_meet
   case rel=>exact ⟨_,(true),qrs,H',⟨by first|omega|exact Nat.le_refl _⟩,⟨by (with_reducible repeat (first|refine blk_drewN ?_ _|refine blk_drew ?_|refine blk_alloc ?_ _));exact BK300.out⟩,⟨by exact bw⟩⟩
 case rest =>
  clear HC2;(try clear p2);(try clear c5);(try clear c6);(try clear c6b0);(try clear c6b1);(try clear c6b2);(try clear c9);(try clear hcz11_0);(try clear hcz11_1);(try clear hcz7_0);(try clear hcz7_1);(try clear hcz9_0);(try clear hcz9_1);(try clear hfz11_0);(try clear hfz11_1);(try clear hfz7_0);(try clear hfz7_1);(try clear hfz9_0);(try clear hfz9_1)
  obtain ⟨kq,x24_1,rfl,HA,HJ1,BK300,HB⟩:=hcut
  cases kq with
  | zero=>exact absurd HA.out (by simp [impl_IsGame.j0])
  | succ kj1 =>
   have H:=HA.out;clear HA;simp only [impl_IsGame.j0] at H;by_cases c12:x24_1 = true
   ·subst c12;have H1:(some false) = some r:=by rw [if_pos rfl] at H;exact H
    clear H;have H:=H1;clear H1;obtain rfl:=Option.some.inj H;go_wp2
    go_ret
    exact ⟨by first|rfl|(simp [errW_none,errW_some] <;> rfl)|(simp [*,errW_none,errW_some] <;> rfl),by exact bw⟩
   ·replace c12:=Bool.eq_false_iff.mpr c12;subst c12;have H1:(impl_IsGame.l0 kj1 l0_1 (l0_1.length:Int) 0 a0_0 l0_1) = some r:=by rw [if_neg (show ¬ (false = true) by decide)] at H;exact H
    clear H;have H:=H1;clear H1;have H':=aM H;clear H;have hcz13_0:wc.cell? ⟨gb300,0,none⟩ = some (.int .i64 a0_0):=(blk_cell BK300.out 0).trans rfl;have hcz13_1:wc.cell? ⟨gb300,1,none⟩ = some (.slice A0_1 l0_1.length c0_1):=(blk_cell BK300.out 1).trans rfl;have hfz13_0:=blk_frozen BK300.out 0;have hfz13_1:=blk_frozen BK300.out 1;go_wp2
    go_loopg [28] kj1 (fun kq v28 w'=>∃ (x28_2:Int),v28 = .int .i64 x28_2 ∧ Aside0 (impl_IsGame.l0 kq l0_1 (l0_1.length:Int) x28_2 a0_0 l0_1 = some r) ∧ Aside0 (kq ≤ kj1) ∧ Aside0 (w'.heap[gb300]? = some (.cells #[.int .i64 a0_0,(.slice A0_1 l0_1.length c0_1)] 28 (0,0))) ∧ Aside0 (Below w.heap.size w w'))
    case atStart=>exact ⟨(0),qrs,H',⟨Nat.le_refl _⟩,⟨by (with_reducible repeat (first|refine blk_drewN ?_ _|refine blk_drew ?_|refine blk_alloc ?_ _));exact BK300.out⟩,⟨by exact bw⟩⟩
    case round =>
     clear H';(try clear c1);(try clear p2);(try clear c5);(try clear c6);(try clear c6b0);(try clear c6b1);(try clear c6b2);(try clear c9);(try clear c12);(try clear hcz11_0);(try clear hcz11_1);(try clear hcz13_0);(try clear hcz13_1);(try clear hcz7_0);(try clear hcz7_1);(try clear hcz9_0);(try clear hcz9_1);(try clear hfz11_0);(try clear hfz11_1);(try clear hfz13_0);(try clear hfz13_1);(try clear hfz7_0);(try clear hfz7_1);(try clear hfz9_0);(try clear hfz9_1);(try clear p2)
     obtain ⟨x28_2,rfl,HA,HK2,BK300,HB⟩:=hrel
     cases gk with
     | zero=>exact absurd HA.out (by simp [impl_IsGame.l0])
     | succ k2 =>
      have H:=HA.out;clear HA;simp only [impl_IsGame.l0] at H;by_cases c14:x28_2 < (l0_1.length:Int)
      ·rw [if_pos c14] at H;have c14b0:decide (x28_2 < (l0_1.length:Int)) = true:=decide_eq_true c14;clear c14;by_cases c15:0 ≤ x28_2
       ·rw [if_pos c15] at H;have c15b0:decide (0 ≤ x28_2) = true:=decide_eq_true c15;clear c15;by_cases c16:x28_2 < (l0_1.length:Int)
        ·rw [if_pos c16] at H;have c16b0:decide (x28_2 < (l0_1.length:Int)) = true:=decide_eq_true c16;clear c16;have HC17:=aM H;clear H;have p303:0 ≤ (x28_2:Int):=of_decide_eq_true ab;have q303:x28_2 < (l0_1.length:Int):=of_decide_eq_true ab;obtain ⟨ad303,A303_0,c303_0,e303,hx303_0,hl303_0,hi303_0⟩:=at_LI HR0_1.out x28_2 p303 q303;cases e303
         replace hx303_0:=(HB.out.cell (World.block_lt_of_cell? w _ hx303_0)).trans hx303_0;have HR303_0:=aM hi303_0;have HC303_0:=aM hl303_0;clear hi303_0 hl303_0;replace p303:=eq_true p303;replace q303:=eq_true q303;go_upto_region 6 with (fail)
         go_cut [45] (fun v45 wc=>∃ (kq:Nat) (x45_16:Bool),v45 = .bool x45_16 ∧ Aside0 (impl_IsGame.j2 kq x28_2 (rd_LI l0_1 x28_2) l0_1 (l0_1.length:Int) x28_2 x45_16 a0_0 l0_1 = some r) ∧ Aside0 (kq ≤ k2) ∧ Aside0 (wc.heap[gb300]? = some (.cells #[.int .i64 a0_0,(.slice (some ad303) l0_1.length c0_1)] 28 (0,0))) ∧ Aside0 (Below w.heap.size w wc))
         case first =>
          have H:=HC17.out;clear HC17;by_cases c18:x28_2 > 0
          ·rw [if_pos c18] at H;have c18b0:decide (0 < x28_2) = true:=decide_eq_true c18;clear c18;(first|rw [c18b0]|(simp only [i64_w,i32_w];rw [c18b0])|skip)
           obtain ⟨ji19,hji19⟩:∃ j_:Int,(wrap64 (x28_2 - 1)) = j_:=⟨_,rfl⟩;replace H:(if 0 ≤ (ji19) then (if (ji19) < (l0_1.length:Int) then ((slices_Compare_int_int.f k2 (rd_LI l0_1 (ji19)) (rd_LI l0_1 x28_2)).bind fun t305=>(impl_IsGame.j2 k2 x28_2 (rd_LI l0_1 x28_2) l0_1 (l0_1.length:Int) x28_2 (decide (t305 ≥ 0)) a0_0 l0_1)) else (none)) else (none)) = some r:=by first|(rw [hji19] at H;exact H)|(simp only [hji19] at H ⊢;exact H)
           have hji19w:(IntKind.i64.wrap (x28_2 - 1)) = ji19:=(i64_w _).trans hji19;by_cases c20:0 ≤ (ji19)
           ·rw [if_pos c20] at H;have c20b0:decide (0 ≤ (ji19)) = true:=decide_eq_true c20;clear c20;by_cases c21:(ji19) < (l0_1.length:Int)
            ·rw [if_pos c21] at H;have c21b0:decide ((ji19) < (l0_1.length:Int)) = true:=decide_eq_true c21;clear c21;replace H:=Option.bind_eq_some_iff.mp H;obtain ⟨t305,A220,H⟩:=H;replace H:(impl_IsGame.j2 k2 x28_2 (rd_LI l0_1 x28_2) l0_1 (l0_1.length:Int) x28_2 (decide (t305 ≥ 0)) a0_0 l0_1) = some r:=H;have A22:=aM A220;clear A220;have H':=aM H;clear H;have hcz23_0:wr.cell? ⟨gb300,0,none⟩ = some (.int .i64 a0_0):=(blk_cell BK300.out 0).trans rfl;have hcz23_1:wr.cell? ⟨gb300,1,none⟩ = some (.slice (some ad303) l0_1.length c0_1):=(blk_cell BK300.out 1).trans rfl;have hfz23_0:=blk_frozen BK300.out 0;have hfz23_1:=blk_frozen BK300.out 1;have p304:0 ≤ ((ji19):Int):=of_decide_eq_true ab;have q304:(ji19) < (l0_1.length:Int):=of_decide_eq_true ab;obtain ⟨ad304,A304_0,c304_0,e304,hx304_0,hl304_0,hi304_0⟩:=at_LI HR0_1.out (ji19) p304 q304;obtain rfl:ad303 = ad304:=(by injection e304);replace hx304_0:=(HB.out.cell (World.block_lt_of_cell? w _ hx304_0)).trans hx304_0;have HR304_0:=aM hi304_0;have HC304_0:=aM hl304_0;clear hi304_0 hl304_0;replace p304:=eq_true p304;replace q304:=eq_true q304;go_wp2_with (first|(go_at_call 128;(with_reducible refine (slices_Compare_int_int.calls k2 _ _ (rd_LI l0_1 (ji19)) _ _ (rd_LI l0_1 x28_2) t305 _ ?side1 ?side2 ?side3 ?side4 A22.out).mono ?_);(case side1=>exact qcs HR304_0.out HB.out);(case side2=>exact HC304_0.out);(case side3=>exact qcs HR303_0.out HB.out);(case side4=>exact HC303_0.out);rintro e w' ⟨rfl,⟨nd,rfl⟩⟩))
             go_meet
             case rel=>exact ⟨_,(decide (t305 ≥ 0)),qrs,H',⟨by have:=HJ1.out;have:=HK2.out;first|omega|exact Nat.le_refl _⟩,⟨by (with_reducible repeat (first|refine blk_drewN ?_ _|refine blk_drew ?_|refine blk_alloc ?_ _));exact BK300.out⟩,⟨by exact bw⟩⟩
            ·rw [if_neg c21] at H;exact absurd H (by simp)
           ·rw [if_neg c20] at H;exact absurd H (by simp)
          ·rw [if_neg c18] at H;have c18b0:decide (0 < x28_2) = false:=decide_eq_false c18;clear c18;(first|rw [c18b0]|(simp only [i64_w,i32_w];rw [c18b0])|skip)
           have H':=aM H;clear H;go_wp2
           go_meet
           case rel=>exact ⟨_,(false),qrs,H',⟨by have:=HJ1.out;have:=HK2.out;first|omega|exact Nat.le_refl _⟩,⟨by (with_reducible repeat (first|refine blk_drewN ?_ _|refine blk_drew ?_|refine blk_alloc ?_ _));exact BK300.out⟩,⟨by exact bw⟩⟩
         case rest =>
          clear HC17;(try clear c1);(try clear c2);(try clear p2);(try clear c3);(try clear p3);(try clear q3);(try clear hx3);(try clear c5);(try clear c6);(try clear c6b0);(try clear c6b1);(try clear c6b2);(try clear p6);(try clear c9);(try clear c12);(try clear c14);(try clear c14b0);(try clear c15);(try clear c15b0);(try clear c16);(try clear c16b0);(try clear c18);(try clear c18b0);(try clear c20);(try clear c20b0);(try clear c21);(try clear c21b0);(try clear hcz11_0);(try clear hcz11_1);(try clear hcz13_0);(try clear hcz13_1);(try clear hcz23_0);(try clear hcz23_1);(try clear hcz7_0);(try clear hcz7_1);(try clear hcz9_0);(try clear hcz9_1);(try clear hfz11_0);(try clear hfz11_1);(try clear hfz13_0);(try clear hfz13_1);(try clear hfz23_0);(try clear hfz23_1);(try clear hfz7_0);(try clear hfz7_1);(try clear hfz9_0);(try clear hfz9_1);(try clear hx303_0);(try clear hx304_0);(try clear p2);(try clear p303);(try clear p304);(try clear q303);(try clear q304)
          obtain ⟨kq,x45_16,rfl,HA,HJ16,BK300,HB⟩:=hcut
          cases kq with
          | zero=>exact absurd HA.out (by simp [impl_IsGame.j2])
          | succ kj16 =>
           have H:=HA.out;clear HA;simp only [impl_IsGame.j2] at H;by_cases c24:x45_16 = true
           ·subst c24;have H1:(some false) = some r:=by rw [if_pos rfl] at H;exact H
            clear H;have H:=H1;clear H1;obtain rfl:=Option.some.inj H;go_wp2
            go_ret
            exact ⟨by first|rfl|(simp [errW_none,errW_some] <;> rfl)|(simp [*,errW_none,errW_some] <;> rfl),by exact bw⟩
           ·replace c24:=Bool.eq_false_iff.mpr c24;subst c24;have H1:(impl_IsGame.l1 kj16 x28_2 (rd_LI l0_1 x28_2) l0_1 (l0_1.length:Int) x28_2 l0_1 (l0_1.length:Int) 0 a0_0 l0_1) = some r:=by rw [if_neg (show ¬ (false = true) by decide)] at H;exact H
            clear H;have H:=H1;clear H1;have H':=aM H;clear H;have hcz25_0:wc.cell? ⟨gb300,0,none⟩ = some (.int .i64 a0_0):=(blk_cell BK300.out 0).trans rfl;have hcz25_1:wc.cell? ⟨gb300,1,none⟩ = some (.slice (some ad303) l0_1.length c0_1):=(blk_cell BK300.out 1).trans rfl;have hfz25_0:=blk_frozen BK300.out 0;have hfz25_1:=blk_frozen BK300.out 1;go_wp2
            go_loopg [49] kj16 (fun kq v49 w'=>∃ (x49_4:Int),v49 = .int .i64 x49_4 ∧ Aside0 (impl_IsGame.l1 kq x28_2 (rd_LI l0_1 x28_2) l0_1 (l0_1.length:Int) x28_2 l0_1 (l0_1.length:Int) x49_4 a0_0 l0_1 = some r) ∧ Aside0 (kq ≤ kj16) ∧ Aside0 (w'.heap[gb300]? = some (.cells #[.int .i64 a0_0,(.slice (some ad303) l0_1.length c0_1)] 28 (0,0))) ∧ Aside0 (Below w.heap.size w w'))
            case atStart=>exact ⟨(0),qrs,H',⟨Nat.le_refl _⟩,⟨by (with_reducible repeat (first|refine blk_drewN ?_ _|refine blk_drew ?_|refine blk_alloc ?_ _));exact BK300.out⟩,⟨by exact bw⟩⟩
            case round =>
             clear H';(try clear c1);(try clear c2);(try clear p2);(try clear c3);(try clear p3);(try clear q3);(try clear hx3);(try clear c5);(try clear c6);(try clear c6b0);(try clear c6b1);(try clear c6b2);(try clear p6);(try clear c9);(try clear c12);(try clear c14);(try clear c14b0);(try clear c15);(try clear c15b0);(try clear c16);(try clear c16b0);(try clear c18);(try clear c18b0);(try clear c20);(try clear c20b0);(try clear c21);(try clear c21b0);(try clear c24);(try clear hcz11_0);(try clear hcz11_1);(try clear hcz13_0);(try clear hcz13_1);(try clear hcz23_0);(try clear hcz23_1);(try clear hcz25_0);(try clear hcz25_1);(try clear hcz7_0);(try clear hcz7_1);(try clear hcz9_0);(try clear hcz9_1);(try clear hfz11_0);(try clear hfz11_1);(try clear hfz13_0);(try clear hfz13_1);(try clear hfz23_0);(try clear hfz23_1);(try clear hfz25_0);(try clear hfz25_1);(try clear hfz7_0);(try clear hfz7_1);(try clear hfz9_0);(try clear hfz9_1);(try clear hx303_0);(try clear hx304_0);(try clear p2);(try clear p3);(try clear p303);(try clear p304);(try clear p6);(try clear q3);(try clear q303);(try clear q304)
             obtain ⟨x49_4,rfl,HA,HK4,BK300,HB⟩:=hrel
             cases gk with
             | zero=>exact absurd HA.out (by simp [impl_IsGame.l1])
             | succ k4 =>
              have H:=HA.out;clear HA;simp only [impl_IsGame.l1] at H;by_cases c26:x49_4 < (l0_1.length:Int)
              ·rw [if_pos c26] at H;have c26b0:decide (x49_4 < (l0_1.length:Int)) = true:=decide_eq_true c26;clear c26;by_cases c27:0 ≤ x49_4
               ·rw [if_pos c27] at H;have c27b0:decide (0 ≤ x49_4) = true:=decide_eq_true c27;clear c27;by_cases c28:x49_4 < (l0_1.length:Int)
                ·rw [if_pos c28] at H;have c28b0:decide (x49_4 < (l0_1.length:Int)) = true:=decide_eq_true c28;clear c28;by_cases c29:x49_4 = x28_2
                 ·rw [if_pos c29] at H;have c29b0:(x49_4 == x28_2) = true:=beq_iff_eq.mpr c29;have c29b1:(x49_4 != x28_2) = false:=bne_eq_false_iff_eq.mpr c29;clear c29;have H':=aM H;clear H;have p306:0 ≤ (x49_4:Int):=of_decide_eq_true ab;have q306:x49_4 < (l0_1.length:Int):=of_decide_eq_true ab;obtain ⟨ad306,A306_0,c306_0,e306,hx306_0,hl306_0,hi306_0⟩:=at_LI HR0_1.out x49_4 p306 q306;obtain rfl:ad303 = ad306:=(by injection e306);replace hx306_0:=(HB.out.cell (World.block_lt_of_cell? w _ hx306_0)).trans hx306_0;have HR306_0:=aM hi306_0;have HC306_0:=aM hl306_0;clear hi306_0 hl306_0;replace p306:=eq_true p306;replace q306:=eq_true q306;go_wp2
                  go_roundg k4
                  case measure=>have:=HJ1.out;have:=HK2.out;have:=HJ16.out;have:=HK4.out;omega
                  case rel=>exact ⟨(wrap64 (x49_4 + 1)),qrs,H',⟨by have:=HJ1.out;have:=HK2.out;have:=HJ16.out;have:=HK4.out;omega⟩,⟨by (with_reducible repeat (first|refine blk_drewN ?_ _|refine blk_drew ?_|refine blk_alloc ?_ _));exact BK300.out⟩,⟨by exact bw⟩⟩
                 ·rw [if_neg c29] at H;have c29b0:(x49_4 == x28_2) = false:=beq_eq_false_iff_ne.mpr c29;have c29b1:(x49_4 != x28_2) = true:=bne_iff_ne.mpr c29;replace H:=Option.bind_eq_some_iff.mp H;obtain ⟨t307,A300,H⟩:=H;replace H:((impl_maskOf.f k4 (rd_LI l0_1 x49_4)).bind fun t308=>((impl_maskOf.f k4 (rd_LI l0_1 x49_4)).bind fun t309=>(if (Go.bits .and .i64 t307 t308) = t309 then (some false) else (impl_IsGame.l1 k4 x28_2 (rd_LI l0_1 x28_2) l0_1 (l0_1.length:Int) x28_2 l0_1 (l0_1.length:Int) (wrap64 (x49_4 + 1)) a0_0 l0_1)))) = some r:=H;have A30:=aM A300;clear A300;replace H:=Option.bind_eq_some_iff.mp H;obtain ⟨t308,A310,H⟩:=H;replace H:((impl_maskOf.f k4 (rd_LI l0_1 x49_4)).bind fun t309=>(if (Go.bits .and .i64 t307 t308) = t309 then (some false) else (impl_IsGame.l1 k4 x28_2 (rd_LI l0_1 x28_2) l0_1 (l0_1.length:Int) x28_2 l0_1 (l0_1.length:Int) (wrap64 (x49_4 + 1)) a0_0 l0_1))) = some r:=H;have A31:=aM A310;clear A310;replace H:=Option.bind_eq_some_iff.mp H;obtain ⟨t309,A320,H⟩:=H;replace H:(if (Go.bits .and .i64 t307 t308) = t309 then (some false) else (impl_IsGame.l1 k4 x28_2 (rd_LI l0_1 x28_2) l0_1 (l0_1.length:Int) x28_2 l0_1 (l0_1.length:Int) (wrap64 (x49_4 + 1)) a0_0 l0_1)) = some r:=H;have A32:=aM A320;clear A320;obtain rfl:t308 = t309:=Option.some.inj (A31.out.symm.trans A32.out);by_cases c33:(Go.bits .and .i64 t307 t308) = t308
                  ·rw [if_pos c33] at H;have c33b0:((Go.bits .and .i64 t307 t308) == t308) = true:=beq_iff_eq.mpr c33;have c33b1:((Go.bits .and .i64 t307 t308) != t308) = false:=bne_eq_false_iff_eq.mpr c33;clear c33;obtain rfl:=Option.some.inj H;have p306:0 ≤ (x49_4:Int):=of_decide_eq_true ab;have q306:x49_4 < (l0_1.length:Int):=of_decide_eq_true ab;obtain ⟨ad306,A306_0,c306_0,e306,hx306_0,hl306_0,hi306_0⟩:=at_LI HR0_1.out x49_4 p306 q306;obtain rfl:ad303 = ad306:=(by injection e306);replace hx306_0:=(HB.out.cell (World.block_lt_of_cell? w _ hx306_0)).trans hx306_0;have HR306_0:=aM hi306_0;have HC306_0:=aM hl306_0;clear hi306_0 hl306_0;replace p306:=eq_true p306;replace q306:=eq_true q306;go_wp2_with (first|(go_at_call 129;(with_reducible refine (impl_maskOf.calls k4 _ _ (rd_LI l0_1 x28_2) t307 _ ?side1 ?side2 A30.out).mono ?_);(case side1=>exact qcs HR303_0.out HB.out);(case side2=>exact HC303_0.out);rintro e w' ⟨rfl,⟨nd,rfl⟩⟩)|(go_at_call 129;(with_reducible refine (impl_maskOf.calls k4 _ _ (rd_LI l0_1 x49_4) t308 _ ?side1 ?side2 A31.out).mono ?_);(case side1=>repeat (first|exact (Kd.C_below HR306_0.out bw)|(with_reducible refine Kd.C_alloc ?_ _)|(with_reducible refine Kd.C_drewN ?_ _)|(with_reducible refine Kd.C_drew ?_)));(case side2=>exact HC306_0.out);rintro e w' ⟨rfl,⟨nd,rfl⟩⟩)|(go_at_call 129;(with_reducible refine (impl_maskOf.calls k4 _ _ (rd_LI l0_1 x49_4) t308 _ ?side1 ?side2 A32.out).mono ?_);(case side1=>repeat (first|exact (Kd.C_below HR306_0.out bw)|(with_reducible refine Kd.C_alloc ?_ _)|(with_reducible refine Kd.C_drewN ?_ _)|(with_reducible refine Kd.C_drew ?_)));(case side2=>exact HC306_0.out);rintro e w' ⟨rfl,⟨nd,rfl⟩⟩))
                   go_ret
                   exact ⟨by first|rfl|(simp [errW_none,errW_some] <;> rfl)|(simp [*,errW_none,errW_some] <;> rfl),by exact bw⟩
                  ·rw [if_neg c33] at H;have c33b0:((Go.bits .and .i64 t307 t308) == t308) = false:=beq_eq_false_iff_ne.mpr c33;have c33b1:((Go.bits .and .i64 t307 t308) != t308) = true:=bne_iff_ne.mpr c33;have H':=aM H;clear H;have p306:0 ≤ (x49_4:Int):=of_decide_eq_true ab;have q306:x49_4 < (l0_1.length:Int):=of_decide_eq_true ab;obtain ⟨ad306,A306_0,c306_0,e306,hx306_0,hl306_0,hi306_0⟩:=at_LI HR0_1.out x49_4 p306 q306;obtain rfl:ad303 = ad306:=(by injection e306);replace hx306_0:=(HB.out.cell (World.block_lt_of_cell? w _ hx306_0)).trans hx306_0;have HR306_0:=aM hi306_0;have HC306_0:=aM hl306_0;clear hi306_0 hl306_0;replace p306:=eq_true p306;replace q306:=eq_true q306;go_wp2_with (first|(go_at_call 129;(with_reducible refine (impl_maskOf.calls k4 _ _ (rd_LI l0_1 x28_2) t307 _ ?side1 ?side2 A30.out).mono ?_);(case side1=>exact qcs HR303_0.out HB.out);(case side2=>exact HC303_0.out);rintro e w' ⟨rfl,⟨nd,rfl⟩⟩)|(go_at_call 129;(with_reducible refine (impl_maskOf.calls k4 _ _ (rd_LI l0_1 x49_4) t308 _ ?side1 ?side2 A31.out).mono ?_);(case side1=>repeat (first|exact (Kd.C_below HR306_0.out bw)|(with_reducible refine Kd.C_alloc ?_ _)|(with_reducible refine Kd.C_drewN ?_ _)|(with_reducible refine Kd.C_drew ?_)));(case side2=>exact HC306_0.out);rintro e w' ⟨rfl,⟨nd,rfl⟩⟩)|(go_at_call 129;(with_reducible refine (impl_maskOf.calls k4 _ _ (rd_LI l0_1 x49_4) t308 _ ?side1 ?side2 A32.out).mono ?_);(case side1=>repeat (first|exact (Kd.C_below HR306_0.out bw)|(with_reducible refine Kd.C_alloc ?_ _)|(with_reducible refine Kd.C_drewN ?_ _)|(with_reducible refine Kd.C_drew ?_)));(case side2=>exact HC306_0.out);rintro e w' ⟨rfl,⟨nd,rfl⟩⟩))
                   go_roundg k4
                   case measure=>have:=HJ1.out;have:=HK2.out;have:=HJ16.out;have:=HK4.out;omega
                   case rel=>exact ⟨(wrap64 (x49_4 + 1)),qrs,H',⟨by have:=HJ1.out;have:=HK2.out;have:=HJ16.out;have:=HK4.out;omega⟩,⟨by (with_reducible repeat (first|refine blk_drewN ?_ _|refine blk_drew ?_|refine blk_alloc ?_ _));exact BK300.out⟩,⟨by exact bw⟩⟩
                ·rw [if_neg c28] at H;exact absurd H (by simp)
               ·rw [if_neg c27] at H;exact absurd H (by simp)
              ·rw [if_neg c26] at H;have c26b0:decide (x49_4 < (l0_1.length:Int)) = false:=decide_eq_false c26;clear c26;have H':=aM H;clear H;go_wp2
               go_roundg k4
               case measure=>have:=HJ1.out;have:=HK2.out;have:=HJ16.out;have:=HK4.out;omega
               case rel=>exact ⟨(wrap64 (x28_2 + 1)),qrs,H',⟨by have:=HJ1.out;have:=HK2.out;have:=HJ16.out;have:=HK4.out;omega⟩,⟨by (with_reducible repeat (first|refine blk_drewN ?_ _|refine blk_drew ?_|refine blk_alloc ?_ _));exact BK300.out⟩,⟨by exact bw⟩⟩
        ·rw [if_neg c16] at H;exact absurd H (by simp)
       ·rw [if_neg c15] at H;exact absurd H (by simp)
      ·rw [if_neg c14] at H;have c14b0:decide (x28_2 < (l0_1.length:Int)) = false:=decide_eq_false c14;clear c14;obtain rfl:=Option.some.inj H;go_wp2
       go_ret
       exact ⟨by first|rfl|(simp [errW_none,errW_some] <;> rfl)|(simp [*,errW_none,errW_some] <;> rfl),by exact bw⟩


/-! ### spec_gmSets: function 119 -/
mutual
def spec_gmSets.j0:Nat → Int → List (List Int) → Bool → Option (Bool)
 | 0,_,_,_=>none
 | k + 1,x0,x1,x18=>if x18 = true then (some false) else (spec_gmSets.l0 k x0 x1 (x1.length:Int) 0)
def spec_gmSets.l0:Nat → Int → List (List Int) → Int → Int → Option (Bool)
 | 0,_,_,_,_=>none
 | k + 1,x0,x19,x20,x21=>if x21 < x20 then (if 0 ≤ x21 then (if x21 < (x19.length:Int) then (if ((rd_LI x19 x21).length:Int) = 0 then (some false) else ((spec_voSet.f k x0 (rd_LI x19 x21)).bind fun t131=>(if t131 = true then (spec_gmSets.l0 k x0 x19 x20 (wrap64 (x21 + 1))) else (some false)))) else (none)) else (none)) else (some true)
end
def spec_gmSets.f (k:Nat) (a0:Int) (l1:List (List Int)) (a2:Int):Option (Bool):=(spec_l1In.f a0 1 9).bind fun t128=>(if t128 = true then ((spec_l1In.f (l1.length:Int) 1 a2).bind fun t129=>(spec_gmSets.j0 k a0 l1 (!t129))) else (spec_gmSets.j0 k a0 l1 true))
theorem spec_gmSets.mono_l:∀ k,(∀ y0 y1 y2,LeO (spec_gmSets.j0 k y0 y1 y2) (spec_gmSets.j0 (k + 1) y0 y1 y2)) ∧ (∀ y0 y1 y2 y3,LeO (spec_gmSets.l0 k y0 y1 y2 y3) (spec_gmSets.l0 (k + 1) y0 y1 y2 y3))
 | 0=>⟨fun _ _ _ r h=>by simp [spec_gmSets.j0] at h,fun _ _ _ _ r h=>by simp [spec_gmSets.l0] at h⟩
 | k + 1=>by
  obtain ⟨ih0,ih1⟩:=spec_gmSets.mono_l k;refine ⟨?_,?_⟩
  ·intro y0 y1 y2;unfold spec_gmSets.j0
   repeat' with_reducible first|exact ih0 _ _ _|exact ih1 _ _ _ _|exact spec_voSet.mono _ _ _|exact LeO.refl _|exact LeO.none _|refine LeO.ite ?_ ?_|refine LeO.bind ?_ (fun _=>?_)
  ·intro y0 y1 y2 y3;unfold spec_gmSets.l0
   repeat' with_reducible first|exact ih0 _ _ _|exact ih1 _ _ _ _|exact spec_voSet.mono _ _ _|exact LeO.refl _|exact LeO.none _|refine LeO.ite ?_ ?_|refine LeO.bind ?_ (fun _=>?_)
theorem spec_gmSets.mono:∀ a0 a1 a2 k,LeO (spec_gmSets.f k a0 a1 a2) (spec_gmSets.f (k + 1) a0 a1 a2):=by
 intro a0 a1 a2 k;obtain ⟨ih0,ih1⟩:=spec_gmSets.mono_l k;unfold spec_gmSets.f
 repeat' with_reducible first|exact ih0 _ _ _|exact ih1 _ _ _ _|exact spec_voSet.mono _ _ _|exact LeO.refl _|exact LeO.none _|refine LeO.ite ?_ ?_|refine LeO.bind ?_ (fun _=>?_)
set_option maxHeartbeats 8000000 in
set_option maxRecDepth 100000 in
theorem spec_gmSets.calls (k:Nat) (a0:Int) (A1:Option Addr) (c1:Nat) (l1:List (List Int)) (a2:Int) (r:Bool) (w:World) (hr1:Kd.C (Kd.slice 3 (Kd.int .i64)) w A1 l1.length l1) (hc1:l1.length ≤ c1) (h:spec_gmSets.f k a0 l1 a2 = some r) :
  Calls Try.prog 119 #[.int .i64 a0,.slice A1 l1.length c1,.int .i64 a2] w fun e w'=>e = .returned (.bool r) ∧ Drawn0 w w':=by
 have HR1:=aM hr1;have HC1:=aM hc1;clear hr1 hc1;have H:((spec_l1In.f a0 1 9).bind fun t128=>(if t128 = true then ((spec_l1In.f (l1.length:Int) 1 a2).bind fun t129=>(spec_gmSets.j0 k a0 l1 (!t129))) else (spec_gmSets.j0 k a0 l1 true))) = some r:=h;clear h;have HC4:=aM H;clear H;go_enter Try.func119,Try.ntmps119;go_upto_region 1 with (fail)
 go_cut [18] (fun v18 wc=>∃ (kq:Nat) (x18_3:Bool),v18 = .bool x18_3 ∧ Aside0 (spec_gmSets.j0 kq a0 l1 x18_3 = some r) ∧ Aside0 (kq ≤ k) ∧ Drawn0 w wc)
 case first =>
  have H:=HC4.out;clear HC4;replace H:=Option.bind_eq_some_iff.mp H;obtain ⟨t128,A50,H⟩:=H;replace H:(if t128 = true then ((spec_l1In.f (l1.length:Int) 1 a2).bind fun t129=>(spec_gmSets.j0 k a0 l1 (!t129))) else (spec_gmSets.j0 k a0 l1 true)) = some r:=H;have A5:=aM A50;clear A50;by_cases c6:t128 = true
  ·subst c6;have H1:((spec_l1In.f (l1.length:Int) 1 a2).bind fun t129=>(spec_gmSets.j0 k a0 l1 (!t129))) = some r:=by rw [if_pos rfl] at H;exact H
   clear H;have H:=H1;clear H1;replace H:=Option.bind_eq_some_iff.mp H;obtain ⟨t129,A70,H⟩:=H;replace H:(spec_gmSets.j0 k a0 l1 (!t129)) = some r:=H;have A7:=aM A70;clear A70;have H':=aM H;clear H;go_wp2_with (first|((with_reducible refine gate_callee (f:=54) rfl ?_);refine goesL_ (some 10) rfl rfl Try.func54 kR rfl #[.int .i64 a0,.int .i64 1,.int .i64 9] rfl mq ?_;(with_reducible refine (spec_l1In.calls a0 1 9 true _ A5.out).mono ?_);rintro e w' ⟨rfl,⟨nd,rfl⟩⟩;refine ⟨_,rfl,?_⟩)|(go_at_call 54;(with_reducible refine (spec_l1In.calls (l1.length:Int) 1 a2 t129 _ A7.out).mono ?_);rintro e w' ⟨rfl,⟨nd,rfl⟩⟩))
   go_meet
   case rel=>exact ⟨_,(!t129),qrs,H',⟨by first|omega|exact Nat.le_refl _⟩,by repeat (first|exact Drawn0.refl _|apply Drawn0.step)⟩
  ·replace c6:=Bool.eq_false_iff.mpr c6;subst c6;have H1:(spec_gmSets.j0 k a0 l1 true) = some r:=by rw [if_neg (show ¬ (false = true) by decide)] at H;exact H
   clear H;have H:=H1;clear H1;have H':=aM H;clear H;go_wp2_with (first|((with_reducible refine gate_callee (f:=54) rfl ?_);refine goesL_ (some 10) rfl rfl Try.func54 kR rfl #[.int .i64 a0,.int .i64 1,.int .i64 9] rfl mq ?_;(with_reducible refine (spec_l1In.calls a0 1 9 false _ A5.out).mono ?_);rintro e w' ⟨rfl,⟨nd,rfl⟩⟩;refine ⟨_,rfl,?_⟩))
   go_meet
   case rel=>exact ⟨_,(true),qrs,H',⟨by first|omega|exact Nat.le_refl _⟩,by repeat (first|exact Drawn0.refl _|apply Drawn0.step)⟩
 case rest =>
  clear HC4;(try clear c1);(try clear p2);(try clear c5);(try clear c6)
  obtain ⟨kq,x18_3,rfl,HA,HJ3,⟨mc3,rfl⟩⟩:=hcut
  cases kq with
  | zero=>exact absurd HA.out (by simp [spec_gmSets.j0])
  | succ kj3 =>
   have H:=HA.out;clear HA;simp only [spec_gmSets.j0] at H;by_cases c8:x18_3 = true
   ·subst c8;have H1:(some false) = some r:=by rw [if_pos rfl] at H;exact H
    clear H;have H:=H1;clear H1;obtain rfl:=Option.some.inj H;go_wp2
    go_ret
    exact ⟨by first|rfl|(simp;done)|(simp [*];done),by repeat (first|exact Drawn0.refl _|apply Drawn0.step)⟩
   ·replace c8:=Bool.eq_false_iff.mpr c8;subst c8;have H1:(spec_gmSets.l0 kj3 a0 l1 (l1.length:Int) 0) = some r:=by rw [if_neg (show ¬ (false = true) by decide)] at H;exact H
    clear H;have H:=H1;clear H1;have H':=aM H;clear H;go_wp2
    go_loopg [21] kj3 (fun kq v21 w'=>∃ (x21_2:Int),v21 = .int .i64 x21_2 ∧ Aside0 (spec_gmSets.l0 kq a0 l1 (l1.length:Int) x21_2 = some r) ∧ Aside0 (kq ≤ kj3) ∧ Drawn0 w w')
    case atStart=>exact ⟨(0),qrs,H',⟨Nat.le_refl _⟩,by repeat (first|exact Drawn0.refl _|apply Drawn0.step)⟩
    case round =>
     clear H';(try clear c1);(try clear p2);(try clear c3);(try clear c5);(try clear c6);(try clear c8);(try clear p2)
     obtain ⟨x21_2,rfl,HA,HK2,⟨m2,rfl⟩⟩:=hrel
     cases gk with
     | zero=>exact absurd HA.out (by simp [spec_gmSets.l0])
     | succ k2 =>
      have H:=HA.out;clear HA;simp only [spec_gmSets.l0] at H;by_cases c9:x21_2 < (l1.length:Int)
      ·rw [if_pos c9] at H;have c9b0:decide (x21_2 < (l1.length:Int)) = true:=decide_eq_true c9;clear c9;by_cases c10:0 ≤ x21_2
       ·rw [if_pos c10] at H;have c10b0:decide (0 ≤ x21_2) = true:=decide_eq_true c10;clear c10;by_cases c11:x21_2 < (l1.length:Int)
        ·rw [if_pos c11] at H;have c11b0:decide (x21_2 < (l1.length:Int)) = true:=decide_eq_true c11;clear c11;by_cases c12:((rd_LI l1 x21_2).length:Int) = 0
         ·rw [if_pos c12] at H;have c12b0:(((rd_LI l1 x21_2).length:Int) == 0) = true:=beq_iff_eq.mpr c12;have c12b1:(((rd_LI l1 x21_2).length:Int) != 0) = false:=bne_eq_false_iff_eq.mpr c12;clear c12;obtain rfl:=Option.some.inj H;have p130:0 ≤ (x21_2:Int):=of_decide_eq_true ab;have q130:x21_2 < (l1.length:Int):=of_decide_eq_true ab;obtain ⟨ad130,A130_0,c130_0,e130,hx130_0,hl130_0,hi130_0⟩:=at_LI HR1.out x21_2 p130 q130;cases e130
          have HR130_0:=aM hi130_0;have HC130_0:=aM hl130_0;clear hi130_0 hl130_0;replace p130:=eq_true p130;replace q130:=eq_true q130;go_wp2
          go_ret
          exact ⟨by first|rfl|(simp;done)|(simp [*];done),by repeat (first|exact Drawn0.refl _|apply Drawn0.step)⟩
         ·rw [if_neg c12] at H;have c12b0:(((rd_LI l1 x21_2).length:Int) == 0) = false:=beq_eq_false_iff_ne.mpr c12;have c12b1:(((rd_LI l1 x21_2).length:Int) != 0) = true:=bne_iff_ne.mpr c12;have c12b2:¬ ((rd_LI l1 x21_2) = []):=fun h_=>c12 (by rw [h_];rfl)
          replace H:=Option.bind_eq_some_iff.mp H;obtain ⟨t131,A130,H⟩:=H;replace H:(if t131 = true then (spec_gmSets.l0 k2 a0 l1 (l1.length:Int) (wrap64 (x21_2 + 1))) else (some false)) = some r:=H;have A13:=aM A130;clear A130;by_cases c14:t131 = true
          ·subst c14;have H1:(spec_gmSets.l0 k2 a0 l1 (l1.length:Int) (wrap64 (x21_2 + 1))) = some r:=by rw [if_pos rfl] at H;exact H
           clear H;have H:=H1;clear H1;have H':=aM H;clear H;have p130:0 ≤ (x21_2:Int):=of_decide_eq_true ab;have q130:x21_2 < (l1.length:Int):=of_decide_eq_true ab;obtain ⟨ad130,A130_0,c130_0,e130,hx130_0,hl130_0,hi130_0⟩:=at_LI HR1.out x21_2 p130 q130;cases e130
           have HR130_0:=aM hi130_0;have HC130_0:=aM hl130_0;clear hi130_0 hl130_0;replace p130:=eq_true p130;replace q130:=eq_true q130;go_wp2_with (first|(go_at_call 151;(with_reducible refine (spec_voSet.calls k2 a0 _ _ (rd_LI l1 x21_2) true _ ?side1 ?side2 A13.out).mono ?_);(case side1=>repeat (first|exact HR130_0.out|(with_reducible refine Kd.C_alloc ?_ _)|(with_reducible refine Kd.C_drewN ?_ _)|(with_reducible refine Kd.C_drew ?_)));(case side2=>exact HC130_0.out);rintro e w' ⟨rfl,⟨nd,rfl⟩⟩))
           go_roundg k2
           case measure=>have:=HJ3.out;have:=HK2.out;omega
           case rel=>exact ⟨(wrap64 (x21_2 + 1)),qrs,H',⟨by have:=HJ3.out;have:=HK2.out;omega⟩,by repeat (first|exact Drawn0.refl _|apply Drawn0.step)⟩
          ·replace c14:=Bool.eq_false_iff.mpr c14;subst c14;have H1:(some false) = some r:=by rw [if_neg (show ¬ (false = true) by decide)] at H;exact H
           clear H;have H:=H1;clear H1;obtain rfl:=Option.some.inj H;have p130:0 ≤ (x21_2:Int):=of_decide_eq_true ab;have q130:x21_2 < (l1.length:Int):=of_decide_eq_true ab;obtain ⟨ad130,A130_0,c130_0,e130,hx130_0,hl130_0,hi130_0⟩:=at_LI HR1.out x21_2 p130 q130;cases e130
           have HR130_0:=aM hi130_0;have HC130_0:=aM hl130_0;clear hi130_0 hl130_0;replace p130:=eq_true p130;replace q130:=eq_true q130;go_wp2_with (first|(go_at_call 151;(with_reducible refine (spec_voSet.calls k2 a0 _ _ (rd_LI l1 x21_2) false _ ?side1 ?side2 A13.out).mono ?_);(case side1=>repeat (first|exact HR130_0.out|(with_reducible refine Kd.C_alloc ?_ _)|(with_reducible refine Kd.C_drewN ?_ _)|(with_reducible refine Kd.C_drew ?_)));(case side2=>exact HC130_0.out);rintro e w' ⟨rfl,⟨nd,rfl⟩⟩))
           go_ret
           exact ⟨by first|rfl|(simp;done)|(simp [*];done),by repeat (first|exact Drawn0.refl _|apply Drawn0.step)⟩
        ·rw [if_neg c11] at H;exact absurd H (by simp)
       ·rw [if_neg c10] at H;exact absurd H (by simp)
      ·rw [if_neg c9] at H;have c9b0:decide (x21_2 < (l1.length:Int)) = false:=decide_eq_false c9;clear c9;obtain rfl:=Option.some.inj H;go_wp2
       go_ret
       exact ⟨by first|rfl|(simp;done)|(simp [*];done),by repeat (first|exact Drawn0.refl _|apply Drawn0.step)⟩

end Go.Proofs.Ytokelcedamegbaa.P
