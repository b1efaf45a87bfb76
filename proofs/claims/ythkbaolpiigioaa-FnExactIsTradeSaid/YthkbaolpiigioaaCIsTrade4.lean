/- Part 4 of the texts below the law FnExactIsTrade. Printed by this session's driver over the kit's printer, but for the hand contracts and the plain laws. -/
import Derived.Test.YthkbaolpiigioaaCIsTrade1
import Derived.Test.YthkbaolpiigioaaCIsTrade3
set_option linter.unusedVariables false
set_option linter.unusedSimpArgs false
namespace Go.Proofs.Ythkbaolpiigioaa.P
open Go.RowKit Go.Proofs.YthkbaolpiigioaaW.PrintWords Go.Proofs.YthkbaolpiigioaaW.PrintLast Go.Proofs.YthkbaolpiigioaaW.PrintMore
attribute [local go_sem] max2_int min2_int max_two min_two max_three min_three max_four min_four   -- for this text's walks alone
set_option linter.unusedVariables false
set_option linter.unusedSimpArgs false

/-! ### impl_votes_isWorth: function 106 -/
def impl_votes_isWorth.l0:Nat → Int → Int → Int → Int → Int → List Bool → Option (Bool)
 | 0,_,_,_,_,_,_=>none
 | k + 1,x1,x2,x10,x11,x812000,x812001=>if x11 < x10 then ((impl_has.f x11 x1).bind fun t812=>(if t812 = true then (impl_votes_isWorth.l0 k x1 x2 x10 (wrap64 (x11 + 1)) x812000 x812001) else ((impl_has.f x11 x2).bind fun t813=>(if t813 = true then (impl_votes_isWorth.l0 k x1 x2 x10 (wrap64 (x11 + 1)) x812000 x812001) else (if 0 ≤ x2 then (if 0 ≤ (Go.bits .or .i64 x11 (shl .i64 1 x2)) then (if (Go.bits .or .i64 x11 (shl .i64 1 x2)) < (x812001.length:Int) then (if rdOf false x812001 (Go.bits .or .i64 x11 (shl .i64 1 x2)) = true then (if 0 ≤ x1 then (if 0 ≤ (Go.bits .or .i64 x11 (shl .i64 1 x1)) then (if (Go.bits .or .i64 x11 (shl .i64 1 x1)) < (x812001.length:Int) then (if (rdOf false x812001 (Go.bits .or .i64 x11 (shl .i64 1 x1)) = true) then (impl_votes_isWorth.l0 k x1 x2 x10 (wrap64 (x11 + 1)) x812000 x812001) else (some false)) else (none)) else (none)) else (none)) else (impl_votes_isWorth.l0 k x1 x2 x10 (wrap64 (x11 + 1)) x812000 x812001)) else (none)) else (none)) else (none)))))) else (some true)
def impl_votes_isWorth.f (k:Nat) (a0_0:Int) (l0_1:List Bool) (a1:Int) (a2:Int):Option (Bool):=impl_votes_isWorth.l0 k a1 a2 (l0_1.length:Int) 0 a0_0 l0_1
theorem impl_votes_isWorth.mono_l:∀ k,(∀ y0 y1 y2 y3 y4 y5,LeO (impl_votes_isWorth.l0 k y0 y1 y2 y3 y4 y5) (impl_votes_isWorth.l0 (k + 1) y0 y1 y2 y3 y4 y5))
 | 0=>fun _ _ _ _ _ _ r h=>by simp [impl_votes_isWorth.l0] at h
 | k + 1=>by
  have ih0:=impl_votes_isWorth.mono_l k
  ·intro y0 y1 y2 y3 y4 y5;unfold impl_votes_isWorth.l0
   repeat' with_reducible first|exact ih0 _ _ _ _ _ _|exact LeO.refl _|exact LeO.none _|refine LeO.ite ?_ ?_|refine LeO.bind ?_ (fun _=>?_)
theorem impl_votes_isWorth.mono:∀ a0 a1 a2 a3 k,LeO (impl_votes_isWorth.f k a0 a1 a2 a3) (impl_votes_isWorth.f (k + 1) a0 a1 a2 a3):=by
 intro a0 a1 a2 a3 k;have ih0:=impl_votes_isWorth.mono_l k;unfold impl_votes_isWorth.f
 repeat' with_reducible first|exact ih0 _ _ _ _ _ _|exact LeO.refl _|exact LeO.none _|refine LeO.ite ?_ ?_|refine LeO.bind ?_ (fun _=>?_)
def impl_votes_isWorth.T4:Bool × List (List Nat × List Nat):=(true,[([],[]),([],[]),([0,1],[0,1]),([2],[2]),([3,2],[3]),([4],[4]),([4],[4]),([5,6,4,4],[4,5,6]),([7,4],[4,7]),([4,8],[4,8]),([9,7],[9]),([10],[10]),([11,10],[10,11]),([10],[10]),([10],[10]),([14,10],[10,14]),([13,15,10],[10,13,15]),([12,16,10],[10,12,16]),([17,10],[10,17]),([10,18],[10,18]),([19,10],[19]),([20],[20]),([21,20],[20,21]),([20],[20]),([20],[20]),([24,20],[20,24]),([23,25,20],[20,23,25]),([22,26,20],[20,22,26]),([27,20],[20,27]),([28,20],[20,28]),([20,29],[20,29])])
def impl_votes_isWorth.B4:List Nat:=[0,0,3,7,15,31,31,127,255,511,1023,2047,4095,2047,2047,18431,59391,131071,262143,524287,1048575,2097151,4194303,2097151,2097151,18874367,60817407,134217727,268435455,536870911,1073741823]
theorem impl_votes_isWorth.tab4:rtab .any (opsOf Try.f106 4) = impl_votes_isWorth.T4:=by kernel_rfl
theorem impl_votes_isWorth.bits4:waitsOk impl_votes_isWorth.T4.2 impl_votes_isWorth.B4 = true:=by kernel_rfl
set_option maxHeartbeats 8000000 in
set_option maxRecDepth 100000 in
theorem impl_votes_isWorth.calls (k:Nat) (a0_0:Int) (A0_1:Option Addr) (c0_1:Nat) (l0_1:List Bool) (a1:Int) (a2:Int) (r:Bool) (w:World) (hr0_1:Kd.C Kd.bool w A0_1 l0_1.length l0_1) (hc0_1:l0_1.length ≤ c0_1) (h:impl_votes_isWorth.f k a0_0 l0_1 a1 a2 = some r) :
  Calls Try.prog 106 #[.agg #[.int .i64 a0_0,.slice A0_1 l0_1.length c0_1],.int .i64 a1,.int .i64 a2] w fun e w'=>e = .returned (.bool r) ∧ Below w.heap.size w w':=by
 have hu94:=Try.underlying94;have HR0_1:=aM hr0_1;have HC0_1:=aM hc0_1;clear hr0_1 hc0_1;have HB:=aM (Below.refl w.heap.size w);have H:(impl_votes_isWorth.l0 k a1 a2 (l0_1.length:Int) 0 a0_0 l0_1) = some r:=h;clear h;have H':=aM H;clear H;go_enter Try.func106,Try.ntmps106;go_wp2_with (first|((with_reducible refine gate_dst (N:=3) rfl ?_);refine box_event ?hg (N:=3) ?hd (cs:=#[.int .i64 a0_0,.slice A0_1 l0_1.length c0_1]) (t:=94) ?hr ?_;(case hd=>rfl);(case hg=>rfl);(case hr=>first|(go_simp;done)|(go_simp;rfl));intro gb811 hg w4 hbox hb;have n0_:=aM (below_step bw hb);have n1_:=aM (hbox);have n2_:=aM ((by rw [hg];exact (below_size bw):w.heap.size ≤ gb811));have n3_:=aM ((by rw [hg];exact (below_size bw):w.heap.size ≤ gb811));clear HB;have HB:=n0_;have BK811:=n1_;have GW811:=n2_;have GE811:=n3_;clear n0_ n1_ n2_ n3_;clear hb hbox hg;have hcz5_0:w4.cell? ⟨gb811,0,none⟩ = some (.int .i64 a0_0):=(blk_cell BK811.out 0).trans rfl;have hcz5_1:w4.cell? ⟨gb811,1,none⟩ = some (.slice A0_1 l0_1.length c0_1):=(blk_cell BK811.out 1).trans rfl;have hfz5_0:=blk_frozen BK811.out 0;have hfz5_1:=blk_frozen BK811.out 1))
 go_loopg [11] k (fun kq v11 w'=>∃ (x11_1:Int),v11 = .int .i64 x11_1 ∧ Aside0 (impl_votes_isWorth.l0 kq a1 a2 (l0_1.length:Int) x11_1 a0_0 l0_1 = some r) ∧ Aside0 (kq ≤ k) ∧ Aside0 (w'.heap[gb811]? = some (.cells #[.int .i64 a0_0,(.slice A0_1 l0_1.length c0_1)] 94 (0,0))) ∧ Aside0 (Below w.heap.size w w'))
 case atStart=>exact ⟨(0),qrs,H',⟨Nat.le_refl _⟩,⟨by (with_reducible repeat (first|refine blk_drewN ?_ _|refine blk_drew ?_|refine blk_alloc ?_ _));exact BK811.out⟩,⟨by exact bw⟩⟩
 case round =>
  clear H';(try clear c1);(try clear p2);(try clear hcz5_0);(try clear hcz5_1);(try clear hfz5_0);(try clear hfz5_1)
  obtain ⟨x11_1,rfl,HA,HK1,BK811,HB⟩:=hrel
  cases gk with
  | zero=>exact absurd HA.out (by simp [impl_votes_isWorth.l0])
  | succ k1 =>
   have H:=HA.out;clear HA;simp only [impl_votes_isWorth.l0] at H;by_cases c6:x11_1 < (l0_1.length:Int)
   ·rw [if_pos c6] at H;have c6b0:decide (x11_1 < (l0_1.length:Int)) = true:=decide_eq_true c6;clear c6;replace H:=Option.bind_eq_some_iff.mp H;obtain ⟨t812,A70,H⟩:=H;replace H:(if t812 = true then (impl_votes_isWorth.l0 k1 a1 a2 (l0_1.length:Int) (wrap64 (x11_1 + 1)) a0_0 l0_1) else ((impl_has.f x11_1 a2).bind fun t813=>(if t813 = true then (impl_votes_isWorth.l0 k1 a1 a2 (l0_1.length:Int) (wrap64 (x11_1 + 1)) a0_0 l0_1) else (if 0 ≤ a2 then (if 0 ≤ (Go.bits .or .i64 x11_1 (shl .i64 1 a2)) then (if (Go.bits .or .i64 x11_1 (shl .i64 1 a2)) < (l0_1.length:Int) then (if rdOf false l0_1 (Go.bits .or .i64 x11_1 (shl .i64 1 a2)) = true then (if 0 ≤ a1 then (if 0 ≤ (Go.bits .or .i64 x11_1 (shl .i64 1 a1)) then (if (Go.bits .or .i64 x11_1 (shl .i64 1 a1)) < (l0_1.length:Int) then (if (rdOf false l0_1 (Go.bits .or .i64 x11_1 (shl .i64 1 a1)) = true) then (impl_votes_isWorth.l0 k1 a1 a2 (l0_1.length:Int) (wrap64 (x11_1 + 1)) a0_0 l0_1) else (some false)) else (none)) else (none)) else (none)) else (impl_votes_isWorth.l0 k1 a1 a2 (l0_1.length:Int) (wrap64 (x11_1 + 1)) a0_0 l0_1)) else (none)) else (none)) else (none))))) = some r:=H;have A7:=aM A70;clear A70;by_cases c8:t812 = true
    ·subst c8;have H1:(impl_votes_isWorth.l0 k1 a1 a2 (l0_1.length:Int) (wrap64 (x11_1 + 1)) a0_0 l0_1) = some r:=by rw [if_pos rfl] at H;exact H
     clear H;have H:=H1;clear H1;have H':=aM H;clear H
     try go_wp2
     have n0_:=aM (blk_drew BK811.out);have n1_:=aM (below_drew1 HB.out);clear BK811;clear HB;have BK811:=n0_;have HB:=n1_;clear n0_ n1_;refine start_ (n:=31) (S:=fun w'=>True) (ds:=[]) (mA 31 0) kR rfl rfl trivial (fun hHeld=>?_);refine with_tabW impl_votes_isWorth.tab4 impl_votes_isWorth.bits4 (fun HT_ HW_=>?_)
     generalize wr.drew = w9 at BK811 HB hHeld ⊢
     refine pure_ (i:=0) (N:=some 14) (v:=?_) (a':=?_) (mA 31 1) rfl rfl (any_of HT_.out kR) (fun _ _ _ h=>h) (Or.inl ⟨by rfl,?_⟩) ?_ ?_;rotate_left
     ·intro w';go_simp
      with_reducible rfl
     rotate_left
     ·simp only [Act.put,sA,sZ,sS,i64_w,i32_w];rfl
     refine pure_ (i:=1) (N:=some 15) (v:=?_) (a':=?_) (mA 31 3) rfl rfl (any_of HT_.out kR) (fun _ _ _ h=>h) (Or.inl ⟨by rfl,?_⟩) ?_ ?_;rotate_left
     ·intro w';go_simp
      with_reducible rfl
     rotate_left
     ·simp only [Act.put,sA,sZ,sS,i64_w,i32_w];rfl
     refine one_ (i:=2) (N:=some 16) (mA 31 7) rfl rfl (one_of HT_.out kR) (by decide) (fun K hK=>?_);refine goes_ Try.func172 kR rfl #[.int .i64 x11_1,.int .i64 a1] (by rfl) rfl rfl mq ?_
     with_reducible refine (impl_has.calls x11_1 a1 true _ A7.out).mono ?_
     rintro e w' ⟨rfl,⟨nd,rfl⟩⟩
     refine ⟨_,rfl,?_⟩;refine hK.out _ _ trivial (fun hHeld=>?_);clear hK K;refine norm_ (a':=?_) ?_ ?_;rotate_left
     ·show Act.put _ (some 16) _ = _;simp only [Act.put,sA,sZ,sS,i64_w,i32_w];rfl
     refine pure_ (i:=3) (N:=some 17) (v:=?_) (a':=?_) (mA 31 15) rfl rfl (any_of HT_.out kR) (fun _ _ _ h=>h) (Or.inl ⟨by rfl,?_⟩) ?_ ?_;rotate_left
     ·intro w';go_simp
      with_reducible rfl
     rotate_left
     ·simp only [Act.put,sA,sZ,sS,i64_w,i32_w];rfl
     refine pure_ (i:=4) (N:=some 18) (v:=?_) (a':=?_) (mA 31 31) rfl rfl (any_of HT_.out kR) (fun _ _ _ h=>h) (Or.inl ⟨by rfl,?_⟩) ?_ ?_;rotate_left
     ·intro w';go_simp
      with_reducible rfl
     rotate_left
     ·simp only [Act.put,sA,sZ,sS,i64_w,i32_w];rfl
     refine pure_ (i:=5) (N:=some 19) (v:=undef) (a':=?_) (mA 31 63) rfl rfl (any_of HT_.out kR) (fun _ _ _ h=>h) (Or.inr ⟨by rfl,rfl⟩) ?_ ?_;rotate_left
     ·simp only [Act.put,sA,sZ,sS,i64_w,i32_w];rfl
     refine pure_ (i:=6) (N:=some 20) (v:=undef) (a':=?_) (mA 31 127) rfl rfl (any_of HT_.out kR) (fun _ _ _ h=>h) (Or.inr ⟨by rfl,rfl⟩) ?_ ?_;rotate_left
     ·simp only [Act.put,sA,sZ,sS,i64_w,i32_w];rfl
     refine pure_ (i:=7) (N:=some 21) (v:=undef) (a':=?_) (mA 31 255) rfl rfl (any_of HT_.out kR) (fun _ _ _ h=>h) (Or.inr ⟨by rfl,rfl⟩) ?_ ?_;rotate_left
     ·simp only [Act.put,sA,sZ,sS,i64_w,i32_w];rfl
     refine pure_ (i:=8) (N:=some 22) (v:=undef) (a':=?_) (mA 31 511) rfl rfl (any_of HT_.out kR) (fun _ _ _ h=>h) (Or.inr ⟨by rfl,rfl⟩) ?_ ?_;rotate_left
     ·simp only [Act.put,sA,sZ,sS,i64_w,i32_w];rfl
     refine pure_ (i:=9) (N:=some 23) (v:=?_) (a':=?_) (mA 31 1023) rfl rfl (any_of HT_.out kR) (fun _ _ _ h=>h) (Or.inl ⟨by rfl,?_⟩) ?_ ?_;rotate_left
     ·intro w';go_simp
      with_reducible rfl
     rotate_left
     ·simp only [Act.put,sA,sZ,sS,i64_w,i32_w];rfl
     refine pure_ (i:=10) (N:=some 24) (v:=?_) (a':=?_) (mA 31 2047) rfl rfl (any_of HT_.out kR) (fun _ _ _ h=>h) (Or.inl ⟨by rfl,?_⟩) ?_ ?_;rotate_left
     ·intro w';go_simp
      with_reducible rfl
     rotate_left
     ·simp only [Act.put,sA,sZ,sS,i64_w,i32_w];rfl
     refine pure_ (i:=11) (N:=some 25) (v:=undef) (a':=?_) (mA 31 4095) rfl rfl (any_of HT_.out kR) (fun _ _ _ h=>h) (Or.inr ⟨by rfl,rfl⟩) ?_ ?_;rotate_left
     ·simp only [Act.put,sA,sZ,sS,i64_w,i32_w];rfl
     refine pure_ (i:=12) (N:=some 26) (v:=undef) (a':=?_) (mA 31 8191) rfl rfl (any_of HT_.out kR) (fun _ _ _ h=>h) (Or.inr ⟨by rfl,rfl⟩) ?_ ?_;rotate_left
     ·simp only [Act.put,sA,sZ,sS,i64_w,i32_w];rfl
     refine pure_ (i:=13) (N:=some 27) (v:=undef) (a':=?_) (mA 31 16383) rfl rfl (any_of HT_.out kR) (fun _ _ _ h=>h) (Or.inr ⟨by rfl,rfl⟩) ?_ ?_;rotate_left
     ·simp only [Act.put,sA,sZ,sS,i64_w,i32_w];rfl
     refine pure_ (i:=14) (N:=some 28) (v:=undef) (a':=?_) (mA 31 32767) rfl rfl (any_of HT_.out kR) (fun _ _ _ h=>h) (Or.inr ⟨by rfl,rfl⟩) ?_ ?_;rotate_left
     ·simp only [Act.put,sA,sZ,sS,i64_w,i32_w];rfl
     refine pure_ (i:=15) (N:=some 29) (v:=undef) (a':=?_) (mA 31 65535) rfl rfl (any_of HT_.out kR) (fun _ _ _ h=>h) (Or.inr ⟨by rfl,rfl⟩) ?_ ?_;rotate_left
     ·simp only [Act.put,sA,sZ,sS,i64_w,i32_w];rfl
     refine pure_ (i:=16) (N:=some 30) (v:=undef) (a':=?_) (mA 31 131071) rfl rfl (any_of HT_.out kR) (fun _ _ _ h=>h) (Or.inr ⟨by rfl,rfl⟩) ?_ ?_;rotate_left
     ·simp only [Act.put,sA,sZ,sS,i64_w,i32_w];rfl
     refine pure_ (i:=17) (N:=some 31) (v:=undef) (a':=?_) (mA 31 262143) rfl rfl (any_of HT_.out kR) (fun _ _ _ h=>h) (Or.inr ⟨by rfl,rfl⟩) ?_ ?_;rotate_left
     ·simp only [Act.put,sA,sZ,sS,i64_w,i32_w];rfl
     refine pure_ (i:=18) (N:=some 32) (v:=undef) (a':=?_) (mA 31 524287) rfl rfl (any_of HT_.out kR) (fun _ _ _ h=>h) (Or.inr ⟨by rfl,rfl⟩) ?_ ?_;rotate_left
     ·simp only [Act.put,sA,sZ,sS,i64_w,i32_w];rfl
     refine pure_ (i:=19) (N:=some 33) (v:=?_) (a':=?_) (mA 31 1048575) rfl rfl (any_of HT_.out kR) (fun _ _ _ h=>h) (Or.inl ⟨by rfl,?_⟩) ?_ ?_;rotate_left
     ·intro w';go_simp
      with_reducible rfl
     rotate_left
     ·simp only [Act.put,sA,sZ,sS,i64_w,i32_w];rfl
     refine pure_ (i:=20) (N:=some 34) (v:=?_) (a':=?_) (mA 31 2097151) rfl rfl (any_of HT_.out kR) (fun _ _ _ h=>h) (Or.inl ⟨by rfl,?_⟩) ?_ ?_;rotate_left
     ·intro w';go_simp
      with_reducible rfl
     rotate_left
     ·simp only [Act.put,sA,sZ,sS,i64_w,i32_w];rfl
     refine pure_ (i:=21) (N:=some 35) (v:=undef) (a':=?_) (mA 31 4194303) rfl rfl (any_of HT_.out kR) (fun _ _ _ h=>h) (Or.inr ⟨by rfl,rfl⟩) ?_ ?_;rotate_left
     ·simp only [Act.put,sA,sZ,sS,i64_w,i32_w];rfl
     refine pure_ (i:=22) (N:=some 36) (v:=undef) (a':=?_) (mA 31 8388607) rfl rfl (any_of HT_.out kR) (fun _ _ _ h=>h) (Or.inr ⟨by rfl,rfl⟩) ?_ ?_;rotate_left
     ·simp only [Act.put,sA,sZ,sS,i64_w,i32_w];rfl
     refine pure_ (i:=23) (N:=some 37) (v:=undef) (a':=?_) (mA 31 16777215) rfl rfl (any_of HT_.out kR) (fun _ _ _ h=>h) (Or.inr ⟨by rfl,rfl⟩) ?_ ?_;rotate_left
     ·simp only [Act.put,sA,sZ,sS,i64_w,i32_w];rfl
     refine pure_ (i:=24) (N:=some 38) (v:=undef) (a':=?_) (mA 31 33554431) rfl rfl (any_of HT_.out kR) (fun _ _ _ h=>h) (Or.inr ⟨by rfl,rfl⟩) ?_ ?_;rotate_left
     ·simp only [Act.put,sA,sZ,sS,i64_w,i32_w];rfl
     refine pure_ (i:=25) (N:=some 39) (v:=undef) (a':=?_) (mA 31 67108863) rfl rfl (any_of HT_.out kR) (fun _ _ _ h=>h) (Or.inr ⟨by rfl,rfl⟩) ?_ ?_;rotate_left
     ·simp only [Act.put,sA,sZ,sS,i64_w,i32_w];rfl
     refine pure_ (i:=26) (N:=some 40) (v:=undef) (a':=?_) (mA 31 134217727) rfl rfl (any_of HT_.out kR) (fun _ _ _ h=>h) (Or.inr ⟨by rfl,rfl⟩) ?_ ?_;rotate_left
     ·simp only [Act.put,sA,sZ,sS,i64_w,i32_w];rfl
     refine pure_ (i:=27) (N:=some 41) (v:=undef) (a':=?_) (mA 31 268435455) rfl rfl (any_of HT_.out kR) (fun _ _ _ h=>h) (Or.inr ⟨by rfl,rfl⟩) ?_ ?_;rotate_left
     ·simp only [Act.put,sA,sZ,sS,i64_w,i32_w];rfl
     refine pure_ (i:=28) (N:=some 42) (v:=undef) (a':=?_) (mA 31 536870911) rfl rfl (any_of HT_.out kR) (fun _ _ _ h=>h) (Or.inr ⟨by rfl,rfl⟩) ?_ ?_;rotate_left
     ·simp only [Act.put,sA,sZ,sS,i64_w,i32_w];rfl
     refine pure_ (i:=29) (N:=some 43) (v:=undef) (a':=?_) (mA 31 1073741823) rfl rfl (any_of HT_.out kR) (fun _ _ _ h=>h) (Or.inr ⟨by rfl,rfl⟩) ?_ ?_;rotate_left
     ·simp only [Act.put,sA,sZ,sS,i64_w,i32_w];rfl
     refine pure_ (i:=30) (N:=some 44) (v:=?_) (a':=?_) (mA 31 2147483647) rfl rfl (any_of HT_.out kR) (fun _ _ _ h=>h) (Or.inl ⟨by rfl,?_⟩) ?_ ?_;rotate_left
     ·intro w';go_simp
      with_reducible rfl
     rotate_left
     ·simp only [Act.put,sA,sZ,sS,i64_w,i32_w];rfl
     refine done_ (done_of HT_.out kR) ?_
     try go_wp2
     go_roundg k1
     case measure=>have:=HK1.out;omega
     case rel=>exact ⟨(wrap64 (x11_1 + 1)),qrs,H',⟨by have:=HK1.out;omega⟩,⟨by (with_reducible repeat (first|refine blk_drewN ?_ _|refine blk_drew ?_|refine blk_alloc ?_ _));exact BK811.out⟩,⟨by exact bw⟩⟩
    ·replace c8:=Bool.eq_false_iff.mpr c8;subst c8;have H1:((impl_has.f x11_1 a2).bind fun t813=>(if t813 = true then (impl_votes_isWorth.l0 k1 a1 a2 (l0_1.length:Int) (wrap64 (x11_1 + 1)) a0_0 l0_1) else (if 0 ≤ a2 then (if 0 ≤ (Go.bits .or .i64 x11_1 (shl .i64 1 a2)) then (if (Go.bits .or .i64 x11_1 (shl .i64 1 a2)) < (l0_1.length:Int) then (if rdOf false l0_1 (Go.bits .or .i64 x11_1 (shl .i64 1 a2)) = true then (if 0 ≤ a1 then (if 0 ≤ (Go.bits .or .i64 x11_1 (shl .i64 1 a1)) then (if (Go.bits .or .i64 x11_1 (shl .i64 1 a1)) < (l0_1.length:Int) then (if (rdOf false l0_1 (Go.bits .or .i64 x11_1 (shl .i64 1 a1)) = true) then (impl_votes_isWorth.l0 k1 a1 a2 (l0_1.length:Int) (wrap64 (x11_1 + 1)) a0_0 l0_1) else (some false)) else (none)) else (none)) else (none)) else (impl_votes_isWorth.l0 k1 a1 a2 (l0_1.length:Int) (wrap64 (x11_1 + 1)) a0_0 l0_1)) else (none)) else (none)) else (none)))) = some r:=by rw [if_neg (show ¬ (false = true) by decide)] at H;exact H
     clear H;have H:=H1;clear H1;replace H:=Option.bind_eq_some_iff.mp H;obtain ⟨t813,A100,H⟩:=H;replace H:(if t813 = true then (impl_votes_isWorth.l0 k1 a1 a2 (l0_1.length:Int) (wrap64 (x11_1 + 1)) a0_0 l0_1) else (if 0 ≤ a2 then (if 0 ≤ (Go.bits .or .i64 x11_1 (shl .i64 1 a2)) then (if (Go.bits .or .i64 x11_1 (shl .i64 1 a2)) < (l0_1.length:Int) then (if rdOf false l0_1 (Go.bits .or .i64 x11_1 (shl .i64 1 a2)) = true then (if 0 ≤ a1 then (if 0 ≤ (Go.bits .or .i64 x11_1 (shl .i64 1 a1)) then (if (Go.bits .or .i64 x11_1 (shl .i64 1 a1)) < (l0_1.length:Int) then (if (rdOf false l0_1 (Go.bits .or .i64 x11_1 (shl .i64 1 a1)) = true) then (impl_votes_isWorth.l0 k1 a1 a2 (l0_1.length:Int) (wrap64 (x11_1 + 1)) a0_0 l0_1) else (some false)) else (none)) else (none)) else (none)) else (impl_votes_isWorth.l0 k1 a1 a2 (l0_1.length:Int) (wrap64 (x11_1 + 1)) a0_0 l0_1)) else (none)) else (none)) else (none))) = some r:=H;have A10:=aM A100;clear A100;by_cases c11:t813 = true
     ·subst c11;have H1:(impl_votes_isWorth.l0 k1 a1 a2 (l0_1.length:Int) (wrap64 (x11_1 + 1)) a0_0 l0_1) = some r:=by rw [if_pos rfl] at H;exact H
      clear H;have H:=H1;clear H1;have H':=aM H;clear H
      try go_wp2
      have n0_:=aM (blk_drew BK811.out);have n1_:=aM (below_drew1 HB.out);clear BK811;clear HB;have BK811:=n0_;have HB:=n1_;clear n0_ n1_;refine start_ (n:=31) (S:=fun w'=>True) (ds:=[]) (mA 31 0) kR rfl rfl trivial (fun hHeld=>?_);refine with_tabW impl_votes_isWorth.tab4 impl_votes_isWorth.bits4 (fun HT_ HW_=>?_)
      generalize wr.drew = w12 at BK811 HB hHeld ⊢
      refine pure_ (i:=0) (N:=some 14) (v:=?_) (a':=?_) (mA 31 1) rfl rfl (any_of HT_.out kR) (fun _ _ _ h=>h) (Or.inl ⟨by rfl,?_⟩) ?_ ?_;rotate_left
      ·intro w';go_simp
       with_reducible rfl
      rotate_left
      ·simp only [Act.put,sA,sZ,sS,i64_w,i32_w];rfl
      refine pure_ (i:=1) (N:=some 15) (v:=?_) (a':=?_) (mA 31 3) rfl rfl (any_of HT_.out kR) (fun _ _ _ h=>h) (Or.inl ⟨by rfl,?_⟩) ?_ ?_;rotate_left
      ·intro w';go_simp
       with_reducible rfl
      rotate_left
      ·simp only [Act.put,sA,sZ,sS,i64_w,i32_w];rfl
      refine one_ (i:=2) (N:=some 16) (mA 31 7) rfl rfl (one_of HT_.out kR) (by decide) (fun K hK=>?_);refine goes_ Try.func172 kR rfl #[.int .i64 x11_1,.int .i64 a1] (by rfl) rfl rfl mq ?_
      with_reducible refine (impl_has.calls x11_1 a1 false _ A7.out).mono ?_
      rintro e w' ⟨rfl,⟨nd,rfl⟩⟩
      refine ⟨_,rfl,?_⟩;refine hK.out _ _ trivial (fun hHeld=>?_);clear hK K;refine norm_ (a':=?_) ?_ ?_;rotate_left
      ·show Act.put _ (some 16) _ = _;simp only [Act.put,sA,sZ,sS,i64_w,i32_w];rfl
      refine pure_ (i:=3) (N:=some 17) (v:=?_) (a':=?_) (mA 31 15) rfl rfl (any_of HT_.out kR) (fun _ _ _ h=>h) (Or.inl ⟨by rfl,?_⟩) ?_ ?_;rotate_left
      ·intro w';go_simp
       with_reducible rfl
      rotate_left
      ·simp only [Act.put,sA,sZ,sS,i64_w,i32_w];rfl
      refine pure_ (i:=4) (N:=some 18) (v:=?_) (a':=?_) (mA 31 31) rfl rfl (any_of HT_.out kR) (fun _ _ _ h=>h) (Or.inl ⟨by rfl,?_⟩) ?_ ?_;rotate_left
      ·intro w';go_simp
       with_reducible rfl
      rotate_left
      ·simp only [Act.put,sA,sZ,sS,i64_w,i32_w];rfl
      refine pure_ (i:=5) (N:=some 19) (v:=?_) (a':=?_) (mA 31 63) rfl rfl (any_of HT_.out kR) (fun _ _ _ h=>h) (Or.inl ⟨by rfl,?_⟩) ?_ ?_;rotate_left
      ·intro w';go_simp
       with_reducible rfl
      rotate_left
      ·simp only [Act.put,sA,sZ,sS,i64_w,i32_w];rfl
      refine pure_ (i:=6) (N:=some 20) (v:=?_) (a':=?_) (mA 31 127) rfl rfl (any_of HT_.out kR) (fun _ _ _ h=>h) (Or.inl ⟨by rfl,?_⟩) ?_ ?_;rotate_left
      ·intro w';go_simp
       with_reducible rfl
      rotate_left
      ·simp only [Act.put,sA,sZ,sS,i64_w,i32_w];rfl
      refine one_ (i:=7) (N:=some 21) (mA 31 255) rfl rfl (one_of HT_.out kR) (by decide) (fun K hK=>?_);refine goes_ Try.func172 kR rfl #[.int .i64 x11_1,.int .i64 a2] (by rfl) rfl rfl mq ?_
      with_reducible refine (impl_has.calls x11_1 a2 true _ A10.out).mono ?_
      rintro e w' ⟨rfl,⟨nd,rfl⟩⟩
      refine ⟨_,rfl,?_⟩;refine hK.out _ _ trivial (fun hHeld=>?_);clear hK K;refine norm_ (a':=?_) ?_ ?_;rotate_left
      ·show Act.put _ (some 21) _ = _;simp only [Act.put,sA,sZ,sS,i64_w,i32_w];rfl
      refine pure_ (i:=8) (N:=some 22) (v:=?_) (a':=?_) (mA 31 511) rfl rfl (any_of HT_.out kR) (fun _ _ _ h=>h) (Or.inl ⟨by rfl,?_⟩) ?_ ?_;rotate_left
      ·intro w';go_simp
       with_reducible rfl
      rotate_left
      ·simp only [Act.put,sA,sZ,sS,i64_w,i32_w];rfl
      refine pure_ (i:=9) (N:=some 23) (v:=?_) (a':=?_) (mA 31 1023) rfl rfl (any_of HT_.out kR) (fun _ _ _ h=>h) (Or.inl ⟨by rfl,?_⟩) ?_ ?_;rotate_left
      ·intro w';go_simp
       with_reducible rfl
      rotate_left
      ·simp only [Act.put,sA,sZ,sS,i64_w,i32_w];rfl
      refine pure_ (i:=10) (N:=some 24) (v:=?_) (a':=?_) (mA 31 2047) rfl rfl (any_of HT_.out kR) (fun _ _ _ h=>h) (Or.inl ⟨by rfl,?_⟩) ?_ ?_;rotate_left
      ·intro w';go_simp
       with_reducible rfl
      rotate_left
      ·simp only [Act.put,sA,sZ,sS,i64_w,i32_w];rfl
      refine pure_ (i:=11) (N:=some 25) (v:=undef) (a':=?_) (mA 31 4095) rfl rfl (any_of HT_.out kR) (fun _ _ _ h=>h) (Or.inr ⟨by rfl,rfl⟩) ?_ ?_;rotate_left
      ·simp only [Act.put,sA,sZ,sS,i64_w,i32_w];rfl
      refine pure_ (i:=12) (N:=some 26) (v:=undef) (a':=?_) (mA 31 8191) rfl rfl (any_of HT_.out kR) (fun _ _ _ h=>h) (Or.inr ⟨by rfl,rfl⟩) ?_ ?_;rotate_left
      ·simp only [Act.put,sA,sZ,sS,i64_w,i32_w];rfl
      refine pure_ (i:=13) (N:=some 27) (v:=undef) (a':=?_) (mA 31 16383) rfl rfl (any_of HT_.out kR) (fun _ _ _ h=>h) (Or.inr ⟨by rfl,rfl⟩) ?_ ?_;rotate_left
      ·simp only [Act.put,sA,sZ,sS,i64_w,i32_w];rfl
      refine pure_ (i:=14) (N:=some 28) (v:=undef) (a':=?_) (mA 31 32767) rfl rfl (any_of HT_.out kR) (fun _ _ _ h=>h) (Or.inr ⟨by rfl,rfl⟩) ?_ ?_;rotate_left
      ·simp only [Act.put,sA,sZ,sS,i64_w,i32_w];rfl
      refine pure_ (i:=15) (N:=some 29) (v:=undef) (a':=?_) (mA 31 65535) rfl rfl (any_of HT_.out kR) (fun _ _ _ h=>h) (Or.inr ⟨by rfl,rfl⟩) ?_ ?_;rotate_left
      ·simp only [Act.put,sA,sZ,sS,i64_w,i32_w];rfl
      refine pure_ (i:=16) (N:=some 30) (v:=undef) (a':=?_) (mA 31 131071) rfl rfl (any_of HT_.out kR) (fun _ _ _ h=>h) (Or.inr ⟨by rfl,rfl⟩) ?_ ?_;rotate_left
      ·simp only [Act.put,sA,sZ,sS,i64_w,i32_w];rfl
      refine pure_ (i:=17) (N:=some 31) (v:=undef) (a':=?_) (mA 31 262143) rfl rfl (any_of HT_.out kR) (fun _ _ _ h=>h) (Or.inr ⟨by rfl,rfl⟩) ?_ ?_;rotate_left
      ·simp only [Act.put,sA,sZ,sS,i64_w,i32_w];rfl
      refine pure_ (i:=18) (N:=some 32) (v:=undef) (a':=?_) (mA 31 524287) rfl rfl (any_of HT_.out kR) (fun _ _ _ h=>h) (Or.inr ⟨by rfl,rfl⟩) ?_ ?_;rotate_left
      ·simp only [Act.put,sA,sZ,sS,i64_w,i32_w];rfl
      refine pure_ (i:=19) (N:=some 33) (v:=?_) (a':=?_) (mA 31 1048575) rfl rfl (any_of HT_.out kR) (fun _ _ _ h=>h) (Or.inl ⟨by rfl,?_⟩) ?_ ?_;rotate_left
      ·intro w';go_simp
       with_reducible rfl
      rotate_left
      ·simp only [Act.put,sA,sZ,sS,i64_w,i32_w];rfl
      refine pure_ (i:=20) (N:=some 34) (v:=?_) (a':=?_) (mA 31 2097151) rfl rfl (any_of HT_.out kR) (fun _ _ _ h=>h) (Or.inl ⟨by rfl,?_⟩) ?_ ?_;rotate_left
      ·intro w';go_simp
       with_reducible rfl
      rotate_left
      ·simp only [Act.put,sA,sZ,sS,i64_w,i32_w];rfl
      refine pure_ (i:=21) (N:=some 35) (v:=undef) (a':=?_) (mA 31 4194303) rfl rfl (any_of HT_.out kR) (fun _ _ _ h=>h) (Or.inr ⟨by rfl,rfl⟩) ?_ ?_;rotate_left
      ·simp only [Act.put,sA,sZ,sS,i64_w,i32_w];rfl
      refine pure_ (i:=22) (N:=some 36) (v:=undef) (a':=?_) (mA 31 8388607) rfl rfl (any_of HT_.out kR) (fun _ _ _ h=>h) (Or.inr ⟨by rfl,rfl⟩) ?_ ?_;rotate_left
      ·simp only [Act.put,sA,sZ,sS,i64_w,i32_w];rfl
      refine pure_ (i:=23) (N:=some 37) (v:=undef) (a':=?_) (mA 31 16777215) rfl rfl (any_of HT_.out kR) (fun _ _ _ h=>h) (Or.inr ⟨by rfl,rfl⟩) ?_ ?_;rotate_left
      ·simp only [Act.put,sA,sZ,sS,i64_w,i32_w];rfl
      refine pure_ (i:=24) (N:=some 38) (v:=undef) (a':=?_) (mA 31 33554431) rfl rfl (any_of HT_.out kR) (fun _ _ _ h=>h) (Or.inr ⟨by rfl,rfl⟩) ?_ ?_;rotate_left
      ·simp only [Act.put,sA,sZ,sS,i64_w,i32_w];rfl
      refine pure_ (i:=25) (N:=some 39) (v:=undef) (a':=?_) (mA 31 67108863) rfl rfl (any_of HT_.out kR) (fun _ _ _ h=>h) (Or.inr ⟨by rfl,rfl⟩) ?_ ?_;rotate_left
      ·simp only [Act.put,sA,sZ,sS,i64_w,i32_w];rfl
      refine pure_ (i:=26) (N:=some 40) (v:=undef) (a':=?_) (mA 31 134217727) rfl rfl (any_of HT_.out kR) (fun _ _ _ h=>h) (Or.inr ⟨by rfl,rfl⟩) ?_ ?_;rotate_left
      ·simp only [Act.put,sA,sZ,sS,i64_w,i32_w];rfl
      refine pure_ (i:=27) (N:=some 41) (v:=undef) (a':=?_) (mA 31 268435455) rfl rfl (any_of HT_.out kR) (fun _ _ _ h=>h) (Or.inr ⟨by rfl,rfl⟩) ?_ ?_;rotate_left
      ·simp only [Act.put,sA,sZ,sS,i64_w,i32_w];rfl
      refine pure_ (i:=28) (N:=some 42) (v:=undef) (a':=?_) (mA 31 536870911) rfl rfl (any_of HT_.out kR) (fun _ _ _ h=>h) (Or.inr ⟨by rfl,rfl⟩) ?_ ?_;rotate_left
      ·simp only [Act.put,sA,sZ,sS,i64_w,i32_w];rfl
      refine pure_ (i:=29) (N:=some 43) (v:=undef) (a':=?_) (mA 31 1073741823) rfl rfl (any_of HT_.out kR) (fun _ _ _ h=>h) (Or.inr ⟨by rfl,rfl⟩) ?_ ?_;rotate_left
      ·simp only [Act.put,sA,sZ,sS,i64_w,i32_w];rfl
      refine pure_ (i:=30) (N:=some 44) (v:=?_) (a':=?_) (mA 31 2147483647) rfl rfl (any_of HT_.out kR) (fun _ _ _ h=>h) (Or.inl ⟨by rfl,?_⟩) ?_ ?_;rotate_left
      ·intro w';go_simp
       with_reducible rfl
      rotate_left
      ·simp only [Act.put,sA,sZ,sS,i64_w,i32_w];rfl
      refine done_ (done_of HT_.out kR) ?_
      try go_wp2
      go_roundg k1
      case measure=>have:=HK1.out;omega
      case rel=>exact ⟨(wrap64 (x11_1 + 1)),qrs,H',⟨by have:=HK1.out;omega⟩,⟨by (with_reducible repeat (first|refine blk_drewN ?_ _|refine blk_drew ?_|refine blk_alloc ?_ _));exact BK811.out⟩,⟨by exact bw⟩⟩
     ·replace c11:=Bool.eq_false_iff.mpr c11;subst c11;have H1:(if 0 ≤ a2 then (if 0 ≤ (Go.bits .or .i64 x11_1 (shl .i64 1 a2)) then (if (Go.bits .or .i64 x11_1 (shl .i64 1 a2)) < (l0_1.length:Int) then (if rdOf false l0_1 (Go.bits .or .i64 x11_1 (shl .i64 1 a2)) = true then (if 0 ≤ a1 then (if 0 ≤ (Go.bits .or .i64 x11_1 (shl .i64 1 a1)) then (if (Go.bits .or .i64 x11_1 (shl .i64 1 a1)) < (l0_1.length:Int) then (if (rdOf false l0_1 (Go.bits .or .i64 x11_1 (shl .i64 1 a1)) = true) then (impl_votes_isWorth.l0 k1 a1 a2 (l0_1.length:Int) (wrap64 (x11_1 + 1)) a0_0 l0_1) else (some false)) else (none)) else (none)) else (none)) else (impl_votes_isWorth.l0 k1 a1 a2 (l0_1.length:Int) (wrap64 (x11_1 + 1)) a0_0 l0_1)) else (none)) else (none)) else (none)) = some r:=by rw [if_neg (show ¬ (false = true) by decide)] at H;exact H
      clear H;have H:=H1;clear H1;by_cases c13:0 ≤ a2
      ·rw [if_pos c13] at H;have c13b0:=eq_true c13;have c13b1:decide (0 ≤ a2) = true:=decide_eq_true c13;clear c13;obtain ⟨ji14,hji14⟩:∃ j_:Int,(shl .i64 1 a2) = j_:=⟨_,rfl⟩;replace H:(if 0 ≤ (Go.bits .or .i64 x11_1 (ji14)) then (if (Go.bits .or .i64 x11_1 (ji14)) < (l0_1.length:Int) then (if rdOf false l0_1 (Go.bits .or .i64 x11_1 (ji14)) = true then (if 0 ≤ a1 then (if 0 ≤ (Go.bits .or .i64 x11_1 (shl .i64 1 a1)) then (if (Go.bits .or .i64 x11_1 (shl .i64 1 a1)) < (l0_1.length:Int) then (if (rdOf false l0_1 (Go.bits .or .i64 x11_1 (shl .i64 1 a1)) = true) then (impl_votes_isWorth.l0 k1 a1 a2 (l0_1.length:Int) (wrap64 (x11_1 + 1)) a0_0 l0_1) else (some false)) else (none)) else (none)) else (none)) else (impl_votes_isWorth.l0 k1 a1 a2 (l0_1.length:Int) (wrap64 (x11_1 + 1)) a0_0 l0_1)) else (none)) else (none)) = some r:=by first|(rw [hji14] at H;exact H)|(simp only [hji14] at H ⊢;exact H)
       (try rw [hji14] at A7)
       (try rw [hji14] at A10)
       have hji14_:(IntKind.i64.wrap (1 * 2 ^ min a2.toNat 64)) = ji14:=hji14;have hji14z:a2 ≤ 64 → (IntKind.i64.wrap (1 * 2 ^ a2.toNat)) = ji14:=shl_small hji14;have hji14u:(IntKind.i64.wrap (2 ^ min a2.toNat 64)) = ji14:=by have h_:=hji14_;rw [Int.one_mul] at h_;exact h_
       have hji14v:a2 ≤ 64 → (IntKind.i64.wrap (2 ^ a2.toNat)) = ji14:=fun hle_=>by have h_:=hji14z hle_;rw [Int.one_mul] at h_;exact h_
       have hji14y:(wrap64 (1 * 2 ^ min a2.toNat 64)) = ji14:=(i64_w _).symm.trans hji14_;have hji14x:a2 ≤ 64 → (wrap64 (1 * 2 ^ a2.toNat)) = ji14:=fun h_=>(i64_w _).symm.trans (hji14z h_)
       by_cases c15:0 ≤ (Go.bits .or .i64 x11_1 (ji14))
       ·rw [if_pos c15] at H;have c15b0:decide (0 ≤ (Go.bits .or .i64 x11_1 (ji14))) = true:=decide_eq_true c15;clear c15;by_cases c16:(Go.bits .or .i64 x11_1 (ji14)) < (l0_1.length:Int)
        ·rw [if_pos c16] at H;have c16b0:decide ((Go.bits .or .i64 x11_1 (ji14)) < (l0_1.length:Int)) = true:=decide_eq_true c16;clear c16;obtain ⟨bq17,hbq17⟩:∃ b_:Bool,b_ = (rdOf false l0_1 (Go.bits .or .i64 x11_1 (ji14))):=⟨_,rfl⟩;replace H:(if bq17 = true then (if 0 ≤ a1 then (if 0 ≤ (Go.bits .or .i64 x11_1 (shl .i64 1 a1)) then (if (Go.bits .or .i64 x11_1 (shl .i64 1 a1)) < (l0_1.length:Int) then (if (rdOf false l0_1 (Go.bits .or .i64 x11_1 (shl .i64 1 a1)) = true) then (impl_votes_isWorth.l0 k1 a1 a2 (l0_1.length:Int) (wrap64 (x11_1 + 1)) a0_0 l0_1) else (some false)) else (none)) else (none)) else (none)) else (impl_votes_isWorth.l0 k1 a1 a2 (l0_1.length:Int) (wrap64 (x11_1 + 1)) a0_0 l0_1)) = some r:=by rw [← hbq17] at H;exact H
         have Nbq17:=aM hbq17;clear hbq17;by_cases c18:bq17 = true
         ·subst c18;have H1:(if 0 ≤ a1 then (if 0 ≤ (Go.bits .or .i64 x11_1 (shl .i64 1 a1)) then (if (Go.bits .or .i64 x11_1 (shl .i64 1 a1)) < (l0_1.length:Int) then (if (rdOf false l0_1 (Go.bits .or .i64 x11_1 (shl .i64 1 a1)) = true) then (impl_votes_isWorth.l0 k1 a1 a2 (l0_1.length:Int) (wrap64 (x11_1 + 1)) a0_0 l0_1) else (some false)) else (none)) else (none)) else (none)) = some r:=by rw [if_pos rfl] at H;exact H
          clear H;have H:=H1;clear H1;by_cases c19:0 ≤ a1
          ·rw [if_pos c19] at H;have c19b0:=eq_true c19;have c19b1:decide (0 ≤ a1) = true:=decide_eq_true c19;clear c19;obtain ⟨ji20,hji20⟩:∃ j_:Int,(shl .i64 1 a1) = j_:=⟨_,rfl⟩;replace H:(if 0 ≤ (Go.bits .or .i64 x11_1 (ji20)) then (if (Go.bits .or .i64 x11_1 (ji20)) < (l0_1.length:Int) then (if (rdOf false l0_1 (Go.bits .or .i64 x11_1 (ji20)) = true) then (impl_votes_isWorth.l0 k1 a1 a2 (l0_1.length:Int) (wrap64 (x11_1 + 1)) a0_0 l0_1) else (some false)) else (none)) else (none)) = some r:=by first|(rw [hji20] at H;exact H)|(simp only [hji20] at H ⊢;exact H)
           (try rw [hji20] at A7)
           (try rw [hji20] at A10)
           have hji20_:(IntKind.i64.wrap (1 * 2 ^ min a1.toNat 64)) = ji20:=hji20;have hji20z:a1 ≤ 64 → (IntKind.i64.wrap (1 * 2 ^ a1.toNat)) = ji20:=shl_small hji20;have hji20u:(IntKind.i64.wrap (2 ^ min a1.toNat 64)) = ji20:=by have h_:=hji20_;rw [Int.one_mul] at h_;exact h_
           have hji20v:a1 ≤ 64 → (IntKind.i64.wrap (2 ^ a1.toNat)) = ji20:=fun hle_=>by have h_:=hji20z hle_;rw [Int.one_mul] at h_;exact h_
           have hji20y:(wrap64 (1 * 2 ^ min a1.toNat 64)) = ji20:=(i64_w _).symm.trans hji20_;have hji20x:a1 ≤ 64 → (wrap64 (1 * 2 ^ a1.toNat)) = ji20:=fun h_=>(i64_w _).symm.trans (hji20z h_)
           by_cases c21:0 ≤ (Go.bits .or .i64 x11_1 (ji20))
           ·rw [if_pos c21] at H;have c21b0:decide (0 ≤ (Go.bits .or .i64 x11_1 (ji20))) = true:=decide_eq_true c21;clear c21;by_cases c22:(Go.bits .or .i64 x11_1 (ji20)) < (l0_1.length:Int)
            ·rw [if_pos c22] at H;have c22b0:decide ((Go.bits .or .i64 x11_1 (ji20)) < (l0_1.length:Int)) = true:=decide_eq_true c22;clear c22;obtain ⟨bq23,hbq23⟩:∃ b_:Bool,b_ = (rdOf false l0_1 (Go.bits .or .i64 x11_1 (ji20))):=⟨_,rfl⟩;replace H:(if (bq23 = true) then (impl_votes_isWorth.l0 k1 a1 a2 (l0_1.length:Int) (wrap64 (x11_1 + 1)) a0_0 l0_1) else (some false)) = some r:=by rw [← hbq23] at H;exact H
             have Nbq23:=aM hbq23;clear hbq23;by_cases c24:(bq23 = true)
             ·subst c24;have H1:(impl_votes_isWorth.l0 k1 a1 a2 (l0_1.length:Int) (wrap64 (x11_1 + 1)) a0_0 l0_1) = some r:=by rw [if_pos rfl] at H;exact H
              clear H;have H:=H1;clear H1;have H':=aM H;clear H
              try go_wp2
              have n0_:=aM (blk_drew BK811.out);have n1_:=aM (below_drew1 HB.out);clear BK811;clear HB;have BK811:=n0_;have HB:=n1_;clear n0_ n1_;have p814:0 ≤ ((Go.bits .or .i64 x11_1 (ji14)):Int):=of_decide_eq_true ab;have q814:(Go.bits .or .i64 x11_1 (ji14)) < (l0_1.length:Int):=of_decide_eq_true ab;obtain ⟨ad814,e814,hx814_0⟩:=Kd.at_bool HR0_1.out (Go.bits .or .i64 x11_1 (ji14)) p814 q814;have hw814_0:=hx814_0;(try rw [← Nbq17.out] at hw814_0)
              (try rw [← Nbq23.out] at hw814_0)
              (try rw [← Nbq17.out] at hx814_0)
              (try rw [← Nbq23.out] at hx814_0)
              cases e814
              replace hx814_0:=(HB.out.cell (World.block_lt_of_cell? w _ hx814_0)).trans hx814_0;replace p814:=eq_true p814;replace q814:=eq_true q814;have p815:0 ≤ ((Go.bits .or .i64 x11_1 (ji20)):Int):=of_decide_eq_true ab;have q815:(Go.bits .or .i64 x11_1 (ji20)) < (l0_1.length:Int):=of_decide_eq_true ab;obtain ⟨ad815,e815,hx815_0⟩:=Kd.at_bool HR0_1.out (Go.bits .or .i64 x11_1 (ji20)) p815 q815;have hw815_0:=hx815_0;(try rw [← Nbq17.out] at hw815_0)
              (try rw [← Nbq23.out] at hw815_0)
              (try rw [← Nbq17.out] at hx815_0)
              (try rw [← Nbq23.out] at hx815_0)
              obtain rfl:ad814 = ad815:=(by injection e815);replace hx815_0:=(HB.out.cell (World.block_lt_of_cell? w _ hx815_0)).trans hx815_0;replace p815:=eq_true p815;replace q815:=eq_true q815;refine start_ (n:=31) (S:=fun w'=>w'.cell? ⟨gb811,0,none⟩ = some (.int .i64 a0_0) ∧ w'.cell? ⟨gb811,1,none⟩ = some (.slice (some ad814) l0_1.length c0_1) ∧ w'.cell? (ad814.add ((Go.bits .or .i64 x11_1 (ji14))).toNat) = some (.bool true) ∧ w'.cell? (ad814.add ((Go.bits .or .i64 x11_1 (ji20))).toNat) = some (.bool true)) (ds:=[]) (mA 31 0) kR rfl rfl ⟨(blk_cell BK811.out 0).trans rfl,(blk_cell BK811.out 1).trans rfl,((HB.out.cell (World.block_lt_of_cell? w _ hw814_0)).trans hw814_0),((HB.out.cell (World.block_lt_of_cell? w _ hw815_0)).trans hw815_0)⟩ (fun hHeld=>?_);refine with_tabW impl_votes_isWorth.tab4 impl_votes_isWorth.bits4 (fun HT_ HW_=>?_)
              generalize wr.drew = w25 at BK811 HB hx814_0 hx815_0 hHeld ⊢
              refine pure_ (i:=0) (N:=some 14) (v:=?_) (a':=?_) (mA 31 1) rfl rfl (any_of HT_.out kR) (fun _ _ _ h=>h) (Or.inl ⟨by rfl,?_⟩) ?_ ?_;rotate_left
              ·intro w';go_simp
               with_reducible rfl
              rotate_left
              ·simp only [Act.put,sA,sZ,sS,i64_w,i32_w];rfl
              refine pure_ (i:=1) (N:=some 15) (v:=?_) (a':=?_) (mA 31 3) rfl rfl (any_of HT_.out kR) (fun _ _ _ h=>h) (Or.inl ⟨by rfl,?_⟩) ?_ ?_;rotate_left
              ·intro w';go_simp
               with_reducible rfl
              rotate_left
              ·simp only [Act.put,sA,sZ,sS,i64_w,i32_w];rfl
              refine one_ (i:=2) (N:=some 16) (mA 31 7) rfl rfl (one_of HT_.out kR) (by decide) (fun K hK=>?_);refine goes_ Try.func172 kR rfl #[.int .i64 x11_1,.int .i64 a1] (by rfl) rfl rfl mq ?_
              with_reducible refine (impl_has.calls x11_1 a1 false _ A7.out).mono ?_
              rintro e w' ⟨rfl,⟨nd,rfl⟩⟩
              refine ⟨_,rfl,?_⟩;refine hK.out _ _ ⟨(blk_cell BK811.out 0).trans rfl,(blk_cell BK811.out 1).trans rfl,((HB.out.cell (World.block_lt_of_cell? w _ hw814_0)).trans hw814_0),((HB.out.cell (World.block_lt_of_cell? w _ hw815_0)).trans hw815_0)⟩ (fun hHeld=>?_);clear hK K;refine norm_ (a':=?_) ?_ ?_;rotate_left
              ·show Act.put _ (some 16) _ = _;simp only [Act.put,sA,sZ,sS,i64_w,i32_w];rfl
              refine pure_ (i:=3) (N:=some 17) (v:=?_) (a':=?_) (mA 31 15) rfl rfl (any_of HT_.out kR) (fun _ _ _ h=>h) (Or.inl ⟨by rfl,?_⟩) ?_ ?_;rotate_left
              ·intro w';go_simp
               with_reducible rfl
              rotate_left
              ·simp only [Act.put,sA,sZ,sS,i64_w,i32_w];rfl
              refine pure_ (i:=4) (N:=some 18) (v:=?_) (a':=?_) (mA 31 31) rfl rfl (any_of HT_.out kR) (fun _ _ _ h=>h) (Or.inl ⟨by rfl,?_⟩) ?_ ?_;rotate_left
              ·intro w';go_simp
               with_reducible rfl
              rotate_left
              ·simp only [Act.put,sA,sZ,sS,i64_w,i32_w];rfl
              refine pure_ (i:=5) (N:=some 19) (v:=?_) (a':=?_) (mA 31 63) rfl rfl (any_of HT_.out kR) (fun _ _ _ h=>h) (Or.inl ⟨by rfl,?_⟩) ?_ ?_;rotate_left
              ·intro w';go_simp
               with_reducible rfl
              rotate_left
              ·simp only [Act.put,sA,sZ,sS,i64_w,i32_w];rfl
              refine pure_ (i:=6) (N:=some 20) (v:=?_) (a':=?_) (mA 31 127) rfl rfl (any_of HT_.out kR) (fun _ _ _ h=>h) (Or.inl ⟨by rfl,?_⟩) ?_ ?_;rotate_left
              ·intro w';go_simp
               with_reducible rfl
              rotate_left
              ·simp only [Act.put,sA,sZ,sS,i64_w,i32_w];rfl
              refine one_ (i:=7) (N:=some 21) (mA 31 255) rfl rfl (one_of HT_.out kR) (by decide) (fun K hK=>?_);refine goes_ Try.func172 kR rfl #[.int .i64 x11_1,.int .i64 a2] (by rfl) rfl rfl mq ?_
              with_reducible refine (impl_has.calls x11_1 a2 false _ A10.out).mono ?_
              rintro e w' ⟨rfl,⟨nd,rfl⟩⟩
              refine ⟨_,rfl,?_⟩;refine hK.out _ _ ⟨(blk_cell BK811.out 0).trans rfl,(blk_cell BK811.out 1).trans rfl,((HB.out.cell (World.block_lt_of_cell? w _ hw814_0)).trans hw814_0),((HB.out.cell (World.block_lt_of_cell? w _ hw815_0)).trans hw815_0)⟩ (fun hHeld=>?_);clear hK K;refine norm_ (a':=?_) ?_ ?_;rotate_left
              ·show Act.put _ (some 21) _ = _;simp only [Act.put,sA,sZ,sS,i64_w,i32_w];rfl
              refine pure_ (i:=8) (N:=some 22) (v:=?_) (a':=?_) (mA 31 511) rfl rfl (any_of HT_.out kR) (fun _ _ _ h=>h) (Or.inl ⟨by rfl,?_⟩) ?_ ?_;rotate_left
              ·intro w';go_simp
               with_reducible rfl
              rotate_left
              ·simp only [Act.put,sA,sZ,sS,i64_w,i32_w];rfl
              refine pure_ (i:=9) (N:=some 23) (v:=?_) (a':=?_) (mA 31 1023) rfl rfl (any_of HT_.out kR) (fun _ _ _ h=>h) (Or.inl ⟨by rfl,?_⟩) ?_ ?_;rotate_left
              ·intro w';go_simp
               with_reducible rfl
              rotate_left
              ·simp only [Act.put,sA,sZ,sS,i64_w,i32_w];rfl
              refine pure_ (i:=10) (N:=some 24) (v:=?_) (a':=?_) (mA 31 2047) rfl rfl (any_of HT_.out kR) (fun _ _ _ h=>h) (Or.inl ⟨by rfl,?_⟩) ?_ ?_;rotate_left
              ·intro w';go_simp
               with_reducible rfl
              rotate_left
              ·simp only [Act.put,sA,sZ,sS,i64_w,i32_w];rfl
              refine pure_ (i:=11) (N:=some 25) (v:=?_) (a':=?_) (mA 31 4095) rfl rfl (any_of HT_.out kR) (fun _ _ _ h=>h) (Or.inl ⟨by rfl,?_⟩) ?_ ?_;rotate_left
              ·intro w';go_simp
               with_reducible rfl
              rotate_left
              ·simp only [Act.put,sA,sZ,sS,i64_w,i32_w];rfl
              refine pure_ (i:=13) (N:=some 27) (v:=?_) (a':=?_) (mA 31 12287) rfl rfl (any_of HT_.out kR) (fun _ _ _ h=>h) (Or.inl ⟨by rfl,?_⟩) ?_ ?_;rotate_left
              ·intro w';go_simp
               with_reducible rfl
              rotate_left
              ·simp only [Act.put,sA,sZ,sS,i64_w,i32_w];rfl
              refine pure_ (i:=14) (N:=some 28) (v:=?_) (a':=?_) (mA 31 28671) rfl rfl (any_of HT_.out kR) (fun _ _ _ h=>h) (Or.inl ⟨by rfl,?_⟩) ?_ ?_;rotate_left
              ·intro w';go_simp
               with_reducible rfl
              rotate_left
              ·simp only [Act.put,sA,sZ,sS,i64_w,i32_w];rfl
              refine pure_ (i:=15) (N:=some 29) (v:=?_) (a':=?_) (mA 31 61439) rfl rfl (any_of HT_.out kR) (fun _ _ _ h=>h) (Or.inl ⟨by rfl,?_⟩) ?_ ?_;rotate_left
              ·intro w';go_simp
               with_reducible rfl
              rotate_left
              ·simp only [Act.put,sA,sZ,sS,i64_w,i32_w];rfl
              refine pure_ (i:=16) (N:=some 30) (v:=?_) (a':=?_) (mA 31 126975) rfl rfl (any_of HT_.out kR) (fun _ _ _ h=>h) (Or.inl ⟨by rfl,?_⟩) ?_ ?_;rotate_left
              ·intro w';go_simp
               with_reducible rfl
              rotate_left
              ·simp only [Act.put,sA,sZ,sS,i64_w,i32_w];rfl
              refine take_ (i:=12) (N:=some 26) (v:=?_) (a':=?_) (mA 31 131071) rfl rfl (take_ofW HT_.out HW_.out kR) (fun _ _ _ h=>h) (Or.inl ⟨by rfl,?_⟩) hHeld ?_ ?_;rotate_left
              ·rintro w' ⟨s0,s1,s2,s3⟩
               go_simp
               with_reducible rfl
              rotate_left
              ·simp only [Act.put,sA,sZ,sS,i64_w,i32_w];rfl
              refine pure_ (i:=17) (N:=some 31) (v:=?_) (a':=?_) (mA 31 262143) rfl rfl (any_of HT_.out kR) (fun _ _ _ h=>h) (Or.inl ⟨by rfl,?_⟩) ?_ ?_;rotate_left
              ·intro w';go_simp
               with_reducible rfl
              rotate_left
              ·simp only [Act.put,sA,sZ,sS,i64_w,i32_w];rfl
              refine take_ (i:=18) (N:=some 32) (v:=?_) (a':=?_) (mA 31 524287) rfl rfl (take_ofW HT_.out HW_.out kR) (fun _ _ _ h=>h) (Or.inl ⟨by rfl,?_⟩) hHeld ?_ ?_;rotate_left
              ·rintro w' ⟨s0,s1,s2,s3⟩
               go_simp
               with_reducible rfl
              rotate_left
              ·simp only [Act.put,sA,sZ,sS,i64_w,i32_w];rfl
              refine pure_ (i:=19) (N:=some 33) (v:=?_) (a':=?_) (mA 31 1048575) rfl rfl (any_of HT_.out kR) (fun _ _ _ h=>h) (Or.inl ⟨by rfl,?_⟩) ?_ ?_;rotate_left
              ·intro w';go_simp
               with_reducible rfl
              rotate_left
              ·simp only [Act.put,sA,sZ,sS,i64_w,i32_w];rfl
              refine pure_ (i:=20) (N:=some 34) (v:=?_) (a':=?_) (mA 31 2097151) rfl rfl (any_of HT_.out kR) (fun _ _ _ h=>h) (Or.inl ⟨by rfl,?_⟩) ?_ ?_;rotate_left
              ·intro w';go_simp
               with_reducible rfl
              rotate_left
              ·simp only [Act.put,sA,sZ,sS,i64_w,i32_w];rfl
              refine pure_ (i:=21) (N:=some 35) (v:=?_) (a':=?_) (mA 31 4194303) rfl rfl (any_of HT_.out kR) (fun _ _ _ h=>h) (Or.inl ⟨by rfl,?_⟩) ?_ ?_;rotate_left
              ·intro w';go_simp
               with_reducible rfl
              rotate_left
              ·simp only [Act.put,sA,sZ,sS,i64_w,i32_w];rfl
              refine pure_ (i:=23) (N:=some 37) (v:=?_) (a':=?_) (mA 31 12582911) rfl rfl (any_of HT_.out kR) (fun _ _ _ h=>h) (Or.inl ⟨by rfl,?_⟩) ?_ ?_;rotate_left
              ·intro w';go_simp
               with_reducible rfl
              rotate_left
              ·simp only [Act.put,sA,sZ,sS,i64_w,i32_w];rfl
              refine pure_ (i:=24) (N:=some 38) (v:=?_) (a':=?_) (mA 31 29360127) rfl rfl (any_of HT_.out kR) (fun _ _ _ h=>h) (Or.inl ⟨by rfl,?_⟩) ?_ ?_;rotate_left
              ·intro w';go_simp
               with_reducible rfl
              rotate_left
              ·simp only [Act.put,sA,sZ,sS,i64_w,i32_w];rfl
              refine pure_ (i:=25) (N:=some 39) (v:=?_) (a':=?_) (mA 31 62914559) rfl rfl (any_of HT_.out kR) (fun _ _ _ h=>h) (Or.inl ⟨by rfl,?_⟩) ?_ ?_;rotate_left
              ·intro w';go_simp
               with_reducible rfl
              rotate_left
              ·simp only [Act.put,sA,sZ,sS,i64_w,i32_w];rfl
              refine pure_ (i:=26) (N:=some 40) (v:=?_) (a':=?_) (mA 31 130023423) rfl rfl (any_of HT_.out kR) (fun _ _ _ h=>h) (Or.inl ⟨by rfl,?_⟩) ?_ ?_;rotate_left
              ·intro w';go_simp
               with_reducible rfl
              rotate_left
              ·simp only [Act.put,sA,sZ,sS,i64_w,i32_w];rfl
              refine take_ (i:=22) (N:=some 36) (v:=?_) (a':=?_) (mA 31 134217727) rfl rfl (take_ofW HT_.out HW_.out kR) (fun _ _ _ h=>h) (Or.inl ⟨by rfl,?_⟩) hHeld ?_ ?_;rotate_left
              ·rintro w' ⟨s0,s1,s2,s3⟩
               go_simp
               with_reducible rfl
              rotate_left
              ·simp only [Act.put,sA,sZ,sS,i64_w,i32_w];rfl
              refine pure_ (i:=27) (N:=some 41) (v:=?_) (a':=?_) (mA 31 268435455) rfl rfl (any_of HT_.out kR) (fun _ _ _ h=>h) (Or.inl ⟨by rfl,?_⟩) ?_ ?_;rotate_left
              ·intro w';go_simp
               with_reducible rfl
              rotate_left
              ·simp only [Act.put,sA,sZ,sS,i64_w,i32_w];rfl
              refine take_ (i:=28) (N:=some 42) (v:=?_) (a':=?_) (mA 31 536870911) rfl rfl (take_ofW HT_.out HW_.out kR) (fun _ _ _ h=>h) (Or.inl ⟨by rfl,?_⟩) hHeld ?_ ?_;rotate_left
              ·rintro w' ⟨s0,s1,s2,s3⟩
               go_simp
               with_reducible rfl
              rotate_left
              ·simp only [Act.put,sA,sZ,sS,i64_w,i32_w];rfl
              refine pure_ (i:=29) (N:=some 43) (v:=?_) (a':=?_) (mA 31 1073741823) rfl rfl (any_of HT_.out kR) (fun _ _ _ h=>h) (Or.inl ⟨by rfl,?_⟩) ?_ ?_;rotate_left
              ·intro w';go_simp
               with_reducible rfl
              rotate_left
              ·simp only [Act.put,sA,sZ,sS,i64_w,i32_w];rfl
              refine pure_ (i:=30) (N:=some 44) (v:=?_) (a':=?_) (mA 31 2147483647) rfl rfl (any_of HT_.out kR) (fun _ _ _ h=>h) (Or.inl ⟨by rfl,?_⟩) ?_ ?_;rotate_left
              ·intro w';go_simp
               with_reducible rfl
              rotate_left
              ·simp only [Act.put,sA,sZ,sS,i64_w,i32_w];rfl
              refine done_ (done_of HT_.out kR) ?_
              try go_wp2
              go_roundg k1
              case measure=>have:=HK1.out;omega
              case rel=>exact ⟨(wrap64 (x11_1 + 1)),qrs,H',⟨by have:=HK1.out;omega⟩,⟨by (with_reducible repeat (first|refine blk_drewN ?_ _|refine blk_drew ?_|refine blk_alloc ?_ _));exact BK811.out⟩,⟨by exact bw⟩⟩
             ·replace c24:=Bool.eq_false_iff.mpr c24;subst c24;have H1:(some false) = some r:=by rw [if_neg (show ¬ (false = true) by decide)] at H;exact H
              clear H;have H:=H1;clear H1;obtain rfl:=Option.some.inj H
              try go_wp2
              have n0_:=aM (blk_drew BK811.out);have n1_:=aM (below_drew1 HB.out);clear BK811;clear HB;have BK811:=n0_;have HB:=n1_;clear n0_ n1_;have p814:0 ≤ ((Go.bits .or .i64 x11_1 (ji14)):Int):=of_decide_eq_true ab;have q814:(Go.bits .or .i64 x11_1 (ji14)) < (l0_1.length:Int):=of_decide_eq_true ab;obtain ⟨ad814,e814,hx814_0⟩:=Kd.at_bool HR0_1.out (Go.bits .or .i64 x11_1 (ji14)) p814 q814;have hw814_0:=hx814_0;(try rw [← Nbq17.out] at hw814_0)
              (try rw [← Nbq23.out] at hw814_0)
              (try rw [← Nbq17.out] at hx814_0)
              (try rw [← Nbq23.out] at hx814_0)
              cases e814
              replace hx814_0:=(HB.out.cell (World.block_lt_of_cell? w _ hx814_0)).trans hx814_0;replace p814:=eq_true p814;replace q814:=eq_true q814;have p815:0 ≤ ((Go.bits .or .i64 x11_1 (ji20)):Int):=of_decide_eq_true ab;have q815:(Go.bits .or .i64 x11_1 (ji20)) < (l0_1.length:Int):=of_decide_eq_true ab;obtain ⟨ad815,e815,hx815_0⟩:=Kd.at_bool HR0_1.out (Go.bits .or .i64 x11_1 (ji20)) p815 q815;have hw815_0:=hx815_0;(try rw [← Nbq17.out] at hw815_0)
              (try rw [← Nbq23.out] at hw815_0)
              (try rw [← Nbq17.out] at hx815_0)
              (try rw [← Nbq23.out] at hx815_0)
              obtain rfl:ad814 = ad815:=(by injection e815);replace hx815_0:=(HB.out.cell (World.block_lt_of_cell? w _ hx815_0)).trans hx815_0;replace p815:=eq_true p815;replace q815:=eq_true q815;refine start_ (n:=31) (S:=fun w'=>w'.cell? ⟨gb811,0,none⟩ = some (.int .i64 a0_0) ∧ w'.cell? ⟨gb811,1,none⟩ = some (.slice (some ad814) l0_1.length c0_1) ∧ w'.cell? (ad814.add ((Go.bits .or .i64 x11_1 (ji14))).toNat) = some (.bool true) ∧ w'.cell? (ad814.add ((Go.bits .or .i64 x11_1 (ji20))).toNat) = some (.bool false)) (ds:=[]) (mA 31 0) kR rfl rfl ⟨(blk_cell BK811.out 0).trans rfl,(blk_cell BK811.out 1).trans rfl,((HB.out.cell (World.block_lt_of_cell? w _ hw814_0)).trans hw814_0),((HB.out.cell (World.block_lt_of_cell? w _ hw815_0)).trans hw815_0)⟩ (fun hHeld=>?_);refine with_tabW impl_votes_isWorth.tab4 impl_votes_isWorth.bits4 (fun HT_ HW_=>?_)
              generalize wr.drew = w26 at BK811 HB hx814_0 hx815_0 hHeld ⊢
              refine pure_ (i:=0) (N:=some 14) (v:=?_) (a':=?_) (mA 31 1) rfl rfl (any_of HT_.out kR) (fun _ _ _ h=>h) (Or.inl ⟨by rfl,?_⟩) ?_ ?_;rotate_left
              ·intro w';go_simp
               with_reducible rfl
              rotate_left
              ·simp only [Act.put,sA,sZ,sS,i64_w,i32_w];rfl
              refine pure_ (i:=1) (N:=some 15) (v:=?_) (a':=?_) (mA 31 3) rfl rfl (any_of HT_.out kR) (fun _ _ _ h=>h) (Or.inl ⟨by rfl,?_⟩) ?_ ?_;rotate_left
              ·intro w';go_simp
               with_reducible rfl
              rotate_left
              ·simp only [Act.put,sA,sZ,sS,i64_w,i32_w];rfl
              refine one_ (i:=2) (N:=some 16) (mA 31 7) rfl rfl (one_of HT_.out kR) (by decide) (fun K hK=>?_);refine goes_ Try.func172 kR rfl #[.int .i64 x11_1,.int .i64 a1] (by rfl) rfl rfl mq ?_
              with_reducible refine (impl_has.calls x11_1 a1 false _ A7.out).mono ?_
              rintro e w' ⟨rfl,⟨nd,rfl⟩⟩
              refine ⟨_,rfl,?_⟩;refine hK.out _ _ ⟨(blk_cell BK811.out 0).trans rfl,(blk_cell BK811.out 1).trans rfl,((HB.out.cell (World.block_lt_of_cell? w _ hw814_0)).trans hw814_0),((HB.out.cell (World.block_lt_of_cell? w _ hw815_0)).trans hw815_0)⟩ (fun hHeld=>?_);clear hK K;refine norm_ (a':=?_) ?_ ?_;rotate_left
              ·show Act.put _ (some 16) _ = _;simp only [Act.put,sA,sZ,sS,i64_w,i32_w];rfl
              refine pure_ (i:=3) (N:=some 17) (v:=?_) (a':=?_) (mA 31 15) rfl rfl (any_of HT_.out kR) (fun _ _ _ h=>h) (Or.inl ⟨by rfl,?_⟩) ?_ ?_;rotate_left
              ·intro w';go_simp
               with_reducible rfl
              rotate_left
              ·simp only [Act.put,sA,sZ,sS,i64_w,i32_w];rfl
              refine pure_ (i:=4) (N:=some 18) (v:=?_) (a':=?_) (mA 31 31) rfl rfl (any_of HT_.out kR) (fun _ _ _ h=>h) (Or.inl ⟨by rfl,?_⟩) ?_ ?_;rotate_left
              ·intro w';go_simp
               with_reducible rfl
              rotate_left
              ·simp only [Act.put,sA,sZ,sS,i64_w,i32_w];rfl
              refine pure_ (i:=5) (N:=some 19) (v:=?_) (a':=?_) (mA 31 63) rfl rfl (any_of HT_.out kR) (fun _ _ _ h=>h) (Or.inl ⟨by rfl,?_⟩) ?_ ?_;rotate_left
              ·intro w';go_simp
               with_reducible rfl
              rotate_left
              ·simp only [Act.put,sA,sZ,sS,i64_w,i32_w];rfl
              refine pure_ (i:=6) (N:=some 20) (v:=?_) (a':=?_) (mA 31 127) rfl rfl (any_of HT_.out kR) (fun _ _ _ h=>h) (Or.inl ⟨by rfl,?_⟩) ?_ ?_;rotate_left
              ·intro w';go_simp
               with_reducible rfl
              rotate_left
              ·simp only [Act.put,sA,sZ,sS,i64_w,i32_w];rfl
              refine one_ (i:=7) (N:=some 21) (mA 31 255) rfl rfl (one_of HT_.out kR) (by decide) (fun K hK=>?_);refine goes_ Try.func172 kR rfl #[.int .i64 x11_1,.int .i64 a2] (by rfl) rfl rfl mq ?_
              with_reducible refine (impl_has.calls x11_1 a2 false _ A10.out).mono ?_
              rintro e w' ⟨rfl,⟨nd,rfl⟩⟩
              refine ⟨_,rfl,?_⟩;refine hK.out _ _ ⟨(blk_cell BK811.out 0).trans rfl,(blk_cell BK811.out 1).trans rfl,((HB.out.cell (World.block_lt_of_cell? w _ hw814_0)).trans hw814_0),((HB.out.cell (World.block_lt_of_cell? w _ hw815_0)).trans hw815_0)⟩ (fun hHeld=>?_);clear hK K;refine norm_ (a':=?_) ?_ ?_;rotate_left
              ·show Act.put _ (some 21) _ = _;simp only [Act.put,sA,sZ,sS,i64_w,i32_w];rfl
              refine pure_ (i:=8) (N:=some 22) (v:=?_) (a':=?_) (mA 31 511) rfl rfl (any_of HT_.out kR) (fun _ _ _ h=>h) (Or.inl ⟨by rfl,?_⟩) ?_ ?_;rotate_left
              ·intro w';go_simp
               with_reducible rfl
              rotate_left
              ·simp only [Act.put,sA,sZ,sS,i64_w,i32_w];rfl
              refine pure_ (i:=9) (N:=some 23) (v:=?_) (a':=?_) (mA 31 1023) rfl rfl (any_of HT_.out kR) (fun _ _ _ h=>h) (Or.inl ⟨by rfl,?_⟩) ?_ ?_;rotate_left
              ·intro w';go_simp
               with_reducible rfl
              rotate_left
              ·simp only [Act.put,sA,sZ,sS,i64_w,i32_w];rfl
              refine pure_ (i:=10) (N:=some 24) (v:=?_) (a':=?_) (mA 31 2047) rfl rfl (any_of HT_.out kR) (fun _ _ _ h=>h) (Or.inl ⟨by rfl,?_⟩) ?_ ?_;rotate_left
              ·intro w';go_simp
               with_reducible rfl
              rotate_left
              ·simp only [Act.put,sA,sZ,sS,i64_w,i32_w];rfl
              refine pure_ (i:=11) (N:=some 25) (v:=?_) (a':=?_) (mA 31 4095) rfl rfl (any_of HT_.out kR) (fun _ _ _ h=>h) (Or.inl ⟨by rfl,?_⟩) ?_ ?_;rotate_left
              ·intro w';go_simp
               with_reducible rfl
              rotate_left
              ·simp only [Act.put,sA,sZ,sS,i64_w,i32_w];rfl
              refine pure_ (i:=13) (N:=some 27) (v:=?_) (a':=?_) (mA 31 12287) rfl rfl (any_of HT_.out kR) (fun _ _ _ h=>h) (Or.inl ⟨by rfl,?_⟩) ?_ ?_;rotate_left
              ·intro w';go_simp
               with_reducible rfl
              rotate_left
              ·simp only [Act.put,sA,sZ,sS,i64_w,i32_w];rfl
              refine pure_ (i:=14) (N:=some 28) (v:=?_) (a':=?_) (mA 31 28671) rfl rfl (any_of HT_.out kR) (fun _ _ _ h=>h) (Or.inl ⟨by rfl,?_⟩) ?_ ?_;rotate_left
              ·intro w';go_simp
               with_reducible rfl
              rotate_left
              ·simp only [Act.put,sA,sZ,sS,i64_w,i32_w];rfl
              refine pure_ (i:=15) (N:=some 29) (v:=?_) (a':=?_) (mA 31 61439) rfl rfl (any_of HT_.out kR) (fun _ _ _ h=>h) (Or.inl ⟨by rfl,?_⟩) ?_ ?_;rotate_left
              ·intro w';go_simp
               with_reducible rfl
              rotate_left
              ·simp only [Act.put,sA,sZ,sS,i64_w,i32_w];rfl
              refine pure_ (i:=16) (N:=some 30) (v:=?_) (a':=?_) (mA 31 126975) rfl rfl (any_of HT_.out kR) (fun _ _ _ h=>h) (Or.inl ⟨by rfl,?_⟩) ?_ ?_;rotate_left
              ·intro w';go_simp
               with_reducible rfl
              rotate_left
              ·simp only [Act.put,sA,sZ,sS,i64_w,i32_w];rfl
              refine take_ (i:=12) (N:=some 26) (v:=?_) (a':=?_) (mA 31 131071) rfl rfl (take_ofW HT_.out HW_.out kR) (fun _ _ _ h=>h) (Or.inl ⟨by rfl,?_⟩) hHeld ?_ ?_;rotate_left
              ·rintro w' ⟨s0,s1,s2,s3⟩
               go_simp
               with_reducible rfl
              rotate_left
              ·simp only [Act.put,sA,sZ,sS,i64_w,i32_w];rfl
              refine pure_ (i:=17) (N:=some 31) (v:=?_) (a':=?_) (mA 31 262143) rfl rfl (any_of HT_.out kR) (fun _ _ _ h=>h) (Or.inl ⟨by rfl,?_⟩) ?_ ?_;rotate_left
              ·intro w';go_simp
               with_reducible rfl
              rotate_left
              ·simp only [Act.put,sA,sZ,sS,i64_w,i32_w];rfl
              refine take_ (i:=18) (N:=some 32) (v:=?_) (a':=?_) (mA 31 524287) rfl rfl (take_ofW HT_.out HW_.out kR) (fun _ _ _ h=>h) (Or.inl ⟨by rfl,?_⟩) hHeld ?_ ?_;rotate_left
              ·rintro w' ⟨s0,s1,s2,s3⟩
               go_simp
               with_reducible rfl
              rotate_left
              ·simp only [Act.put,sA,sZ,sS,i64_w,i32_w];rfl
              refine pure_ (i:=19) (N:=some 33) (v:=?_) (a':=?_) (mA 31 1048575) rfl rfl (any_of HT_.out kR) (fun _ _ _ h=>h) (Or.inl ⟨by rfl,?_⟩) ?_ ?_;rotate_left
              ·intro w';go_simp
               with_reducible rfl
              rotate_left
              ·simp only [Act.put,sA,sZ,sS,i64_w,i32_w];rfl
              refine pure_ (i:=20) (N:=some 34) (v:=?_) (a':=?_) (mA 31 2097151) rfl rfl (any_of HT_.out kR) (fun _ _ _ h=>h) (Or.inl ⟨by rfl,?_⟩) ?_ ?_;rotate_left
              ·intro w';go_simp
               with_reducible rfl
              rotate_left
              ·simp only [Act.put,sA,sZ,sS,i64_w,i32_w];rfl
              refine pure_ (i:=21) (N:=some 35) (v:=?_) (a':=?_) (mA 31 4194303) rfl rfl (any_of HT_.out kR) (fun _ _ _ h=>h) (Or.inl ⟨by rfl,?_⟩) ?_ ?_;rotate_left
              ·intro w';go_simp
               with_reducible rfl
              rotate_left
              ·simp only [Act.put,sA,sZ,sS,i64_w,i32_w];rfl
              refine pure_ (i:=23) (N:=some 37) (v:=?_) (a':=?_) (mA 31 12582911) rfl rfl (any_of HT_.out kR) (fun _ _ _ h=>h) (Or.inl ⟨by rfl,?_⟩) ?_ ?_;rotate_left
              ·intro w';go_simp
               with_reducible rfl
              rotate_left
              ·simp only [Act.put,sA,sZ,sS,i64_w,i32_w];rfl
              refine pure_ (i:=24) (N:=some 38) (v:=?_) (a':=?_) (mA 31 29360127) rfl rfl (any_of HT_.out kR) (fun _ _ _ h=>h) (Or.inl ⟨by rfl,?_⟩) ?_ ?_;rotate_left
              ·intro w';go_simp
               with_reducible rfl
              rotate_left
              ·simp only [Act.put,sA,sZ,sS,i64_w,i32_w];rfl
              refine pure_ (i:=25) (N:=some 39) (v:=?_) (a':=?_) (mA 31 62914559) rfl rfl (any_of HT_.out kR) (fun _ _ _ h=>h) (Or.inl ⟨by rfl,?_⟩) ?_ ?_;rotate_left
              ·intro w';go_simp
               with_reducible rfl
              rotate_left
              ·simp only [Act.put,sA,sZ,sS,i64_w,i32_w];rfl
              refine pure_ (i:=26) (N:=some 40) (v:=?_) (a':=?_) (mA 31 130023423) rfl rfl (any_of HT_.out kR) (fun _ _ _ h=>h) (Or.inl ⟨by rfl,?_⟩) ?_ ?_;rotate_left
              ·intro w';go_simp
               with_reducible rfl
              rotate_left
              ·simp only [Act.put,sA,sZ,sS,i64_w,i32_w];rfl
              refine take_ (i:=22) (N:=some 36) (v:=?_) (a':=?_) (mA 31 134217727) rfl rfl (take_ofW HT_.out HW_.out kR) (fun _ _ _ h=>h) (Or.inl ⟨by rfl,?_⟩) hHeld ?_ ?_;rotate_left
              ·rintro w' ⟨s0,s1,s2,s3⟩
               go_simp
               with_reducible rfl
              rotate_left
              ·simp only [Act.put,sA,sZ,sS,i64_w,i32_w];rfl
              refine pure_ (i:=27) (N:=some 41) (v:=?_) (a':=?_) (mA 31 268435455) rfl rfl (any_of HT_.out kR) (fun _ _ _ h=>h) (Or.inl ⟨by rfl,?_⟩) ?_ ?_;rotate_left
              ·intro w';go_simp
               with_reducible rfl
              rotate_left
              ·simp only [Act.put,sA,sZ,sS,i64_w,i32_w];rfl
              refine take_ (i:=28) (N:=some 42) (v:=?_) (a':=?_) (mA 31 536870911) rfl rfl (take_ofW HT_.out HW_.out kR) (fun _ _ _ h=>h) (Or.inl ⟨by rfl,?_⟩) hHeld ?_ ?_;rotate_left
              ·rintro w' ⟨s0,s1,s2,s3⟩
               go_simp
               with_reducible rfl
              rotate_left
              ·simp only [Act.put,sA,sZ,sS,i64_w,i32_w];rfl
              refine pure_ (i:=29) (N:=some 43) (v:=?_) (a':=?_) (mA 31 1073741823) rfl rfl (any_of HT_.out kR) (fun _ _ _ h=>h) (Or.inl ⟨by rfl,?_⟩) ?_ ?_;rotate_left
              ·intro w';go_simp
               with_reducible rfl
              rotate_left
              ·simp only [Act.put,sA,sZ,sS,i64_w,i32_w];rfl
              refine pure_ (i:=30) (N:=some 44) (v:=?_) (a':=?_) (mA 31 2147483647) rfl rfl (any_of HT_.out kR) (fun _ _ _ h=>h) (Or.inl ⟨by rfl,?_⟩) ?_ ?_;rotate_left
              ·intro w';go_simp
               with_reducible rfl
              rotate_left
              ·simp only [Act.put,sA,sZ,sS,i64_w,i32_w];rfl
              refine done_ (done_of HT_.out kR) ?_
              try go_wp2
              go_ret
              exact ⟨by first|rfl|(simp [errW_none,errW_some] <;> rfl)|(simp only [← hji14,← hji20];first|rfl|(simp [errW_none,errW_some] <;> rfl))|(simp [*,errW_none,errW_some] <;> rfl),by exact bw⟩
            ·rw [if_neg c22] at H;exact absurd H (by simp)
           ·rw [if_neg c21] at H;exact absurd H (by simp)
          ·rw [if_neg c19] at H;exact absurd H (by simp)
         ·replace c18:=Bool.eq_false_iff.mpr c18;subst c18;have H1:(impl_votes_isWorth.l0 k1 a1 a2 (l0_1.length:Int) (wrap64 (x11_1 + 1)) a0_0 l0_1) = some r:=by rw [if_neg (show ¬ (false = true) by decide)] at H;exact H
          clear H;have H:=H1;clear H1;have H':=aM H;clear H
          try go_wp2
          have n0_:=aM (blk_drew BK811.out);have n1_:=aM (below_drew1 HB.out);clear BK811;clear HB;have BK811:=n0_;have HB:=n1_;clear n0_ n1_;have p814:0 ≤ ((Go.bits .or .i64 x11_1 (ji14)):Int):=of_decide_eq_true ab;have q814:(Go.bits .or .i64 x11_1 (ji14)) < (l0_1.length:Int):=of_decide_eq_true ab;obtain ⟨ad814,e814,hx814_0⟩:=Kd.at_bool HR0_1.out (Go.bits .or .i64 x11_1 (ji14)) p814 q814;have hw814_0:=hx814_0;(try rw [← Nbq17.out] at hw814_0)
          (try rw [← Nbq17.out] at hx814_0)
          cases e814
          replace hx814_0:=(HB.out.cell (World.block_lt_of_cell? w _ hx814_0)).trans hx814_0;replace p814:=eq_true p814;replace q814:=eq_true q814;refine start_ (n:=31) (S:=fun w'=>w'.cell? ⟨gb811,0,none⟩ = some (.int .i64 a0_0) ∧ w'.cell? ⟨gb811,1,none⟩ = some (.slice (some ad814) l0_1.length c0_1) ∧ w'.cell? (ad814.add ((Go.bits .or .i64 x11_1 (ji14))).toNat) = some (.bool false)) (ds:=[]) (mA 31 0) kR rfl rfl ⟨(blk_cell BK811.out 0).trans rfl,(blk_cell BK811.out 1).trans rfl,((HB.out.cell (World.block_lt_of_cell? w _ hw814_0)).trans hw814_0)⟩ (fun hHeld=>?_);refine with_tabW impl_votes_isWorth.tab4 impl_votes_isWorth.bits4 (fun HT_ HW_=>?_)
          generalize wr.drew = w27 at BK811 HB hx814_0 hHeld ⊢
          refine pure_ (i:=0) (N:=some 14) (v:=?_) (a':=?_) (mA 31 1) rfl rfl (any_of HT_.out kR) (fun _ _ _ h=>h) (Or.inl ⟨by rfl,?_⟩) ?_ ?_;rotate_left
          ·intro w';go_simp
           with_reducible rfl
          rotate_left
          ·simp only [Act.put,sA,sZ,sS,i64_w,i32_w];rfl
          refine pure_ (i:=1) (N:=some 15) (v:=?_) (a':=?_) (mA 31 3) rfl rfl (any_of HT_.out kR) (fun _ _ _ h=>h) (Or.inl ⟨by rfl,?_⟩) ?_ ?_;rotate_left
          ·intro w';go_simp
           with_reducible rfl
          rotate_left
          ·simp only [Act.put,sA,sZ,sS,i64_w,i32_w];rfl
          refine one_ (i:=2) (N:=some 16) (mA 31 7) rfl rfl (one_of HT_.out kR) (by decide) (fun K hK=>?_);refine goes_ Try.func172 kR rfl #[.int .i64 x11_1,.int .i64 a1] (by rfl) rfl rfl mq ?_
          with_reducible refine (impl_has.calls x11_1 a1 false _ A7.out).mono ?_
          rintro e w' ⟨rfl,⟨nd,rfl⟩⟩
          refine ⟨_,rfl,?_⟩;refine hK.out _ _ ⟨(blk_cell BK811.out 0).trans rfl,(blk_cell BK811.out 1).trans rfl,((HB.out.cell (World.block_lt_of_cell? w _ hw814_0)).trans hw814_0)⟩ (fun hHeld=>?_);clear hK K;refine norm_ (a':=?_) ?_ ?_;rotate_left
          ·show Act.put _ (some 16) _ = _;simp only [Act.put,sA,sZ,sS,i64_w,i32_w];rfl
          refine pure_ (i:=3) (N:=some 17) (v:=?_) (a':=?_) (mA 31 15) rfl rfl (any_of HT_.out kR) (fun _ _ _ h=>h) (Or.inl ⟨by rfl,?_⟩) ?_ ?_;rotate_left
          ·intro w';go_simp
           with_reducible rfl
          rotate_left
          ·simp only [Act.put,sA,sZ,sS,i64_w,i32_w];rfl
          refine pure_ (i:=4) (N:=some 18) (v:=?_) (a':=?_) (mA 31 31) rfl rfl (any_of HT_.out kR) (fun _ _ _ h=>h) (Or.inl ⟨by rfl,?_⟩) ?_ ?_;rotate_left
          ·intro w';go_simp
           with_reducible rfl
          rotate_left
          ·simp only [Act.put,sA,sZ,sS,i64_w,i32_w];rfl
          refine pure_ (i:=5) (N:=some 19) (v:=?_) (a':=?_) (mA 31 63) rfl rfl (any_of HT_.out kR) (fun _ _ _ h=>h) (Or.inl ⟨by rfl,?_⟩) ?_ ?_;rotate_left
          ·intro w';go_simp
           with_reducible rfl
          rotate_left
          ·simp only [Act.put,sA,sZ,sS,i64_w,i32_w];rfl
          refine pure_ (i:=6) (N:=some 20) (v:=?_) (a':=?_) (mA 31 127) rfl rfl (any_of HT_.out kR) (fun _ _ _ h=>h) (Or.inl ⟨by rfl,?_⟩) ?_ ?_;rotate_left
          ·intro w';go_simp
           with_reducible rfl
          rotate_left
          ·simp only [Act.put,sA,sZ,sS,i64_w,i32_w];rfl
          refine one_ (i:=7) (N:=some 21) (mA 31 255) rfl rfl (one_of HT_.out kR) (by decide) (fun K hK=>?_);refine goes_ Try.func172 kR rfl #[.int .i64 x11_1,.int .i64 a2] (by rfl) rfl rfl mq ?_
          with_reducible refine (impl_has.calls x11_1 a2 false _ A10.out).mono ?_
          rintro e w' ⟨rfl,⟨nd,rfl⟩⟩
          refine ⟨_,rfl,?_⟩;refine hK.out _ _ ⟨(blk_cell BK811.out 0).trans rfl,(blk_cell BK811.out 1).trans rfl,((HB.out.cell (World.block_lt_of_cell? w _ hw814_0)).trans hw814_0)⟩ (fun hHeld=>?_);clear hK K;refine norm_ (a':=?_) ?_ ?_;rotate_left
          ·show Act.put _ (some 21) _ = _;simp only [Act.put,sA,sZ,sS,i64_w,i32_w];rfl
          refine pure_ (i:=8) (N:=some 22) (v:=?_) (a':=?_) (mA 31 511) rfl rfl (any_of HT_.out kR) (fun _ _ _ h=>h) (Or.inl ⟨by rfl,?_⟩) ?_ ?_;rotate_left
          ·intro w';go_simp
           with_reducible rfl
          rotate_left
          ·simp only [Act.put,sA,sZ,sS,i64_w,i32_w];rfl
          refine pure_ (i:=9) (N:=some 23) (v:=?_) (a':=?_) (mA 31 1023) rfl rfl (any_of HT_.out kR) (fun _ _ _ h=>h) (Or.inl ⟨by rfl,?_⟩) ?_ ?_;rotate_left
          ·intro w';go_simp
           with_reducible rfl
          rotate_left
          ·simp only [Act.put,sA,sZ,sS,i64_w,i32_w];rfl
          refine pure_ (i:=10) (N:=some 24) (v:=?_) (a':=?_) (mA 31 2047) rfl rfl (any_of HT_.out kR) (fun _ _ _ h=>h) (Or.inl ⟨by rfl,?_⟩) ?_ ?_;rotate_left
          ·intro w';go_simp
           with_reducible rfl
          rotate_left
          ·simp only [Act.put,sA,sZ,sS,i64_w,i32_w];rfl
          refine pure_ (i:=11) (N:=some 25) (v:=?_) (a':=?_) (mA 31 4095) rfl rfl (any_of HT_.out kR) (fun _ _ _ h=>h) (Or.inl ⟨by rfl,?_⟩) ?_ ?_;rotate_left
          ·intro w';go_simp
           with_reducible rfl
          rotate_left
          ·simp only [Act.put,sA,sZ,sS,i64_w,i32_w];rfl
          refine pure_ (i:=13) (N:=some 27) (v:=?_) (a':=?_) (mA 31 12287) rfl rfl (any_of HT_.out kR) (fun _ _ _ h=>h) (Or.inl ⟨by rfl,?_⟩) ?_ ?_;rotate_left
          ·intro w';go_simp
           with_reducible rfl
          rotate_left
          ·simp only [Act.put,sA,sZ,sS,i64_w,i32_w];rfl
          refine pure_ (i:=14) (N:=some 28) (v:=?_) (a':=?_) (mA 31 28671) rfl rfl (any_of HT_.out kR) (fun _ _ _ h=>h) (Or.inl ⟨by rfl,?_⟩) ?_ ?_;rotate_left
          ·intro w';go_simp
           with_reducible rfl
          rotate_left
          ·simp only [Act.put,sA,sZ,sS,i64_w,i32_w];rfl
          refine pure_ (i:=15) (N:=some 29) (v:=?_) (a':=?_) (mA 31 61439) rfl rfl (any_of HT_.out kR) (fun _ _ _ h=>h) (Or.inl ⟨by rfl,?_⟩) ?_ ?_;rotate_left
          ·intro w';go_simp
           with_reducible rfl
          rotate_left
          ·simp only [Act.put,sA,sZ,sS,i64_w,i32_w];rfl
          refine pure_ (i:=16) (N:=some 30) (v:=?_) (a':=?_) (mA 31 126975) rfl rfl (any_of HT_.out kR) (fun _ _ _ h=>h) (Or.inl ⟨by rfl,?_⟩) ?_ ?_;rotate_left
          ·intro w';go_simp
           with_reducible rfl
          rotate_left
          ·simp only [Act.put,sA,sZ,sS,i64_w,i32_w];rfl
          refine take_ (i:=12) (N:=some 26) (v:=?_) (a':=?_) (mA 31 131071) rfl rfl (take_ofW HT_.out HW_.out kR) (fun _ _ _ h=>h) (Or.inl ⟨by rfl,?_⟩) hHeld ?_ ?_;rotate_left
          ·rintro w' ⟨s0,s1,s2⟩
           go_simp
           with_reducible rfl
          rotate_left
          ·simp only [Act.put,sA,sZ,sS,i64_w,i32_w];rfl
          refine pure_ (i:=17) (N:=some 31) (v:=?_) (a':=?_) (mA 31 262143) rfl rfl (any_of HT_.out kR) (fun _ _ _ h=>h) (Or.inl ⟨by rfl,?_⟩) ?_ ?_;rotate_left
          ·intro w';go_simp
           with_reducible rfl
          rotate_left
          ·simp only [Act.put,sA,sZ,sS,i64_w,i32_w];rfl
          refine take_ (i:=18) (N:=some 32) (v:=?_) (a':=?_) (mA 31 524287) rfl rfl (take_ofW HT_.out HW_.out kR) (fun _ _ _ h=>h) (Or.inl ⟨by rfl,?_⟩) hHeld ?_ ?_;rotate_left
          ·rintro w' ⟨s0,s1,s2⟩
           go_simp
           with_reducible rfl
          rotate_left
          ·simp only [Act.put,sA,sZ,sS,i64_w,i32_w];rfl
          refine pure_ (i:=19) (N:=some 33) (v:=?_) (a':=?_) (mA 31 1048575) rfl rfl (any_of HT_.out kR) (fun _ _ _ h=>h) (Or.inl ⟨by rfl,?_⟩) ?_ ?_;rotate_left
          ·intro w';go_simp
           with_reducible rfl
          rotate_left
          ·simp only [Act.put,sA,sZ,sS,i64_w,i32_w];rfl
          refine pure_ (i:=20) (N:=some 34) (v:=?_) (a':=?_) (mA 31 2097151) rfl rfl (any_of HT_.out kR) (fun _ _ _ h=>h) (Or.inl ⟨by rfl,?_⟩) ?_ ?_;rotate_left
          ·intro w';go_simp
           with_reducible rfl
          rotate_left
          ·simp only [Act.put,sA,sZ,sS,i64_w,i32_w];rfl
          refine pure_ (i:=21) (N:=some 35) (v:=undef) (a':=?_) (mA 31 4194303) rfl rfl (any_of HT_.out kR) (fun _ _ _ h=>h) (Or.inr ⟨by rfl,rfl⟩) ?_ ?_;rotate_left
          ·simp only [Act.put,sA,sZ,sS,i64_w,i32_w];rfl
          refine pure_ (i:=22) (N:=some 36) (v:=undef) (a':=?_) (mA 31 8388607) rfl rfl (any_of HT_.out kR) (fun _ _ _ h=>h) (Or.inr ⟨by rfl,rfl⟩) ?_ ?_;rotate_left
          ·simp only [Act.put,sA,sZ,sS,i64_w,i32_w];rfl
          refine pure_ (i:=23) (N:=some 37) (v:=undef) (a':=?_) (mA 31 16777215) rfl rfl (any_of HT_.out kR) (fun _ _ _ h=>h) (Or.inr ⟨by rfl,rfl⟩) ?_ ?_;rotate_left
          ·simp only [Act.put,sA,sZ,sS,i64_w,i32_w];rfl
          refine pure_ (i:=24) (N:=some 38) (v:=undef) (a':=?_) (mA 31 33554431) rfl rfl (any_of HT_.out kR) (fun _ _ _ h=>h) (Or.inr ⟨by rfl,rfl⟩) ?_ ?_;rotate_left
          ·simp only [Act.put,sA,sZ,sS,i64_w,i32_w];rfl
          refine pure_ (i:=25) (N:=some 39) (v:=undef) (a':=?_) (mA 31 67108863) rfl rfl (any_of HT_.out kR) (fun _ _ _ h=>h) (Or.inr ⟨by rfl,rfl⟩) ?_ ?_;rotate_left
          ·simp only [Act.put,sA,sZ,sS,i64_w,i32_w];rfl
          refine pure_ (i:=26) (N:=some 40) (v:=undef) (a':=?_) (mA 31 134217727) rfl rfl (any_of HT_.out kR) (fun _ _ _ h=>h) (Or.inr ⟨by rfl,rfl⟩) ?_ ?_;rotate_left
          ·simp only [Act.put,sA,sZ,sS,i64_w,i32_w];rfl
          refine pure_ (i:=27) (N:=some 41) (v:=undef) (a':=?_) (mA 31 268435455) rfl rfl (any_of HT_.out kR) (fun _ _ _ h=>h) (Or.inr ⟨by rfl,rfl⟩) ?_ ?_;rotate_left
          ·simp only [Act.put,sA,sZ,sS,i64_w,i32_w];rfl
          refine pure_ (i:=28) (N:=some 42) (v:=undef) (a':=?_) (mA 31 536870911) rfl rfl (any_of HT_.out kR) (fun _ _ _ h=>h) (Or.inr ⟨by rfl,rfl⟩) ?_ ?_;rotate_left
          ·simp only [Act.put,sA,sZ,sS,i64_w,i32_w];rfl
          refine pure_ (i:=29) (N:=some 43) (v:=undef) (a':=?_) (mA 31 1073741823) rfl rfl (any_of HT_.out kR) (fun _ _ _ h=>h) (Or.inr ⟨by rfl,rfl⟩) ?_ ?_;rotate_left
          ·simp only [Act.put,sA,sZ,sS,i64_w,i32_w];rfl
          refine pure_ (i:=30) (N:=some 44) (v:=?_) (a':=?_) (mA 31 2147483647) rfl rfl (any_of HT_.out kR) (fun _ _ _ h=>h) (Or.inl ⟨by rfl,?_⟩) ?_ ?_;rotate_left
          ·intro w';go_simp
           with_reducible rfl
          rotate_left
          ·simp only [Act.put,sA,sZ,sS,i64_w,i32_w];rfl
          refine done_ (done_of HT_.out kR) ?_
          try go_wp2
          go_roundg k1
          case measure=>have:=HK1.out;omega
          case rel=>exact ⟨(wrap64 (x11_1 + 1)),qrs,H',⟨by have:=HK1.out;omega⟩,⟨by (with_reducible repeat (first|refine blk_drewN ?_ _|refine blk_drew ?_|refine blk_alloc ?_ _));exact BK811.out⟩,⟨by exact bw⟩⟩
        ·rw [if_neg c16] at H;exact absurd H (by simp)
       ·rw [if_neg c15] at H;exact absurd H (by simp)
      ·rw [if_neg c13] at H;exact absurd H (by simp)
   ·rw [if_neg c6] at H;have c6b0:decide (x11_1 < (l0_1.length:Int)) = false:=decide_eq_false c6;clear c6;obtain rfl:=Option.some.inj H;go_wp2
    go_ret
    exact ⟨by first|rfl|(simp [errW_none,errW_some] <;> rfl)|(simp [*,errW_none,errW_some] <;> rfl),by exact bw⟩


/-! ### spec_deWorth: function 102 -/
def spec_deWorth.l0:Nat → List Bool → Int → Int → Int → Int → Option (Bool)
 | 0,_,_,_,_,_=>none
 | k + 1,x0,x1,x2,x9,x10=>if x10 < x9 then (if 0 ≤ x1 then (if (Int.tmod (shr .i64 x10 x1) 2) = 0 then (if 0 ≤ x2 then (if (Int.tmod (shr .i64 x10 x2) 2) = 0 then (if 0 ≤ (wrap64 (x10 + (shl .i64 1 x2))) then (if (wrap64 (x10 + (shl .i64 1 x2))) < (x0.length:Int) then (if rdOf false x0 (wrap64 (x10 + (shl .i64 1 x2))) = true then (if 0 ≤ (wrap64 (x10 + (shl .i64 1 x1))) then (if (wrap64 (x10 + (shl .i64 1 x1))) < (x0.length:Int) then (if (rdOf false x0 (wrap64 (x10 + (shl .i64 1 x1))) = true) then (spec_deWorth.l0 k x0 x1 x2 x9 (wrap64 (x10 + 1))) else (some false)) else (none)) else (none)) else (spec_deWorth.l0 k x0 x1 x2 x9 (wrap64 (x10 + 1)))) else (none)) else (none)) else (spec_deWorth.l0 k x0 x1 x2 x9 (wrap64 (x10 + 1)))) else (none)) else (spec_deWorth.l0 k x0 x1 x2 x9 (wrap64 (x10 + 1)))) else (none)) else (some true)
def spec_deWorth.f (k:Nat) (l0:List Bool) (a1:Int) (a2:Int):Option (Bool):=spec_deWorth.l0 k l0 a1 a2 (l0.length:Int) 0
theorem spec_deWorth.mono_l:∀ k,(∀ y0 y1 y2 y3 y4,LeO (spec_deWorth.l0 k y0 y1 y2 y3 y4) (spec_deWorth.l0 (k + 1) y0 y1 y2 y3 y4))
 | 0=>fun _ _ _ _ _ r h=>by simp [spec_deWorth.l0] at h
 | k + 1=>by
  have ih0:=spec_deWorth.mono_l k
  ·intro y0 y1 y2 y3 y4;unfold spec_deWorth.l0
   repeat' with_reducible first|exact ih0 _ _ _ _ _|exact LeO.refl _|exact LeO.none _|refine LeO.ite ?_ ?_|refine LeO.bind ?_ (fun _=>?_)
theorem spec_deWorth.mono:∀ a0 a1 a2 k,LeO (spec_deWorth.f k a0 a1 a2) (spec_deWorth.f (k + 1) a0 a1 a2):=by
 intro a0 a1 a2 k;have ih0:=spec_deWorth.mono_l k;unfold spec_deWorth.f
 repeat' with_reducible first|exact ih0 _ _ _ _ _|exact LeO.refl _|exact LeO.none _|refine LeO.ite ?_ ?_|refine LeO.bind ?_ (fun _=>?_)
set_option maxHeartbeats 8000000 in
set_option maxRecDepth 100000 in
theorem spec_deWorth.calls (k:Nat) (A0:Option Addr) (c0:Nat) (l0:List Bool) (a1:Int) (a2:Int) (r:Bool) (w:World) (hr0:Kd.C Kd.bool w A0 l0.length l0) (hc0:l0.length ≤ c0) (h:spec_deWorth.f k l0 a1 a2 = some r) :
  Calls Try.prog 102 #[.slice A0 l0.length c0,.int .i64 a1,.int .i64 a2] w fun e w'=>e = .returned (.bool r) ∧ Drawn0 w w':=by
 have HR0:=aM hr0;have HC0:=aM hc0;clear hr0 hc0;have H:(spec_deWorth.l0 k l0 a1 a2 (l0.length:Int) 0) = some r:=h;clear h;have H':=aM H;clear H;go_enter Try.func102,Try.ntmps102;go_wp2
 go_loopg [10] k (fun kq v10 w'=>∃ (x10_1:Int),v10 = .int .i64 x10_1 ∧ Aside0 (spec_deWorth.l0 kq l0 a1 a2 (l0.length:Int) x10_1 = some r) ∧ Aside0 (kq ≤ k) ∧ Drawn0 w w')
 case atStart=>exact ⟨(0),qrs,H',⟨Nat.le_refl _⟩,by repeat (first|exact Drawn0.refl _|apply Drawn0.step)⟩
 case round =>
  clear H';(try clear c1);(try clear p2)
  obtain ⟨x10_1,rfl,HA,HK1,⟨m1,rfl⟩⟩:=hrel
  cases gk with
  | zero=>exact absurd HA.out (by simp [spec_deWorth.l0])
  | succ k1 =>
   have H:=HA.out;clear HA;simp only [spec_deWorth.l0] at H;by_cases c4:x10_1 < (l0.length:Int)
   ·rw [if_pos c4] at H;have c4b0:decide (x10_1 < (l0.length:Int)) = true:=decide_eq_true c4;clear c4;by_cases c5:0 ≤ a1
    ·rw [if_pos c5] at H;have c5b0:=eq_true c5;have c5b1:decide (0 ≤ a1) = true:=decide_eq_true c5;clear c5;obtain ⟨ji6,hji6⟩:∃ j_:Int,(shr .i64 x10_1 a1) = j_:=⟨_,rfl⟩;replace H:(if (Int.tmod (ji6) 2) = 0 then (if 0 ≤ a2 then (if (Int.tmod (shr .i64 x10_1 a2) 2) = 0 then (if 0 ≤ (wrap64 (x10_1 + (shl .i64 1 a2))) then (if (wrap64 (x10_1 + (shl .i64 1 a2))) < (l0.length:Int) then (if rdOf false l0 (wrap64 (x10_1 + (shl .i64 1 a2))) = true then (if 0 ≤ (wrap64 (x10_1 + (shl .i64 1 a1))) then (if (wrap64 (x10_1 + (shl .i64 1 a1))) < (l0.length:Int) then (if (rdOf false l0 (wrap64 (x10_1 + (shl .i64 1 a1))) = true) then (spec_deWorth.l0 k1 l0 a1 a2 (l0.length:Int) (wrap64 (x10_1 + 1))) else (some false)) else (none)) else (none)) else (spec_deWorth.l0 k1 l0 a1 a2 (l0.length:Int) (wrap64 (x10_1 + 1)))) else (none)) else (none)) else (spec_deWorth.l0 k1 l0 a1 a2 (l0.length:Int) (wrap64 (x10_1 + 1)))) else (none)) else (spec_deWorth.l0 k1 l0 a1 a2 (l0.length:Int) (wrap64 (x10_1 + 1)))) = some r:=by first|(rw [hji6] at H;exact H)|(simp only [hji6] at H ⊢;exact H)
     have hji6_:(x10_1 / 2 ^ min a1.toNat 64) = ji6:=hji6;have hji6z:a1 ≤ 64 → (x10_1 / 2 ^ a1.toNat) = ji6:=shr_small hji6;by_cases c7:(Int.tmod (ji6) 2) = 0
     ·rw [if_pos c7] at H;have c7b0:((Int.tmod (ji6) 2) == 0) = true:=beq_iff_eq.mpr c7;have c7b1:((Int.tmod (ji6) 2) != 0) = false:=bne_eq_false_iff_eq.mpr c7;clear c7;by_cases c8:0 ≤ a2
      ·rw [if_pos c8] at H;have c8b0:=eq_true c8;have c8b1:decide (0 ≤ a2) = true:=decide_eq_true c8;clear c8;obtain ⟨ji9,hji9⟩:∃ j_:Int,(shr .i64 x10_1 a2) = j_:=⟨_,rfl⟩;replace H:(if (Int.tmod (ji9) 2) = 0 then (if 0 ≤ (wrap64 (x10_1 + (shl .i64 1 a2))) then (if (wrap64 (x10_1 + (shl .i64 1 a2))) < (l0.length:Int) then (if rdOf false l0 (wrap64 (x10_1 + (shl .i64 1 a2))) = true then (if 0 ≤ (wrap64 (x10_1 + (shl .i64 1 a1))) then (if (wrap64 (x10_1 + (shl .i64 1 a1))) < (l0.length:Int) then (if (rdOf false l0 (wrap64 (x10_1 + (shl .i64 1 a1))) = true) then (spec_deWorth.l0 k1 l0 a1 a2 (l0.length:Int) (wrap64 (x10_1 + 1))) else (some false)) else (none)) else (none)) else (spec_deWorth.l0 k1 l0 a1 a2 (l0.length:Int) (wrap64 (x10_1 + 1)))) else (none)) else (none)) else (spec_deWorth.l0 k1 l0 a1 a2 (l0.length:Int) (wrap64 (x10_1 + 1)))) = some r:=by first|(rw [hji9] at H;exact H)|(simp only [hji9] at H ⊢;exact H)
       have hji9_:(x10_1 / 2 ^ min a2.toNat 64) = ji9:=hji9;have hji9z:a2 ≤ 64 → (x10_1 / 2 ^ a2.toNat) = ji9:=shr_small hji9;by_cases c10:(Int.tmod (ji9) 2) = 0
       ·rw [if_pos c10] at H;have c10b0:((Int.tmod (ji9) 2) == 0) = true:=beq_iff_eq.mpr c10;have c10b1:((Int.tmod (ji9) 2) != 0) = false:=bne_eq_false_iff_eq.mpr c10;clear c10;have c11b0:=eq_true (of_decide_eq_true ab:0 ≤ a2);obtain ⟨ji12,hji12⟩:∃ j_:Int,(shl .i64 1 a2) = j_:=⟨_,rfl⟩;replace H:(if 0 ≤ (wrap64 (x10_1 + (ji12))) then (if (wrap64 (x10_1 + (ji12))) < (l0.length:Int) then (if rdOf false l0 (wrap64 (x10_1 + (ji12))) = true then (if 0 ≤ (wrap64 (x10_1 + (shl .i64 1 a1))) then (if (wrap64 (x10_1 + (shl .i64 1 a1))) < (l0.length:Int) then (if (rdOf false l0 (wrap64 (x10_1 + (shl .i64 1 a1))) = true) then (spec_deWorth.l0 k1 l0 a1 a2 (l0.length:Int) (wrap64 (x10_1 + 1))) else (some false)) else (none)) else (none)) else (spec_deWorth.l0 k1 l0 a1 a2 (l0.length:Int) (wrap64 (x10_1 + 1)))) else (none)) else (none)) = some r:=by first|(rw [hji12] at H;exact H)|(simp only [hji12] at H ⊢;exact H)
        have hji12_:(IntKind.i64.wrap (1 * 2 ^ min a2.toNat 64)) = ji12:=hji12;have hji12z:a2 ≤ 64 → (IntKind.i64.wrap (1 * 2 ^ a2.toNat)) = ji12:=shl_small hji12;have hji12u:(IntKind.i64.wrap (2 ^ min a2.toNat 64)) = ji12:=by have h_:=hji12_;rw [Int.one_mul] at h_;exact h_
        have hji12v:a2 ≤ 64 → (IntKind.i64.wrap (2 ^ a2.toNat)) = ji12:=fun hle_=>by have h_:=hji12z hle_;rw [Int.one_mul] at h_;exact h_
        have hji12y:(wrap64 (1 * 2 ^ min a2.toNat 64)) = ji12:=(i64_w _).symm.trans hji12_;have hji12x:a2 ≤ 64 → (wrap64 (1 * 2 ^ a2.toNat)) = ji12:=fun h_=>(i64_w _).symm.trans (hji12z h_)
        obtain ⟨ji13,hji13⟩:∃ j_:Int,(wrap64 (x10_1 + (ji12))) = j_:=⟨_,rfl⟩;replace H:(if 0 ≤ (ji13) then (if (ji13) < (l0.length:Int) then (if rdOf false l0 (ji13) = true then (if 0 ≤ (wrap64 (x10_1 + (shl .i64 1 a1))) then (if (wrap64 (x10_1 + (shl .i64 1 a1))) < (l0.length:Int) then (if (rdOf false l0 (wrap64 (x10_1 + (shl .i64 1 a1))) = true) then (spec_deWorth.l0 k1 l0 a1 a2 (l0.length:Int) (wrap64 (x10_1 + 1))) else (some false)) else (none)) else (none)) else (spec_deWorth.l0 k1 l0 a1 a2 (l0.length:Int) (wrap64 (x10_1 + 1)))) else (none)) else (none)) = some r:=by first|(rw [hji13] at H;exact H)|(simp only [hji13] at H ⊢;exact H)
        have hji13w:(IntKind.i64.wrap (x10_1 + (ji12))) = ji13:=(i64_w _).trans hji13;by_cases c14:0 ≤ (ji13)
        ·rw [if_pos c14] at H;have c14b0:decide (0 ≤ (ji13)) = true:=decide_eq_true c14;clear c14;by_cases c15:(ji13) < (l0.length:Int)
         ·rw [if_pos c15] at H;have c15b0:decide ((ji13) < (l0.length:Int)) = true:=decide_eq_true c15;clear c15;obtain ⟨bq16,hbq16⟩:∃ b_:Bool,b_ = (rdOf false l0 (ji13)):=⟨_,rfl⟩;replace H:(if bq16 = true then (if 0 ≤ (wrap64 (x10_1 + (shl .i64 1 a1))) then (if (wrap64 (x10_1 + (shl .i64 1 a1))) < (l0.length:Int) then (if (rdOf false l0 (wrap64 (x10_1 + (shl .i64 1 a1))) = true) then (spec_deWorth.l0 k1 l0 a1 a2 (l0.length:Int) (wrap64 (x10_1 + 1))) else (some false)) else (none)) else (none)) else (spec_deWorth.l0 k1 l0 a1 a2 (l0.length:Int) (wrap64 (x10_1 + 1)))) = some r:=by rw [← hbq16] at H;exact H
          have Nbq16:=aM hbq16;clear hbq16;by_cases c17:bq16 = true
          ·subst c17;have H1:(if 0 ≤ (wrap64 (x10_1 + (shl .i64 1 a1))) then (if (wrap64 (x10_1 + (shl .i64 1 a1))) < (l0.length:Int) then (if (rdOf false l0 (wrap64 (x10_1 + (shl .i64 1 a1))) = true) then (spec_deWorth.l0 k1 l0 a1 a2 (l0.length:Int) (wrap64 (x10_1 + 1))) else (some false)) else (none)) else (none)) = some r:=by rw [if_pos rfl] at H;exact H
           clear H;have H:=H1;clear H1;have c18b0:=eq_true (of_decide_eq_true ab:0 ≤ a1);obtain ⟨ji19,hji19⟩:∃ j_:Int,(shl .i64 1 a1) = j_:=⟨_,rfl⟩;replace H:(if 0 ≤ (wrap64 (x10_1 + (ji19))) then (if (wrap64 (x10_1 + (ji19))) < (l0.length:Int) then (if (rdOf false l0 (wrap64 (x10_1 + (ji19))) = true) then (spec_deWorth.l0 k1 l0 a1 a2 (l0.length:Int) (wrap64 (x10_1 + 1))) else (some false)) else (none)) else (none)) = some r:=by first|(rw [hji19] at H;exact H)|(simp only [hji19] at H ⊢;exact H)
           have hji19_:(IntKind.i64.wrap (1 * 2 ^ min a1.toNat 64)) = ji19:=hji19;have hji19z:a1 ≤ 64 → (IntKind.i64.wrap (1 * 2 ^ a1.toNat)) = ji19:=shl_small hji19;have hji19u:(IntKind.i64.wrap (2 ^ min a1.toNat 64)) = ji19:=by have h_:=hji19_;rw [Int.one_mul] at h_;exact h_
           have hji19v:a1 ≤ 64 → (IntKind.i64.wrap (2 ^ a1.toNat)) = ji19:=fun hle_=>by have h_:=hji19z hle_;rw [Int.one_mul] at h_;exact h_
           have hji19y:(wrap64 (1 * 2 ^ min a1.toNat 64)) = ji19:=(i64_w _).symm.trans hji19_;have hji19x:a1 ≤ 64 → (wrap64 (1 * 2 ^ a1.toNat)) = ji19:=fun h_=>(i64_w _).symm.trans (hji19z h_)
           obtain ⟨ji20,hji20⟩:∃ j_:Int,(wrap64 (x10_1 + (ji19))) = j_:=⟨_,rfl⟩;replace H:(if 0 ≤ (ji20) then (if (ji20) < (l0.length:Int) then (if (rdOf false l0 (ji20) = true) then (spec_deWorth.l0 k1 l0 a1 a2 (l0.length:Int) (wrap64 (x10_1 + 1))) else (some false)) else (none)) else (none)) = some r:=by first|(rw [hji20] at H;exact H)|(simp only [hji20] at H ⊢;exact H)
           have hji20w:(IntKind.i64.wrap (x10_1 + (ji19))) = ji20:=(i64_w _).trans hji20;by_cases c21:0 ≤ (ji20)
           ·rw [if_pos c21] at H;have c21b0:decide (0 ≤ (ji20)) = true:=decide_eq_true c21;clear c21;by_cases c22:(ji20) < (l0.length:Int)
            ·rw [if_pos c22] at H;have c22b0:decide ((ji20) < (l0.length:Int)) = true:=decide_eq_true c22;clear c22;obtain ⟨bq23,hbq23⟩:∃ b_:Bool,b_ = (rdOf false l0 (ji20)):=⟨_,rfl⟩;replace H:(if (bq23 = true) then (spec_deWorth.l0 k1 l0 a1 a2 (l0.length:Int) (wrap64 (x10_1 + 1))) else (some false)) = some r:=by rw [← hbq23] at H;exact H
             have Nbq23:=aM hbq23;clear hbq23;by_cases c24:(bq23 = true)
             ·subst c24;have H1:(spec_deWorth.l0 k1 l0 a1 a2 (l0.length:Int) (wrap64 (x10_1 + 1))) = some r:=by rw [if_pos rfl] at H;exact H
              clear H;have H:=H1;clear H1;have H':=aM H;clear H;have p733:0 ≤ ((ji13):Int):=of_decide_eq_true ab;have q733:(ji13) < (l0.length:Int):=of_decide_eq_true ab;obtain ⟨ad733,e733,hx733_0⟩:=Kd.at_bool HR0.out (ji13) p733 q733;(try rw [← Nbq16.out] at hx733_0)
              (try rw [← Nbq23.out] at hx733_0)
              cases e733
              replace p733:=eq_true p733;replace q733:=eq_true q733;have p734:0 ≤ ((ji20):Int):=of_decide_eq_true ab;have q734:(ji20) < (l0.length:Int):=of_decide_eq_true ab;obtain ⟨ad734,e734,hx734_0⟩:=Kd.at_bool HR0.out (ji20) p734 q734;(try rw [← Nbq16.out] at hx734_0)
              (try rw [← Nbq23.out] at hx734_0)
              obtain rfl:ad733 = ad734:=(by injection e734);replace p734:=eq_true p734;replace q734:=eq_true q734;go_wp2
              go_roundg k1
              case measure=>have:=HK1.out;omega
              case rel=>exact ⟨(wrap64 (x10_1 + 1)),qrs,H',⟨by have:=HK1.out;omega⟩,by repeat (first|exact Drawn0.refl _|apply Drawn0.step)⟩
             ·replace c24:=Bool.eq_false_iff.mpr c24;subst c24;have H1:(some false) = some r:=by rw [if_neg (show ¬ (false = true) by decide)] at H;exact H
              clear H;have H:=H1;clear H1;obtain rfl:=Option.some.inj H;have p733:0 ≤ ((ji13):Int):=of_decide_eq_true ab;have q733:(ji13) < (l0.length:Int):=of_decide_eq_true ab;obtain ⟨ad733,e733,hx733_0⟩:=Kd.at_bool HR0.out (ji13) p733 q733;(try rw [← Nbq16.out] at hx733_0)
              (try rw [← Nbq23.out] at hx733_0)
              cases e733
              replace p733:=eq_true p733;replace q733:=eq_true q733;have p734:0 ≤ ((ji20):Int):=of_decide_eq_true ab;have q734:(ji20) < (l0.length:Int):=of_decide_eq_true ab;obtain ⟨ad734,e734,hx734_0⟩:=Kd.at_bool HR0.out (ji20) p734 q734;(try rw [← Nbq16.out] at hx734_0)
              (try rw [← Nbq23.out] at hx734_0)
              obtain rfl:ad733 = ad734:=(by injection e734);replace p734:=eq_true p734;replace q734:=eq_true q734;go_wp2
              go_ret
              exact ⟨by first|rfl|(simp;done)|(simp only [← hji6,← hji9,← hji12,← hji13,← hji19,← hji20] <;> (first|rfl|simp))|(simp [*];done),by repeat (first|exact Drawn0.refl _|apply Drawn0.step)⟩
            ·rw [if_neg c22] at H;exact absurd H (by simp)
           ·rw [if_neg c21] at H;exact absurd H (by simp)
          ·replace c17:=Bool.eq_false_iff.mpr c17;subst c17;have H1:(spec_deWorth.l0 k1 l0 a1 a2 (l0.length:Int) (wrap64 (x10_1 + 1))) = some r:=by rw [if_neg (show ¬ (false = true) by decide)] at H;exact H
           clear H;have H:=H1;clear H1;have H':=aM H;clear H;have p733:0 ≤ ((ji13):Int):=of_decide_eq_true ab;have q733:(ji13) < (l0.length:Int):=of_decide_eq_true ab;obtain ⟨ad733,e733,hx733_0⟩:=Kd.at_bool HR0.out (ji13) p733 q733;(try rw [← Nbq16.out] at hx733_0)
           cases e733
           replace p733:=eq_true p733;replace q733:=eq_true q733;go_wp2
           go_roundg k1
           case measure=>have:=HK1.out;omega
           case rel=>exact ⟨(wrap64 (x10_1 + 1)),qrs,H',⟨by have:=HK1.out;omega⟩,by repeat (first|exact Drawn0.refl _|apply Drawn0.step)⟩
         ·rw [if_neg c15] at H;exact absurd H (by simp)
        ·rw [if_neg c14] at H;exact absurd H (by simp)
       ·rw [if_neg c10] at H;have c10b0:((Int.tmod (ji9) 2) == 0) = false:=beq_eq_false_iff_ne.mpr c10;have c10b1:((Int.tmod (ji9) 2) != 0) = true:=bne_iff_ne.mpr c10;have H':=aM H;clear H;go_wp2
        go_roundg k1
        case measure=>have:=HK1.out;omega
        case rel=>exact ⟨(wrap64 (x10_1 + 1)),qrs,H',⟨by have:=HK1.out;omega⟩,by repeat (first|exact Drawn0.refl _|apply Drawn0.step)⟩
      ·rw [if_neg c8] at H;exact absurd H (by simp)
     ·rw [if_neg c7] at H;have c7b0:((Int.tmod (ji6) 2) == 0) = false:=beq_eq_false_iff_ne.mpr c7;have c7b1:((Int.tmod (ji6) 2) != 0) = true:=bne_iff_ne.mpr c7;have H':=aM H;clear H;go_wp2
      go_roundg k1
      case measure=>have:=HK1.out;omega
      case rel=>exact ⟨(wrap64 (x10_1 + 1)),qrs,H',⟨by have:=HK1.out;omega⟩,by repeat (first|exact Drawn0.refl _|apply Drawn0.step)⟩
    ·rw [if_neg c5] at H;exact absurd H (by simp)
   ·rw [if_neg c4] at H;have c4b0:decide (x10_1 < (l0.length:Int)) = false:=decide_eq_false c4;clear c4;obtain rfl:=Option.some.inj H;go_wp2
    go_ret
    exact ⟨by first|rfl|(simp;done)|(simp [*];done),by repeat (first|exact Drawn0.refl _|apply Drawn0.step)⟩


/-! ### impl_votes_isComplete: function 136 -/
mutual
def impl_votes_isComplete.l0:Nat → Int → Int → Int → List Bool → Option (Bool)
 | 0,_,_,_,_=>none
 | k + 1,x6,x7,x1629000,x1629001=>if x7 < x6 then (impl_votes_isComplete.l1 k x7 x6 x7 x7 0 x1629000 x1629001) else (some true)
def impl_votes_isComplete.l1:Nat → Int → Int → Int → Int → Int → Int → List Bool → Option (Bool)
 | 0,_,_,_,_,_,_,_=>none
 | k + 1,x3,x6,x7,x10,x11,x1629000,x1629001=>if x11 < x10 then ((impl_votes_isWorth.f k x1629000 x1629001 x3 x11).bind fun t1629=>(if t1629 = true then (impl_votes_isComplete.l1 k x3 x6 x7 x10 (wrap64 (x11 + 1)) x1629000 x1629001) else ((impl_votes_isWorth.f k x1629000 x1629001 x11 x3).bind fun t1630=>(if t1630 = true then (impl_votes_isComplete.l1 k x3 x6 x7 x10 (wrap64 (x11 + 1)) x1629000 x1629001) else (some false))))) else (impl_votes_isComplete.l0 k x6 (wrap64 (x7 + 1)) x1629000 x1629001)
end
def impl_votes_isComplete.f (k:Nat) (a0_0:Int) (l0_1:List Bool):Option (Bool):=impl_votes_isComplete.l0 k a0_0 0 a0_0 l0_1
theorem impl_votes_isComplete.mono_l:∀ k,(∀ y0 y1 y2 y3,LeO (impl_votes_isComplete.l0 k y0 y1 y2 y3) (impl_votes_isComplete.l0 (k + 1) y0 y1 y2 y3)) ∧ (∀ y0 y1 y2 y3 y4 y5 y6,LeO (impl_votes_isComplete.l1 k y0 y1 y2 y3 y4 y5 y6) (impl_votes_isComplete.l1 (k + 1) y0 y1 y2 y3 y4 y5 y6))
 | 0=>⟨fun _ _ _ _ r h=>by simp [impl_votes_isComplete.l0] at h,fun _ _ _ _ _ _ _ r h=>by simp [impl_votes_isComplete.l1] at h⟩
 | k + 1=>by
  obtain ⟨ih0,ih1⟩:=impl_votes_isComplete.mono_l k;refine ⟨?_,?_⟩
  ·intro y0 y1 y2 y3;unfold impl_votes_isComplete.l0
   repeat' with_reducible first|exact ih0 _ _ _ _|exact ih1 _ _ _ _ _ _ _|exact impl_votes_isWorth.mono _ _ _ _ _|exact LeO.refl _|exact LeO.none _|refine LeO.ite ?_ ?_|refine LeO.bind ?_ (fun _=>?_)
  ·intro y0 y1 y2 y3 y4 y5 y6;unfold impl_votes_isComplete.l1
   repeat' with_reducible first|exact ih0 _ _ _ _|exact ih1 _ _ _ _ _ _ _|exact impl_votes_isWorth.mono _ _ _ _ _|exact LeO.refl _|exact LeO.none _|refine LeO.ite ?_ ?_|refine LeO.bind ?_ (fun _=>?_)
theorem impl_votes_isComplete.mono:∀ a0 a1 k,LeO (impl_votes_isComplete.f k a0 a1) (impl_votes_isComplete.f (k + 1) a0 a1):=by
 intro a0 a1 k;obtain ⟨ih0,ih1⟩:=impl_votes_isComplete.mono_l k;unfold impl_votes_isComplete.f
 repeat' with_reducible first|exact ih0 _ _ _ _|exact ih1 _ _ _ _ _ _ _|exact impl_votes_isWorth.mono _ _ _ _ _|exact LeO.refl _|exact LeO.none _|refine LeO.ite ?_ ?_|refine LeO.bind ?_ (fun _=>?_)
set_option maxHeartbeats 8000000 in
set_option maxRecDepth 100000 in
theorem impl_votes_isComplete.calls (k:Nat) (a0_0:Int) (A0_1:Option Addr) (c0_1:Nat) (l0_1:List Bool) (r:Bool) (w:World) (hr0_1:Kd.C Kd.bool w A0_1 l0_1.length l0_1) (hc0_1:l0_1.length ≤ c0_1) (h:impl_votes_isComplete.f k a0_0 l0_1 = some r) :
  Calls Try.prog 136 #[.agg #[.int .i64 a0_0,.slice A0_1 l0_1.length c0_1]] w fun e w'=>e = .returned (.bool r) ∧ Below w.heap.size w w':=by
 have hu94:=Try.underlying94;have HR0_1:=aM hr0_1;have HC0_1:=aM hc0_1;clear hr0_1 hc0_1;have HB:=aM (Below.refl w.heap.size w);have H:(impl_votes_isComplete.l0 k a0_0 0 a0_0 l0_1) = some r:=h;clear h;have H':=aM H;clear H;go_enter Try.func136,Try.ntmps136;go_wp2_with (first|((with_reducible refine gate_dst (N:=1) rfl ?_);refine box_event ?hg (N:=1) ?hd (cs:=#[.int .i64 a0_0,.slice A0_1 l0_1.length c0_1]) (t:=94) ?hr ?_;(case hd=>rfl);(case hg=>rfl);(case hr=>first|(go_simp;done)|(go_simp;rfl));intro gb1628 hg w2 hbox hb;have n0_:=aM (below_step bw hb);have n1_:=aM (hbox);have n2_:=aM ((by rw [hg];exact (below_size bw):w.heap.size ≤ gb1628));have n3_:=aM ((by rw [hg];exact (below_size bw):w.heap.size ≤ gb1628));clear HB;have HB:=n0_;have BK1628:=n1_;have GW1628:=n2_;have GE1628:=n3_;clear n0_ n1_ n2_ n3_;clear hb hbox hg;have hcz3_0:w2.cell? ⟨gb1628,0,none⟩ = some (.int .i64 a0_0):=(blk_cell BK1628.out 0).trans rfl;have hcz3_1:w2.cell? ⟨gb1628,1,none⟩ = some (.slice A0_1 l0_1.length c0_1):=(blk_cell BK1628.out 1).trans rfl;have hfz3_0:=blk_frozen BK1628.out 0;have hfz3_1:=blk_frozen BK1628.out 1))
 go_loopg [7] k (fun kq v7 w'=>∃ (x7_1:Int),v7 = .int .i64 x7_1 ∧ Aside0 (impl_votes_isComplete.l0 kq a0_0 x7_1 a0_0 l0_1 = some r) ∧ Aside0 (kq ≤ k) ∧ Aside0 (w'.heap[gb1628]? = some (.cells #[.int .i64 a0_0,(.slice A0_1 l0_1.length c0_1)] 94 (0,0))) ∧ Aside0 (Below w.heap.size w w'))
 case atStart=>exact ⟨(0),qrs,H',⟨Nat.le_refl _⟩,⟨by (with_reducible repeat (first|refine blk_drewN ?_ _|refine blk_drew ?_|refine blk_alloc ?_ _));exact BK1628.out⟩,⟨by exact bw⟩⟩
 case round =>
  clear H';(try clear c1);(try clear p2);(try clear hcz3_0);(try clear hcz3_1);(try clear hfz3_0);(try clear hfz3_1)
  obtain ⟨x7_1,rfl,HA,HK1,BK1628,HB⟩:=hrel
  cases gk with
  | zero=>exact absurd HA.out (by simp [impl_votes_isComplete.l0])
  | succ k1 =>
   have H:=HA.out;clear HA;simp only [impl_votes_isComplete.l0] at H;by_cases c4:x7_1 < a0_0
   ·rw [if_pos c4] at H;have c4b0:decide (x7_1 < a0_0) = true:=decide_eq_true c4;clear c4;have H':=aM H;clear H;go_wp2
    go_loopg [11] k1 (fun kq v11 w'=>∃ (x11_2:Int),v11 = .int .i64 x11_2 ∧ Aside0 (impl_votes_isComplete.l1 kq x7_1 a0_0 x7_1 x7_1 x11_2 a0_0 l0_1 = some r) ∧ Aside0 (kq ≤ k1) ∧ Aside0 (w'.heap[gb1628]? = some (.cells #[.int .i64 a0_0,(.slice A0_1 l0_1.length c0_1)] 94 (0,0))) ∧ Aside0 (Below w.heap.size w w'))
    case atStart=>exact ⟨(0),qrs,H',⟨Nat.le_refl _⟩,⟨by (with_reducible repeat (first|refine blk_drewN ?_ _|refine blk_drew ?_|refine blk_alloc ?_ _));exact BK1628.out⟩,⟨by exact bw⟩⟩
    case round =>
     clear H';(try clear c1);(try clear p2);(try clear c4);(try clear c4b0);(try clear hcz3_0);(try clear hcz3_1);(try clear hfz3_0);(try clear hfz3_1);(try clear p2)
     obtain ⟨x11_2,rfl,HA,HK2,BK1628,HB⟩:=hrel
     cases gk with
     | zero=>exact absurd HA.out (by simp [impl_votes_isComplete.l1])
     | succ k2 =>
      have H:=HA.out;clear HA;simp only [impl_votes_isComplete.l1] at H;by_cases c5:x11_2 < x7_1
      ·rw [if_pos c5] at H;have c5b0:decide (x11_2 < x7_1) = true:=decide_eq_true c5;clear c5;replace H:=Option.bind_eq_some_iff.mp H;obtain ⟨t1629,A60,H⟩:=H;replace H:(if t1629 = true then (impl_votes_isComplete.l1 k2 x7_1 a0_0 x7_1 x7_1 (wrap64 (x11_2 + 1)) a0_0 l0_1) else ((impl_votes_isWorth.f k2 a0_0 l0_1 x11_2 x7_1).bind fun t1630=>(if t1630 = true then (impl_votes_isComplete.l1 k2 x7_1 a0_0 x7_1 x7_1 (wrap64 (x11_2 + 1)) a0_0 l0_1) else (some false)))) = some r:=H;have A6:=aM A60;clear A60;by_cases c7:t1629 = true
       ·subst c7;have H1:(impl_votes_isComplete.l1 k2 x7_1 a0_0 x7_1 x7_1 (wrap64 (x11_2 + 1)) a0_0 l0_1) = some r:=by rw [if_pos rfl] at H;exact H
        clear H;have H:=H1;clear H1;have H':=aM H;clear H;have hcz8_0:wr.cell? ⟨gb1628,0,none⟩ = some (.int .i64 a0_0):=(blk_cell BK1628.out 0).trans rfl;have hcz8_1:wr.cell? ⟨gb1628,1,none⟩ = some (.slice A0_1 l0_1.length c0_1):=(blk_cell BK1628.out 1).trans rfl;have hfz8_0:=blk_frozen BK1628.out 0;have hfz8_1:=blk_frozen BK1628.out 1;go_wp2_with (first|((with_reducible refine gate_callee (f:=106) rfl ?_);refine goesL_ (some 17) rfl rfl Try.func106 kR rfl #[.agg #[.int .i64 a0_0,.slice A0_1 l0_1.length c0_1],.int .i64 x7_1,.int .i64 x11_2] rfl mq ?_;(with_reducible refine (impl_votes_isWorth.calls k2 a0_0 _ _ l0_1 x7_1 x11_2 true _ ?side1 ?side2 A6.out).mono ?_);(case side1=>exact qcs HR0_1.out HB.out);(case side2=>exact HC0_1.out);rintro e w9 ⟨rfl,hb⟩;refine ⟨_,rfl,?_⟩;have n0_:=aM (blk_below (g:=gb1628) (o:=.cells #[.int .i64 a0_0,.slice A0_1 l0_1.length c0_1] 94 (0,0)) bk hb);have n1_:=aM (below_step bw hb);clear BK1628;clear HB;have BK1628:=n0_;have HB:=n1_;clear n0_ n1_;(try clear hb);(try clear hb2);(try clear hk);(try clear hi)))
        go_roundg k2
        case measure=>have:=HK1.out;have:=HK2.out;omega
        case rel=>exact ⟨(wrap64 (x11_2 + 1)),qrs,H',⟨by have:=HK1.out;have:=HK2.out;omega⟩,⟨by (with_reducible repeat (first|refine blk_drewN ?_ _|refine blk_drew ?_|refine blk_alloc ?_ _));exact BK1628.out⟩,⟨by exact bw⟩⟩
       ·replace c7:=Bool.eq_false_iff.mpr c7;subst c7;have H1:((impl_votes_isWorth.f k2 a0_0 l0_1 x11_2 x7_1).bind fun t1630=>(if t1630 = true then (impl_votes_isComplete.l1 k2 x7_1 a0_0 x7_1 x7_1 (wrap64 (x11_2 + 1)) a0_0 l0_1) else (some false))) = some r:=by rw [if_neg (show ¬ (false = true) by decide)] at H;exact H
        clear H;have H:=H1;clear H1;replace H:=Option.bind_eq_some_iff.mp H;obtain ⟨t1630,A100,H⟩:=H;replace H:(if t1630 = true then (impl_votes_isComplete.l1 k2 x7_1 a0_0 x7_1 x7_1 (wrap64 (x11_2 + 1)) a0_0 l0_1) else (some false)) = some r:=H;have A10:=aM A100;clear A100;by_cases c11:t1630 = true
        ·subst c11;have H1:(impl_votes_isComplete.l1 k2 x7_1 a0_0 x7_1 x7_1 (wrap64 (x11_2 + 1)) a0_0 l0_1) = some r:=by rw [if_pos rfl] at H;exact H
         clear H;have H:=H1;clear H1;have H':=aM H;clear H;have hcz12_0:wr.cell? ⟨gb1628,0,none⟩ = some (.int .i64 a0_0):=(blk_cell BK1628.out 0).trans rfl;have hcz12_1:wr.cell? ⟨gb1628,1,none⟩ = some (.slice A0_1 l0_1.length c0_1):=(blk_cell BK1628.out 1).trans rfl;have hfz12_0:=blk_frozen BK1628.out 0;have hfz12_1:=blk_frozen BK1628.out 1;go_wp2_with (first|((with_reducible refine gate_callee (f:=106) rfl ?_);refine goesL_ (some 17) rfl rfl Try.func106 kR rfl #[.agg #[.int .i64 a0_0,.slice A0_1 l0_1.length c0_1],.int .i64 x7_1,.int .i64 x11_2] rfl mq ?_;(with_reducible refine (impl_votes_isWorth.calls k2 a0_0 _ _ l0_1 x7_1 x11_2 false _ ?side1 ?side2 A6.out).mono ?_);(case side1=>exact qcs HR0_1.out HB.out);(case side2=>exact HC0_1.out);rintro e w13 ⟨rfl,hb⟩;refine ⟨_,rfl,?_⟩;have n0_:=aM (blk_below (g:=gb1628) (o:=.cells #[.int .i64 a0_0,.slice A0_1 l0_1.length c0_1] 94 (0,0)) bk hb);have n1_:=aM (below_step bw hb);clear BK1628;clear HB;have BK1628:=n0_;have HB:=n1_;clear n0_ n1_;(try clear hb);(try clear hb2);(try clear hk);(try clear hi);have hcz14_0:w13.cell? ⟨gb1628,0,none⟩ = some (.int .i64 a0_0):=(blk_cell BK1628.out 0).trans rfl;have hcz14_1:w13.cell? ⟨gb1628,1,none⟩ = some (.slice A0_1 l0_1.length c0_1):=(blk_cell BK1628.out 1).trans rfl;have hfz14_0:=blk_frozen BK1628.out 0;have hfz14_1:=blk_frozen BK1628.out 1)|(go_at_call 106;(with_reducible refine (impl_votes_isWorth.calls k2 a0_0 _ _ l0_1 x11_2 x7_1 true _ ?side1 ?side2 A10.out).mono ?_);(case side1=>exact qcs HR0_1.out HB.out);(case side2=>exact HC0_1.out);rintro e w15 ⟨rfl,hb⟩;have n0_:=aM (blk_below (g:=gb1628) (o:=.cells #[.int .i64 a0_0,.slice A0_1 l0_1.length c0_1] 94 (0,0)) bk hb);have n1_:=aM (below_step bw hb);clear BK1628;clear HB;have BK1628:=n0_;have HB:=n1_;clear n0_ n1_;(try clear hb);(try clear hb2);(try clear hk);(try clear hi)))
         go_roundg k2
         case measure=>have:=HK1.out;have:=HK2.out;omega
         case rel=>exact ⟨(wrap64 (x11_2 + 1)),qrs,H',⟨by have:=HK1.out;have:=HK2.out;omega⟩,⟨by (with_reducible repeat (first|refine blk_drewN ?_ _|refine blk_drew ?_|refine blk_alloc ?_ _));exact BK1628.out⟩,⟨by exact bw⟩⟩
        ·replace c11:=Bool.eq_false_iff.mpr c11;subst c11;have H1:(some false) = some r:=by rw [if_neg (show ¬ (false = true) by decide)] at H;exact H
         clear H;have H:=H1;clear H1;obtain rfl:=Option.some.inj H;have hcz16_0:wr.cell? ⟨gb1628,0,none⟩ = some (.int .i64 a0_0):=(blk_cell BK1628.out 0).trans rfl;have hcz16_1:wr.cell? ⟨gb1628,1,none⟩ = some (.slice A0_1 l0_1.length c0_1):=(blk_cell BK1628.out 1).trans rfl;have hfz16_0:=blk_frozen BK1628.out 0;have hfz16_1:=blk_frozen BK1628.out 1;go_wp2_with (first|((with_reducible refine gate_callee (f:=106) rfl ?_);refine goesL_ (some 17) rfl rfl Try.func106 kR rfl #[.agg #[.int .i64 a0_0,.slice A0_1 l0_1.length c0_1],.int .i64 x7_1,.int .i64 x11_2] rfl mq ?_;(with_reducible refine (impl_votes_isWorth.calls k2 a0_0 _ _ l0_1 x7_1 x11_2 false _ ?side1 ?side2 A6.out).mono ?_);(case side1=>exact qcs HR0_1.out HB.out);(case side2=>exact HC0_1.out);rintro e w17 ⟨rfl,hb⟩;refine ⟨_,rfl,?_⟩;have n0_:=aM (blk_below (g:=gb1628) (o:=.cells #[.int .i64 a0_0,.slice A0_1 l0_1.length c0_1] 94 (0,0)) bk hb);have n1_:=aM (below_step bw hb);clear BK1628;clear HB;have BK1628:=n0_;have HB:=n1_;clear n0_ n1_;(try clear hb);(try clear hb2);(try clear hk);(try clear hi);have hcz18_0:w17.cell? ⟨gb1628,0,none⟩ = some (.int .i64 a0_0):=(blk_cell BK1628.out 0).trans rfl;have hcz18_1:w17.cell? ⟨gb1628,1,none⟩ = some (.slice A0_1 l0_1.length c0_1):=(blk_cell BK1628.out 1).trans rfl;have hfz18_0:=blk_frozen BK1628.out 0;have hfz18_1:=blk_frozen BK1628.out 1)|(go_at_call 106;(with_reducible refine (impl_votes_isWorth.calls k2 a0_0 _ _ l0_1 x11_2 x7_1 false _ ?side1 ?side2 A10.out).mono ?_);(case side1=>exact qcs HR0_1.out HB.out);(case side2=>exact HC0_1.out);rintro e w19 ⟨rfl,hb⟩;have n0_:=aM (blk_below (g:=gb1628) (o:=.cells #[.int .i64 a0_0,.slice A0_1 l0_1.length c0_1] 94 (0,0)) bk hb);have n1_:=aM (below_step bw hb);clear BK1628;clear HB;have BK1628:=n0_;have HB:=n1_;clear n0_ n1_;(try clear hb);(try clear hb2);(try clear hk);(try clear hi)))
         go_ret
         exact ⟨by first|rfl|(simp [errW_none,errW_some] <;> rfl)|(simp [*,errW_none,errW_some] <;> rfl),by exact bw⟩
      ·rw [if_neg c5] at H;have c5b0:decide (x11_2 < x7_1) = false:=decide_eq_false c5;clear c5;have H':=aM H;clear H;go_wp2
       go_roundg k2
       case measure=>have:=HK1.out;have:=HK2.out;omega
       case rel=>exact ⟨(wrap64 (x7_1 + 1)),qrs,H',⟨by have:=HK1.out;have:=HK2.out;omega⟩,⟨by (with_reducible repeat (first|refine blk_drewN ?_ _|refine blk_drew ?_|refine blk_alloc ?_ _));exact BK1628.out⟩,⟨by exact bw⟩⟩
   ·rw [if_neg c4] at H;have c4b0:decide (x7_1 < a0_0) = false:=decide_eq_false c4;clear c4;obtain rfl:=Option.some.inj H;go_wp2
    go_ret
    exact ⟨by first|rfl|(simp [errW_none,errW_some] <;> rfl)|(simp [*,errW_none,errW_some] <;> rfl),by exact bw⟩


/-! ### spec_deUnlike: function 184 -/
def spec_deUnlike.f (k:Nat) (l0:List Bool) (a1:Int) (a2:Int):Option (Bool):=(spec_deWorth.f k l0 a1 a2).bind fun t1578=>(if t1578 = true then (some false) else ((spec_deWorth.f k l0 a2 a1).bind fun t1579=>(some (!t1579))))
theorem spec_deUnlike.mono:∀ a0 a1 a2 k,LeO (spec_deUnlike.f k a0 a1 a2) (spec_deUnlike.f (k + 1) a0 a1 a2):=by
 intro a0 a1 a2 k;unfold spec_deUnlike.f
 repeat' with_reducible first|exact spec_deWorth.mono _ _ _ _|exact LeO.refl _|exact LeO.none _|refine LeO.ite ?_ ?_|refine LeO.bind ?_ (fun _=>?_)
set_option maxHeartbeats 8000000 in
set_option maxRecDepth 100000 in
theorem spec_deUnlike.calls (k:Nat) (A0:Option Addr) (c0:Nat) (l0:List Bool) (a1:Int) (a2:Int) (r:Bool) (w:World) (hr0:Kd.C Kd.bool w A0 l0.length l0) (hc0:l0.length ≤ c0) (h:spec_deUnlike.f k l0 a1 a2 = some r) :
  Calls Try.prog 184 #[.slice A0 l0.length c0,.int .i64 a1,.int .i64 a2] w fun e w'=>e = .returned (.bool r) ∧ Drawn0 w w':=by
 have HR0:=aM hr0;have HC0:=aM hc0;clear hr0 hc0;have H:((spec_deWorth.f k l0 a1 a2).bind fun t1578=>(if t1578 = true then (some false) else ((spec_deWorth.f k l0 a2 a1).bind fun t1579=>(some (!t1579))))) = some r:=h;clear h;replace H:=Option.bind_eq_some_iff.mp H;obtain ⟨t1578,A40,H⟩:=H;replace H:(if t1578 = true then (some false) else ((spec_deWorth.f k l0 a2 a1).bind fun t1579=>(some (!t1579)))) = some r:=H;have A4:=aM A40;clear A40;by_cases c5:t1578 = true
 ·subst c5;have H1:(some false) = some r:=by rw [if_pos rfl] at H;exact H
  clear H;have H:=H1;clear H1;obtain rfl:=Option.some.inj H;go_enter Try.func184,Try.ntmps184;go_wp2_with (first|((with_reducible refine gate_callee (f:=102) rfl ?_);refine goesL_ (some 10) rfl rfl Try.func102 kR rfl #[.slice A0 l0.length c0,.int .i64 a1,.int .i64 a2] rfl mq ?_;(with_reducible refine (spec_deWorth.calls k _ _ l0 a1 a2 true _ ?side1 ?side2 A4.out).mono ?_);(case side1=>repeat (first|exact HR0.out|(with_reducible refine Kd.C_alloc ?_ _)|(with_reducible refine Kd.C_drewN ?_ _)|(with_reducible refine Kd.C_drew ?_)));(case side2=>exact HC0.out);rintro e w' ⟨rfl,⟨nd,rfl⟩⟩;refine ⟨_,rfl,?_⟩))
  go_ret
  exact ⟨by first|rfl|(simp;done)|(simp [*];done),by repeat (first|exact Drawn0.refl _|apply Drawn0.step)⟩
 ·replace c5:=Bool.eq_false_iff.mpr c5;subst c5;have H1:((spec_deWorth.f k l0 a2 a1).bind fun t1579=>(some (!t1579))) = some r:=by rw [if_neg (show ¬ (false = true) by decide)] at H;exact H
  clear H;have H:=H1;clear H1;replace H:=Option.bind_eq_some_iff.mp H;obtain ⟨t1579,A60,H⟩:=H;replace H:(some (!t1579)) = some r:=H;have A6:=aM A60;clear A60;obtain rfl:=Option.some.inj H;go_enter Try.func184,Try.ntmps184;go_wp2_with (first|((with_reducible refine gate_callee (f:=102) rfl ?_);refine goesL_ (some 10) rfl rfl Try.func102 kR rfl #[.slice A0 l0.length c0,.int .i64 a1,.int .i64 a2] rfl mq ?_;(with_reducible refine (spec_deWorth.calls k _ _ l0 a1 a2 false _ ?side1 ?side2 A4.out).mono ?_);(case side1=>repeat (first|exact HR0.out|(with_reducible refine Kd.C_alloc ?_ _)|(with_reducible refine Kd.C_drewN ?_ _)|(with_reducible refine Kd.C_drew ?_)));(case side2=>exact HC0.out);rintro e w' ⟨rfl,⟨nd,rfl⟩⟩;refine ⟨_,rfl,?_⟩)|(go_at_call 102;(with_reducible refine (spec_deWorth.calls k _ _ l0 a2 a1 t1579 _ ?side1 ?side2 A6.out).mono ?_);(case side1=>repeat (first|exact HR0.out|(with_reducible refine Kd.C_alloc ?_ _)|(with_reducible refine Kd.C_drewN ?_ _)|(with_reducible refine Kd.C_drew ?_)));(case side2=>exact HC0.out);rintro e w' ⟨rfl,⟨nd,rfl⟩⟩))
  go_ret
  exact ⟨by first|rfl|(simp;done)|(simp [*];done),by repeat (first|exact Drawn0.refl _|apply Drawn0.step)⟩


/-! ### spec_deComplete: function 134 -/
mutual
def spec_deComplete.l0:Nat → List Bool → Int → Int → Option (Bool)
 | 0,_,_,_=>none
 | k + 1,x0,x1,x5=>if x5 < x1 then (spec_deComplete.l1 k x0 x1 x5 0) else (some true)
def spec_deComplete.l1:Nat → List Bool → Int → Int → Int → Option (Bool)
 | 0,_,_,_,_=>none
 | k + 1,x0,x1,x5,x6=>if x6 < x5 then ((spec_deUnlike.f k x0 x5 x6).bind fun t1580=>(if t1580 = true then (some false) else (spec_deComplete.l1 k x0 x1 x5 (wrap64 (x6 + 1))))) else (spec_deComplete.l0 k x0 x1 (wrap64 (x5 + 1)))
end
def spec_deComplete.f (k:Nat) (l0:List Bool) (a1:Int):Option (Bool):=spec_deComplete.l0 k l0 a1 0
theorem spec_deComplete.mono_l:∀ k,(∀ y0 y1 y2,LeO (spec_deComplete.l0 k y0 y1 y2) (spec_deComplete.l0 (k + 1) y0 y1 y2)) ∧ (∀ y0 y1 y2 y3,LeO (spec_deComplete.l1 k y0 y1 y2 y3) (spec_deComplete.l1 (k + 1) y0 y1 y2 y3))
 | 0=>⟨fun _ _ _ r h=>by simp [spec_deComplete.l0] at h,fun _ _ _ _ r h=>by simp [spec_deComplete.l1] at h⟩
 | k + 1=>by
  obtain ⟨ih0,ih1⟩:=spec_deComplete.mono_l k;refine ⟨?_,?_⟩
  ·intro y0 y1 y2;unfold spec_deComplete.l0
   repeat' with_reducible first|exact ih0 _ _ _|exact ih1 _ _ _ _|exact spec_deUnlike.mono _ _ _ _|exact LeO.refl _|exact LeO.none _|refine LeO.ite ?_ ?_|refine LeO.bind ?_ (fun _=>?_)
  ·intro y0 y1 y2 y3;unfold spec_deComplete.l1
   repeat' with_reducible first|exact ih0 _ _ _|exact ih1 _ _ _ _|exact spec_deUnlike.mono _ _ _ _|exact LeO.refl _|exact LeO.none _|refine LeO.ite ?_ ?_|refine LeO.bind ?_ (fun _=>?_)
theorem spec_deComplete.mono:∀ a0 a1 k,LeO (spec_deComplete.f k a0 a1) (spec_deComplete.f (k + 1) a0 a1):=by
 intro a0 a1 k;obtain ⟨ih0,ih1⟩:=spec_deComplete.mono_l k;unfold spec_deComplete.f
 repeat' with_reducible first|exact ih0 _ _ _|exact ih1 _ _ _ _|exact spec_deUnlike.mono _ _ _ _|exact LeO.refl _|exact LeO.none _|refine LeO.ite ?_ ?_|refine LeO.bind ?_ (fun _=>?_)
set_option maxHeartbeats 8000000 in
set_option maxRecDepth 100000 in
theorem spec_deComplete.calls (k:Nat) (A0:Option Addr) (c0:Nat) (l0:List Bool) (a1:Int) (r:Bool) (w:World) (hr0:Kd.C Kd.bool w A0 l0.length l0) (hc0:l0.length ≤ c0) (h:spec_deComplete.f k l0 a1 = some r) :
  Calls Try.prog 134 #[.slice A0 l0.length c0,.int .i64 a1] w fun e w'=>e = .returned (.bool r) ∧ Drawn0 w w':=by
 have HR0:=aM hr0;have HC0:=aM hc0;clear hr0 hc0;have H:(spec_deComplete.l0 k l0 a1 0) = some r:=h;clear h;have H':=aM H;clear H;go_enter Try.func134,Try.ntmps134;go_wp2
 go_loopg [5] k (fun kq v5 w'=>∃ (x5_1:Int),v5 = .int .i64 x5_1 ∧ Aside0 (spec_deComplete.l0 kq l0 a1 x5_1 = some r) ∧ Aside0 (kq ≤ k) ∧ Drawn0 w w')
 case atStart=>exact ⟨(0),qrs,H',⟨Nat.le_refl _⟩,by repeat (first|exact Drawn0.refl _|apply Drawn0.step)⟩
 case round =>
  clear H';(try clear c1);(try clear p2)
  obtain ⟨x5_1,rfl,HA,HK1,⟨m1,rfl⟩⟩:=hrel
  cases gk with
  | zero=>exact absurd HA.out (by simp [spec_deComplete.l0])
  | succ k1 =>
   have H:=HA.out;clear HA;simp only [spec_deComplete.l0] at H;by_cases c3:x5_1 < a1
   ·rw [if_pos c3] at H;have c3b0:decide (x5_1 < a1) = true:=decide_eq_true c3;clear c3;have H':=aM H;clear H;go_wp2
    go_loopg [6] k1 (fun kq v6 w'=>∃ (x6_2:Int),v6 = .int .i64 x6_2 ∧ Aside0 (spec_deComplete.l1 kq l0 a1 x5_1 x6_2 = some r) ∧ Aside0 (kq ≤ k1) ∧ Drawn0 w w')
    case atStart=>exact ⟨(0),qrs,H',⟨Nat.le_refl _⟩,by repeat (first|exact Drawn0.refl _|apply Drawn0.step)⟩
    case round =>
     clear H';(try clear c1);(try clear p2);(try clear c3);(try clear c3b0);(try clear p2)
     obtain ⟨x6_2,rfl,HA,HK2,⟨m2,rfl⟩⟩:=hrel
     cases gk with
     | zero=>exact absurd HA.out (by simp [spec_deComplete.l1])
     | succ k2 =>
      have H:=HA.out;clear HA;simp only [spec_deComplete.l1] at H;by_cases c4:x6_2 < x5_1
      ·rw [if_pos c4] at H;have c4b0:decide (x6_2 < x5_1) = true:=decide_eq_true c4;clear c4;replace H:=Option.bind_eq_some_iff.mp H;obtain ⟨t1580,A50,H⟩:=H;replace H:(if t1580 = true then (some false) else (spec_deComplete.l1 k2 l0 a1 x5_1 (wrap64 (x6_2 + 1)))) = some r:=H;have A5:=aM A50;clear A50;by_cases c6:t1580 = true
       ·subst c6;have H1:(some false) = some r:=by rw [if_pos rfl] at H;exact H
        clear H;have H:=H1;clear H1;obtain rfl:=Option.some.inj H;go_wp2_with (first|((with_reducible refine gate_callee (f:=184) rfl ?_);refine goesL_ (some 20) rfl rfl Try.func184 kR rfl #[.slice A0 l0.length c0,.int .i64 x5_1,.int .i64 x6_2] rfl mq ?_;(with_reducible refine (spec_deUnlike.calls k2 _ _ l0 x5_1 x6_2 true _ ?side1 ?side2 A5.out).mono ?_);(case side1=>repeat (first|exact HR0.out|(with_reducible refine Kd.C_alloc ?_ _)|(with_reducible refine Kd.C_drewN ?_ _)|(with_reducible refine Kd.C_drew ?_)));(case side2=>exact HC0.out);rintro e w' ⟨rfl,⟨nd,rfl⟩⟩;refine ⟨_,rfl,?_⟩))
        go_ret
        exact ⟨by first|rfl|(simp;done)|(simp [*];done),by repeat (first|exact Drawn0.refl _|apply Drawn0.step)⟩
       ·replace c6:=Bool.eq_false_iff.mpr c6;subst c6;have H1:(spec_deComplete.l1 k2 l0 a1 x5_1 (wrap64 (x6_2 + 1))) = some r:=by rw [if_neg (show ¬ (false = true) by decide)] at H;exact H
        clear H;have H:=H1;clear H1;have H':=aM H;clear H;go_wp2_with (first|((with_reducible refine gate_callee (f:=184) rfl ?_);refine goesL_ (some 20) rfl rfl Try.func184 kR rfl #[.slice A0 l0.length c0,.int .i64 x5_1,.int .i64 x6_2] rfl mq ?_;(with_reducible refine (spec_deUnlike.calls k2 _ _ l0 x5_1 x6_2 false _ ?side1 ?side2 A5.out).mono ?_);(case side1=>repeat (first|exact HR0.out|(with_reducible refine Kd.C_alloc ?_ _)|(with_reducible refine Kd.C_drewN ?_ _)|(with_reducible refine Kd.C_drew ?_)));(case side2=>exact HC0.out);rintro e w' ⟨rfl,⟨nd,rfl⟩⟩;refine ⟨_,rfl,?_⟩))
        go_roundg k2
        case measure=>have:=HK1.out;have:=HK2.out;omega
        case rel=>exact ⟨(wrap64 (x6_2 + 1)),qrs,H',⟨by have:=HK1.out;have:=HK2.out;omega⟩,by repeat (first|exact Drawn0.refl _|apply Drawn0.step)⟩
      ·rw [if_neg c4] at H;have c4b0:decide (x6_2 < x5_1) = false:=decide_eq_false c4;clear c4;have H':=aM H;clear H;go_wp2
       go_roundg k2
       case measure=>have:=HK1.out;have:=HK2.out;omega
       case rel=>exact ⟨(wrap64 (x5_1 + 1)),qrs,H',⟨by have:=HK1.out;have:=HK2.out;omega⟩,by repeat (first|exact Drawn0.refl _|apply Drawn0.step)⟩
   ·rw [if_neg c3] at H;have c3b0:decide (x5_1 < a1) = false:=decide_eq_false c3;clear c3;obtain rfl:=Option.some.inj H;go_wp2
    go_ret
    exact ⟨by first|rfl|(simp;done)|(simp [*];done),by repeat (first|exact Drawn0.refl _|apply Drawn0.step)⟩


/-! ### spec_voList: function 192 -/
def spec_voList.l0:Nat → Int → List Int → Int → Option (List Int)
 | 0,_,_,_=>none
 | k + 1,x0,x3,x4=>if 0 ≤ x4 then (if (shr .i64 x0 x4) > 0 then (if (Int.tmod (shr .i64 x0 x4) 2) = 1 then (if x3.length < 17592186044416 then (spec_voList.l0 k x0 (x3 ++ [x4]) (wrap64 (x4 + 1))) else (none)) else (spec_voList.l0 k x0 x3 (wrap64 (x4 + 1)))) else (some x3)) else (none)
def spec_voList.f (k:Nat) (a0:Int):Option (List Int):=spec_voList.l0 k a0 ([]:List Int) 0
theorem spec_voList.mono_l:∀ k,(∀ y0 y1 y2,LeO (spec_voList.l0 k y0 y1 y2) (spec_voList.l0 (k + 1) y0 y1 y2))
 | 0=>fun _ _ _ r h=>by simp [spec_voList.l0] at h
 | k + 1=>by
  have ih0:=spec_voList.mono_l k
  ·intro y0 y1 y2;unfold spec_voList.l0
   repeat' with_reducible first|exact ih0 _ _ _|exact LeO.refl _|exact LeO.none _|refine LeO.ite ?_ ?_|refine LeO.bind ?_ (fun _=>?_)
theorem spec_voList.mono:∀ a0 k,LeO (spec_voList.f k a0) (spec_voList.f (k + 1) a0):=by
 intro a0 k;have ih0:=spec_voList.mono_l k;unfold spec_voList.f
 repeat' with_reducible first|exact ih0 _ _ _|exact LeO.refl _|exact LeO.none _|refine LeO.ite ?_ ?_|refine LeO.bind ?_ (fun _=>?_)
set_option maxHeartbeats 8000000 in
set_option maxRecDepth 100000 in
theorem spec_voList.calls (k:Nat) (a0:Int) (r:List Int) (w:World) (h:spec_voList.f k a0 = some r) :
  Calls Try.prog 192 #[.int .i64 a0] w fun e w'=>∃ v0_:Value,e = .returned (v0_) ∧ Kd.R (Kd.int .i64) 3 w' w.heap.size (fun _=>True) v0_ r ∧ Below w.heap.size w w':=by
 have HB:=aM (Below.refl w.heap.size w);have H:(spec_voList.l0 k a0 ([]:List Int) 0) = some r:=h;clear h;have H':=aM H;clear H;go_enter Try.func192,Try.ntmps192;go_wp2
 go_loopg [3,4] k (fun kq v3 v4 w'=>∃ (x3_1:List Int) (x4_1:Int),v4 = .int .i64 x4_1 ∧ Aside0 (spec_voList.l0 kq a0 x3_1 x4_1 = some r) ∧ Aside0 (kq ≤ k) ∧ Aside0 (Kd.R (Kd.int .i64) 3 w' w.heap.size (fun _=>True) v3 x3_1) ∧ Aside0 (Below w.heap.size w w'))
 case atStart=>exact ⟨(([]:List Int)),(0),qrs,H',⟨Nat.le_refl _⟩,⟨by first|exact Kd.R_nil _ _ _ _ _|exact Kd.N_nil _ _ _ _ _|exact Kd.V_nil _ _ _ _ _|exact Kd.Q_nil _ _ _ _ _|exact Kd.S_nil _ _ _ _ _⟩,⟨by exact bw⟩⟩
 case round =>
  clear H'
  try clear c1
  obtain ⟨x3_1,x4_1,rfl,HA,HK1,HO_3,HB⟩:=hrel
  cases gk with
  | zero=>exact absurd HA.out (by simp [spec_voList.l0])
  | succ k1 =>
   have H:=HA.out;clear HA;simp only [spec_voList.l0] at H;by_cases c2:0 ≤ x4_1
   ·rw [if_pos c2] at H;have c2b0:=eq_true c2;have c2b1:decide (0 ≤ x4_1) = true:=decide_eq_true c2;clear c2;obtain ⟨ji3,hji3⟩:∃ j_:Int,(shr .i64 a0 x4_1) = j_:=⟨_,rfl⟩;replace H:(if (ji3) > 0 then (if (Int.tmod (ji3) 2) = 1 then (if x3_1.length < 17592186044416 then (spec_voList.l0 k1 a0 (x3_1 ++ [x4_1]) (wrap64 (x4_1 + 1))) else (none)) else (spec_voList.l0 k1 a0 x3_1 (wrap64 (x4_1 + 1)))) else (some x3_1)) = some r:=by first|(rw [hji3] at H;exact H)|(simp only [hji3] at H ⊢;exact H)
    have hji3_:(a0 / 2 ^ min x4_1.toNat 64) = ji3:=hji3;have hji3z:x4_1 ≤ 64 → (a0 / 2 ^ x4_1.toNat) = ji3:=shr_small hji3;by_cases c4:(ji3) > 0
    ·rw [if_pos c4] at H;have c4b0:decide (0 < (ji3)) = true:=decide_eq_true c4;clear c4;have c5b0:=eq_true (of_decide_eq_true ab:0 ≤ x4_1);by_cases c6:(Int.tmod (ji3) 2) = 1
     ·rw [if_pos c6] at H;have c6b0:((Int.tmod (ji3) 2) == 1) = true:=beq_iff_eq.mpr c6;have c6b1:((Int.tmod (ji3) 2) != 1) = false:=bne_eq_false_iff_eq.mpr c6;clear c6;by_cases c7:x3_1.length < 17592186044416
      ·rw [if_pos c7] at H;have LMc7:=aM c7;clear c7;obtain ⟨y554,hy554⟩:∃ y_:List Int,y_ = (x3_1 ++ [x4_1]):=⟨_,rfl⟩;replace H:(spec_voList.l0 k1 a0 y554 (wrap64 (x4_1 + 1))) = some r:=by first|(rw [hy554];with_reducible exact H)|(have H2_:=(Option.bind_some _ _).symm.trans H;rw [hy554];with_reducible exact H2_)|(have H2_:=(Option.bind_some _ _).symm.trans H;with_reducible exact H2_)|with_reducible exact H|(rw [hy554];exact H)|exact H
       have Ny554:=aM hy554;clear hy554;have H':=aM H;clear H;go_wp2_with (first|((with_reducible refine gate_builtin (b:=.append) (xs:=#[.tmp 16,.tmp 18]) rfl ?_);at_builtin;refine Kd.R_append (Kd.int .i64) (w0:=w) w.heap.size rfl (.tmp 16) (.tmp 18) 22 3 (.int .i64 0) 8 rfl Try.underlying22 info3 rfl (by decide) (by omega) u3 x3_1 x4_1 [.int .i64 x4_1] (fun _=>True) (fun _=>False) rfl rfl ?aP (fun _ hk=>hk.elim) ?aF ?aO ?aB ?aS ?aL ?_;(case aP=>exact rfl);(case aB=>exact bw);(case aF=>exact (fun _ _=>trivial));(case aO=>exact (qra HO_3.out));(case aS=>exact (below_size bw));(case aL=>have:=LMc7.out;omega);intro v555 w8 ho hb hg hat;rw [← Ny554.out] at ho;have n0_:=aM (hb);have n1_:=aM (ho);clear HB;clear HO_3;have HB:=n0_;have HO556:=n1_;clear n0_ n1_;clear ho hb hg hat))
       go_roundg k1
       case measure=>have:=HK1.out;omega
       case rel=>exact ⟨(y554),(wrap64 (x4_1 + 1)),qrs,H',⟨by have:=HK1.out;omega⟩,⟨qra HO556.out⟩,⟨by exact bw⟩⟩
      ·rw [if_neg c7] at H;exact absurd H (by simp)
     ·rw [if_neg c6] at H;have c6b0:((Int.tmod (ji3) 2) == 1) = false:=beq_eq_false_iff_ne.mpr c6;have c6b1:((Int.tmod (ji3) 2) != 1) = true:=bne_iff_ne.mpr c6;have H':=aM H;clear H;go_wp2
      go_roundg k1
      case measure=>have:=HK1.out;omega
      case rel=>exact ⟨(x3_1),(wrap64 (x4_1 + 1)),qrs,H',⟨by have:=HK1.out;omega⟩,⟨qra HO_3.out⟩,⟨by exact bw⟩⟩
    ·rw [if_neg c4] at H;have c4b0:decide (0 < (ji3)) = false:=decide_eq_false c4;clear c4;obtain rfl:=Option.some.inj H;go_wp2
     go_ret
     exact ⟨_,by first|rfl|(simp [errW_none,errW_some] <;> rfl)|(simp only [← hji3];first|rfl|(simp [errW_none,errW_some] <;> rfl))|(simp [*,errW_none,errW_some] <;> rfl),by (with_reducible repeat (first|apply Kd.R_alloc|apply Kd.R_drewN|apply Kd.R_drew));exact HO_3.out,by exact bw⟩
   ·rw [if_neg c2] at H;exact absurd H (by simp)

end Go.Proofs.Ythkbaolpiigioaa.P
