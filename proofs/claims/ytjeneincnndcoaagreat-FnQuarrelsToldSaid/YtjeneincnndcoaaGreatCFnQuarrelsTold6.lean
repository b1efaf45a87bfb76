/- Part 6 of the texts below the law FnQuarrelsTold. Printed by this session's driver over the kit's printer, but for the hand contracts and the plain laws. -/
import Derived.ProofKit
import Derived.Deep.Slices
import Derived.Tactics
import Derived.Laws.Bits64
import Derived.Test.YtjeneincnndcoaaGreatCFnQuarrelsTold0
import Derived.Test.YtjeneincnndcoaaGreatCFnQuarrelsTold1
import Derived.Test.YtjeneincnndcoaaGreatCFnQuarrelsTold2
import Derived.Test.YtjeneincnndcoaaGreatCFnQuarrelsTold3
import Derived.Test.YtjeneincnndcoaaGreatCFnQuarrelsTold4
import Derived.Test.YtjeneincnndcoaaGreatCFnQuarrelsTold5
set_option linter.unusedVariables false
set_option linter.unusedSimpArgs false
namespace Go.Proofs.YtjeneincnndcoaaGreat.P
open Go.RowKit Go.ChangeShapes Go.WideShapes Go.Proofs.YtjeneincnndcoaaGreatW.PrintWords Go.Proofs.YtjeneincnndcoaaGreatW.PrintLast Go.Proofs.YtjeneincnndcoaaGreatW.PrintMore
def okI (x : Int) : Prop:=-9223372036854775808 ≤ x ∧ x ≤ 9223372036854775807
def okL {α : Type} (Ok : α → Prop) (l : List α) : Prop:=l.length ≤ 9223372036854775807 ∧ ∀ x ∈ l,Ok x
structure iV {α : Type} (P : Program) (T : TypeId) (d : Kd α) (Ok : α → Prop) : Prop where
  go : ∀ {H : Type} (enc : TypeId × Value → H) (w : World) (fuel : Nat) (cs : List Value) (x : DataW H × List MemPlace),
    DataW.trod enc P w 0 (fun _=>true) true fuel T cs = some x → ∃ a,d.K w a cs ∧ Ok a
theorem iV.int {P : Program} {T : TypeId} (h : P.underlying T = some (.int .i64)) : iV P T (Kd.int .i64) okI:=by
  refine ⟨fun enc w fuel cs x hx=>?_⟩
  obtain ⟨n,rfl,_,hw⟩:=DataW.trod_int h hx
  refine ⟨n,rfl,?_⟩
  have hmin : IntKind.i64.min = -9223372036854775808:=rfl
  have hmax : IntKind.i64.max = 9223372036854775807:=rfl
  simp only [Lit.wf,Bool.and_eq_true,decide_eq_true_eq] at hw
  unfold okI
  omega
def okU (x : Int) : Prop:=0 ≤ x ∧ x ≤ 255
theorem iV.u8 {P : Program} {T : TypeId} (h : P.underlying T = some (.int .u8)) : iV P T (Kd.int .u8) okU:=by
  refine ⟨fun enc w fuel cs x hx=>?_⟩
  obtain ⟨n,rfl,_,hw⟩:=DataW.trod_int h hx
  refine ⟨n,rfl,?_⟩
  have hmin : IntKind.u8.min = 0:=rfl
  have hmax : IntKind.u8.max = 255:=rfl
  simp only [Lit.wf,Bool.and_eq_true,decide_eq_true_eq] at hw
  unfold okU
  omega
theorem mJ {w : World} {a : Addr} {n : Nat} {cs : List Value} (h : w.cells? 0 a n = some cs) : cs.length = n ∧ ∀ j u,cs[j]? = some u → w.cell? (a.add j) = some u:=by
  unfold World.cells? at h
  rw [if_pos (Nat.zero_le _)] at h
  have key : ∀ (l : List Nat) (r : List Value),l.mapM (fun i=>w.cell? (a.add i)) = some r → r.length = l.length ∧ ∀ (j : Nat) (u : Value) (i : Nat),r[j]? = some u → l[j]? = some i → w.cell? (a.add i) = some u:=by
    intro l
    induction l with
    | nil=>intro r hr;simp at hr;subst hr;simp
    | cons i l ih =>
      intro r hr
      simp only [List.mapM_cons,Option.bind_eq_bind,Option.bind_eq_some_iff] at hr
      obtain ⟨v,hv,r',hr',he⟩:=hr
      have he' : v :: r' = r:=by simpa using he
      subst he'
      obtain ⟨h1,h2⟩:=ih r' hr'
      refine ⟨by simp [h1],fun j u k hj hk=>?_⟩
      cases j with
      | zero=>simp at hj hk;subst hj;subst hk;exact hv
      | succ j=>simp at hj hk;exact h2 j u k hj hk
  obtain ⟨h1,h2⟩:=key _ _ h
  refine ⟨by simpa using h1,fun j u hj=>?_⟩
  have hlt : j < cs.length:=(List.getElem?_eq_some_iff.1 hj).1
  exact h2 j u j hj (by rw [List.getElem?_range (by simpa [h1] using hlt)])
theorem add_add_ (a : Addr) (i j : Nat) : (a.add i).add j = a.add (i + j):=Go.Deep.add_add a i j
theorem iV.slice {α : Type} {P : Program} {T e : TypeId} {d : Kd α} {Ok : α → Prop} (h : P.underlying T = some (.slice e)) (hc : P.cellsOf e = d.sz) (hd : iV P e d Ok) : iV P T (Kd.slice e d) (okL Ok):=by
  refine ⟨fun enc w fuel cs x hx=>?_⟩
  rcases Go.Deep.open_slice h hx with ⟨rfl,_⟩|⟨a,len,cap,m,n,D,Pl,rfl,_,hl,hm,hmm,_,hel⟩
  · exact ⟨[],⟨none,0,rfl,Nat.le_refl _,Kd.C_nil _ _⟩,by simp,by simp⟩
  · have hm' : m = cap:=by simpa using hmm
    subst hm'
    have hex : ∀ i,i < len → ∃ y : α × List Value,y.2.length = d.sz ∧ d.K w y.1 y.2 ∧ Ok y.1 ∧ ∀ j u,y.2[j]? = some u → w.cell? (a.add (i * d.sz + j)) = some u:=by
      intro i hi
      obtain ⟨cs',h1,h2⟩:=hel i (by omega)
      rw [hc] at h1
      obtain ⟨hlen,hcell⟩:=mJ h1
      obtain ⟨y,hy,ho⟩:=hd.go enc w n cs' _ h2
      exact ⟨(y,cs'),hlen,hy,ho,fun j u hj=>by rw [← add_add_];exact hcell j u hj⟩
    by_cases h0 : len = 0
    · subst h0
      exact ⟨[],⟨some a,_,rfl,Nat.zero_le _,rfl,by simp,fun h=>absurd h (Nat.lt_irrefl 0)⟩,by simp,by simp⟩
    · obtain ⟨y0,_⟩:=hex 0 (by omega)
      have : Inhabited (α × List Value):=⟨y0⟩
      obtain ⟨f,hf⟩:=Go.Deep.choose_lt (α:=α × List Value) hex
      have hlen : ((List.range len).map fun i=>(f i).1).length = len:=by simp
      have hget : ∀ j p,((List.range len).map fun i=>(f i).1)[j]? = some p → j < len ∧ p = (f j).1:=by
        intro j p hj
        obtain ⟨hlt,he⟩:=List.getElem?_eq_some_iff.1 hj
        simp at hlt he
        exact ⟨hlt,he.symm⟩
      refine ⟨(List.range len).map fun i=>(f i).1,⟨some a,m,by rw [hlen],by rw [hlen];exact hl,by rw [hlen],by rw [hlen];unfold maxLen at hm;omega,fun _=>⟨a,rfl,fun j p hj=>?_⟩⟩,?_,?_⟩
      · obtain ⟨hlt,rfl⟩:=hget j p hj
        obtain ⟨h1,h2,_,h3⟩:=hf j hlt
        exact ⟨(f j).2,h1,h2,h3⟩
      · rw [hlen];unfold maxLen at hm;omega
      · intro p hp
        obtain ⟨j,hj⟩:=List.mem_iff_getElem?.1 hp
        obtain ⟨hlt,rfl⟩:=hget j p hj
        exact (hf j hlt).2.2.1
theorem kB {α : Type} {H : Type} {enc : TypeId × Value → H} {P : Program} {w : World} {r : Reach} {b0 : Nat} {T e : TypeId} {d : Kd α} {Ok : α → Prop} {v : Value} {y : DataW H} {p : List MemPlace}
    (h : P.underlying T = some (.slice e)) (ho : iV P T (Kd.slice e d) (okL Ok)) (hv : Value.okWide P w r b0 T v) (hd : DataW.Trod enc P w 0 (fun _=>true) true T v y p) : ∃ (A : Option Addr) (c : Nat) (l : List α),v = .slice A l.length c ∧ l.length ≤ c ∧ d.C w A l.length l ∧ okL Ok l:=by
  obtain ⟨a,len,cap,rfl⟩:=okWide_slice h hv
  obtain ⟨fuel,hf⟩:=hd
  obtain ⟨l,⟨A,c,he,hl,hc⟩,hok⟩:=ho.go enc w fuel _ _ hf
  have he' : Value.slice a len cap = .slice A l.length c:=by simpa [Value.cells] using he
  exact ⟨A,c,l,he',hl,hc,hok⟩
end Go.Proofs.YtjeneincnndcoaaGreat.P

namespace Go.Proofs.YtjeneincnndcoaaGreat.P
open Go.RowKit Go.Proofs.YtjeneincnndcoaaGreatW.PrintWords Go.Proofs.YtjeneincnndcoaaGreatW.PrintLast Go.Proofs.YtjeneincnndcoaaGreatW.PrintMore
end Go.Proofs.YtjeneincnndcoaaGreat.P

namespace Go.Proofs.YtjeneincnndcoaaGreat.P
def ag.Pure : Prop:=∀ (l0 : List Int) (l1 : List Int),(okL okU) l0 → (okL okU) l1 → ∃ k,ag.f k l0 l1 = some true
end Go.Proofs.YtjeneincnndcoaaGreat.P

namespace Go.Proofs.YtjeneincnndcoaaGreat.P
open Go.RowKit Go.Proofs.YtjeneincnndcoaaGreatW.PrintWords Go.Proofs.YtjeneincnndcoaaGreatW.PrintLast Go.Proofs.YtjeneincnndcoaaGreatW.PrintMore
theorem Ev.down {ρ : Type} {G : Nat → Nat → Option ρ} {R : Nat → ρ} (n : Nat) (hend : Ev (G n) (R n)) (hstep : ∀ i,i < n → Ev (G (i + 1)) (R (i + 1)) → Ev (G i) (R i)) : ∀ i,i ≤ n → Ev (G i) (R i):=by
  have key : ∀ d i,i + d = n → Ev (G i) (R i):=by
    intro d
    induction d with
    | zero => intro i hi; obtain rfl : i = n := by omega
              exact hend
    | succ d ih=>intro i hi;exact hstep i (by omega) (ih (i + 1) (by omega))
  intro i hi
  exact key (n - i) i (by omega)
theorem back {P : Nat → Prop} (n : Nat) (hend : P n) (hstep : ∀ i,i < n → P (i + 1) → P i) : ∀ i,i ≤ n → P i:=by
  have key : ∀ d i,i + d = n → P i:=by
    intro d
    induction d with
    | zero => intro i hi; obtain rfl : i = n := by omega
              exact hend
    | succ d ih=>intro i hi;exact hstep i (by omega) (ih (i + 1) (by omega))
  intro i hi
  exact key (n - i) i (by omega)
theorem Ev.some {α : Type} {r : α} : Ev (fun _=>Option.some r) r:=Ev.now r
theorem Ev.one {α : Type} {g : Option α} {r : α} (h : g = Option.some r) : Ev (fun _=>g) r:=⟨0,fun _ _=>h⟩
theorem Ev.bn {α : Type} {c : Prop} [Decidable c] {g f : Nat → Option α} {r : α} (hc : c) (h : Ev g r) : Ev (fun k=>if c then g k else f k) r:=by
  obtain ⟨K,h⟩:=h;exact ⟨K,fun k hk=>(if_pos hc).trans (h k hk)⟩
theorem Ev.b7 {α : Type} {c : Prop} [Decidable c] {g f : Nat → Option α} {r : α} (hc : ¬ c) (h : Ev f r) : Ev (fun k=>if c then g k else f k) r:=by
  obtain ⟨K,h⟩:=h;exact ⟨K,fun k hk=>(if_neg hc).trans (h k hk)⟩
theorem Ev.eq {α : Type} {g : Nat → Option α} {r r' : α} (h : Ev g r) (e : r = r') : Ev g r':=e ▸ h
theorem Ev.shift {α : Type} {g : Nat → Option α} {r : α} (h : Ev (fun k=>g (k + 1)) r) : Ev g r:=Ev.step (fun _=>rfl) h
theorem w64 {x : Int} (h0 : -9223372036854775808 ≤ x) (h1 : x ≤ 9223372036854775807) : wrap64 x = x:=by unfold wrap64;omega
theorem w1 {i n : Nat} (h : i < n) (hn : n ≤ 9223372036854775807) : wrap64 ((i : Int) + 1) = ((i + 1 : Nat) : Int):=by unfold wrap64;omega
theorem dD (l : List Int) (i : Nat) : rd l (i : Int) = l.getD i 0:=by simp [rd]
theorem gW (l : List Bool) (i : Nat) : iQ false l (i : Int) = l.getD i false:=by simp [iQ]
theorem eA {α : Type} (l : List α) (d : α) (i : Nat) (h : i < l.length) : l.drop i = l.getD i d :: l.drop (i + 1):=drop_cons l d i h
theorem gu {α : Type} (l : List α) (d : α) (i : Nat) (h : i < l.length) : l.take (i + 1) = l.take i ++ [l.getD i d]:=by
  rw [List.take_succ_eq_append_getElem h,List.getD_eq_getElem?_getD,List.getElem?_eq_getElem h];rfl
theorem dH {α : Type} (l : List α) (d : α) (i : Nat) (h : i < l.length) : l.getD i d ∈ l:=by
  rw [List.getD_eq_getElem?_getD,List.getElem?_eq_getElem h];exact List.getElem_mem h
theorem gN {α β : Type} (f : β → α → β) (b : β) (l : List α) (d : α) (i : Nat) (h : i < l.length) : (l.take (i + 1)).foldl f b = f ((l.take i).foldl f b) (l.getD i d):=by
  rw [gu l d i h,List.foldl_append];rfl
def filled {α : Type} (l : List α) (z : α) (i : Nat) : List α:=l.take i ++ List.replicate (l.length - i) z
theorem iH {α : Type} (l : List α) (z : α) (i : Nat) (h : i ≤ l.length) : (filled l z i).length = l.length:=by unfold filled;simp;omega
theorem gV {α : Type} (l : List α) (z : α) : filled l z 0 = List.replicate l.length z:=by simp [filled]
theorem iA {α : Type} (l : List α) (z : α) : filled l z l.length = l:=by simp [filled]
theorem iz {α : Type} (l : List α) (z d : α) (i : Nat) (h : i < l.length) : (filled l z i).set i (l.getD i d) = filled l z (i + 1):=by
  unfold filled
  have e : (l.take i).length = i:=by simp;omega
  rw [gu l d i h,List.set_append_right i (l.getD i d) (by omega),e,Nat.sub_self,show l.length - i = (l.length - (i + 1)) + 1 by omega,List.replicate_succ]
  simp
def marks (a : Int) (n : Nat) : List Int:=(List.range n).map fun i : Nat=>a + (i : Int)
def inI (a b x : Int) : Bool:=decide (a ≤ x) && decide (x ≤ b)
def isComm (q : Int) (l : List Int) : Bool:=decide (1 ≤ l.length) && decide (l.length ≤ 9) && l.all (inI 0 1000) && inI 1 l.sum q
theorem b6 {q : Int} {l : List Int} (h : isComm q l = true) : 1 ≤ l.length ∧ l.length ≤ 9:=by simp [isComm] at h;exact ⟨h.1.1.1,h.1.1.2⟩
theorem dn {q : Int} {l : List Int} (h : isComm q l = true) : ∀ x ∈ l,0 ≤ x ∧ x ≤ 1000:=by
  intro x hx
  simp [isComm,inI] at h
  exact h.1.2 x hx
theorem gM {q : Int} {l : List Int} (h : isComm q l = true) : 1 ≤ q ∧ q ≤ l.sum:=by simp [isComm,inI] at h;exact h.2
theorem lV (l : List Int) (h : ∀ x ∈ l,0 ≤ x ∧ x ≤ 1000) : 0 ≤ l.sum ∧ l.sum ≤ 1000 * l.length:=by
  induction l with
  | nil=>simp
  | cons x l ih =>
    have h1:=h x (by simp)
    have h2:=ih (fun y hy=>h y (by simp [hy]))
    simp only [List.sum_cons,List.length_cons]
    omega
def lx (l : List Int) : Int:=l.foldl (fun s x=>wrap64 (s + x)) 0
theorem mD (l : List Int) (s : Int) (hs : 0 ≤ s) (h : ∀ x ∈ l,0 ≤ x ∧ x ≤ 1000) (hb : s + 1000 * l.length ≤ 9223372036854775807) : l.foldl (fun s x=>wrap64 (s + x)) s = s + l.sum:=by
  induction l generalizing s with
  | nil=>simp
  | cons x l ih =>
    have h1:=h x (by simp)
    simp only [List.length_cons] at hb
    rw [List.foldl_cons,w64 (by omega) (by omega),ih (s + x) (by omega) (fun y hy=>h y (by simp [hy])) (by omega),List.sum_cons]
    omega
theorem jf (l : List Int) (h : ∀ x ∈ l,0 ≤ x ∧ x ≤ 1000) (hb : l.length ≤ 9000000) : lx l = l.sum:=by
  unfold lx;rw [mD l 0 (by omega) h (by omega)];omega
theorem fZ (x i : Nat) (h : i ≤ 64) : shr .i64 (x : Int) (i : Int) = ((x / 2 ^ i : Nat) : Int):=by
  unfold shr
  have e : min ((i : Int).toNat) IntKind.i64.bits = i:=by
    have : IntKind.i64.bits = 64:=rfl
    omega
  rw [e];simp
theorem pow63 {i : Nat} (h : i < 63) : 2 ^ i < 9223372036854775808:=Nat.lt_of_lt_of_le (Nat.pow_lt_pow_right (by omega) h) (by decide)
theorem gG (i : Nat) (h : i < 63) : shl .i64 1 (i : Int) = ((2 ^ i : Nat) : Int):=by
  unfold shl
  have e : min ((i : Int).toNat) IntKind.i64.bits = i:=by
    have : IntKind.i64.bits = 64:=rfl
    omega
  have h1:=pow63 h
  have c : ((2 ^ i : Nat) : Int) = 2 ^ i:=by simp
  rw [e,Int.one_mul,IntKind.wrap_i64,← c]
  generalize 2 ^ i = z at h1
  omega
theorem i64_of (n : Int) (h0 : 0 ≤ n) (h1 : n < 2 ^ 63) : IntKind.i64.wrap n = n:=by rw [IntKind.wrap_i64];omega
theorem and_nat (a b : Nat) (ha : a < 2 ^ 63) (hb : b < 2 ^ 63) : Go.bits .and .i64 (a : Int) (b : Int) = ((a &&& b : Nat) : Int):=(bits_nat .i64 63 (by decide) i64_of a b ha hb).1
theorem mQ (a b : Nat) (ha : a < 2 ^ 63) (hb : b < 2 ^ 63) : Go.bits .or .i64 (a : Int) (b : Int) = ((a ||| b : Nat) : Int):=(bits_nat .i64 63 (by decide) i64_of a b ha hb).2
theorem and_one (a : Nat) (ha : a < 2 ^ 63) : Go.bits .and .i64 (a : Int) 1 = ((a % 2 : Nat) : Int):=by
  have:=and_nat a 1 ha (by decide)
  rw [Nat.and_one_is_mod] at this
  exact this
theorem gv (a : Nat) : Int.tmod (a : Int) 2 = ((a % 2 : Nat) : Int):=by rw [Int.tmod_eq_emod_of_nonneg (by omega)];omega
theorem eH (b i : Nat) : b.testBit i = decide (b / 2 ^ i % 2 = 1):=by rw [Nat.testBit_eq_decide_div_mod_eq]
theorem kL {b i : Nat} (h : b.testBit i = false) : b ||| 2 ^ i = b + 2 ^ i:=by
  apply Nat.eq_of_testBit_eq
  intro j
  rw [Nat.testBit_or,Nat.testBit_two_pow,Nat.add_comm]
  rcases Nat.lt_trichotomy j i with hj|hj|hj
  · rw [Nat.testBit_two_pow_add_gt hj]
    have : ¬ i = j:=by omega
    simp [this]
  · subst hj
    rw [Nat.testBit_two_pow_add_eq,h]
    simp
  · have hd : (2 ^ i + b) / 2 ^ (i + 1) = b / 2 ^ (i + 1):=by
      have h0 : b / 2 ^ i % 2 = 0:=by
        rw [eH] at h
        have h1:=Nat.mod_two_eq_zero_or_one (b / 2 ^ i)
        rcases h1 with h1|h1
        · exact h1
        · simp [h1] at h
      rw [Nat.pow_succ,← Nat.div_div_eq_div_mul,← Nat.div_div_eq_div_mul,Nat.add_div_left _ (Nat.two_pow_pos i)]
      omega
    obtain ⟨d,rfl⟩ : ∃ d,j = i + 1 + d:=⟨j - (i + 1),by omega⟩
    have e : ∀ x : Nat,x.testBit (i + 1 + d) = (x / 2 ^ (i + 1)).testBit d:=fun x=>by
      rw [Nat.testBit_div_two_pow,Nat.add_comm d]
    rw [e,e,hd]
    have : ¬ i = i + 1 + d:=by omega
    simp [this]
def wt : List Int → Nat → Int
  | [],_=>0
  | x :: l,b=>(if b % 2 = 1 then x else 0) + wt l (b / 2)
def tab (n : Nat) (P : Nat → Bool) : List Bool:=(List.range (2 ^ n)).map P
theorem eC (n : Nat) (P : Nat → Bool) : (tab n P).length = 2 ^ n:=by simp [tab]
theorem fo (n : Nat) (P : Nat → Bool) (b : Nat) (h : b < 2 ^ n) : (tab n P).getD b false = P b:=by simp [tab,List.getD_eq_getElem?_getD,List.getElem?_range h]
theorem dU {n m : Nat} (h : n ≤ m) : 2 ^ n ≤ 2 ^ m:=Nat.pow_le_pow_right (by omega) h
def sel (n : Nat) (P : Nat → Bool) : List Int:=((List.range n).filter P).map fun i : Nat=>(i : Int)
theorem gI (n : Nat) (P : Nat → Bool) : sel (n + 1) P = sel n P ++ (if P n = true then [(n : Int)] else []):=by
  unfold sel
  rw [List.range_succ,List.filter_append,List.map_append]
  congr 1
  cases h : P n <;> simp [h]
theorem gY (n : Nat) (P : Nat → Bool) : (sel n P).length ≤ n:=by
  have:=List.length_filter_le P (List.range n)
  simp [sel] at *;omega
theorem Ev.all {α β : Type} {p : Nat → α → Option β} {P : α → β} (l : List α) (h : ∀ x ∈ l,Ev (fun k=>p k x) (P x)) : ∃ K,∀ k,K ≤ k → ∀ x ∈ l,p k x = Option.some (P x):=by
  induction l with
  | nil=>exact ⟨0,fun _ _ _ h=>by simp at h⟩
  | cons x l ih =>
    obtain ⟨K,hK⟩:=ih (fun y hy=>h y (by simp [hy]))
    obtain ⟨K',hK'⟩:=h x (by simp)
    refine ⟨K + K',fun k hk y hy=>?_⟩
    rcases List.mem_cons.1 hy with rfl|hy
    · exact hK' k (by omega)
    · exact hK k (by omega) y hy
theorem Ev.ask {α β γ : Type} {p : Nat → α → Option β} {P : α → β} (l : List α) (h : ∀ x ∈ l,Ev (fun k=>p k x) (P x)) {F : Nat → (α → Option β) → Option γ} {r : γ} (hF : ∃ K,∀ k,K ≤ k → ∀ q : α → Option β,(∀ x ∈ l,q x = Option.some (P x)) → F k q = Option.some r) : Ev (fun k=>F k (p k)) r:=by
  obtain ⟨K,hK⟩:=Ev.all l h
  obtain ⟨K',hK'⟩:=hF
  exact ⟨K + K',fun k hk=>hK' k (by omega) _ (hK k (by omega))⟩
theorem downq {ρ : Type} {G : Nat → Nat → Option ρ} {R : Nat → ρ} (n : Nat) (hend : ∀ k,G n (k + 1) = Option.some (R n)) (hstep : ∀ i,i < n → ∀ k,G (i + 1) k = Option.some (R (i + 1)) → G i (k + 1) = Option.some (R i)) : ∀ i,i ≤ n → ∀ k,n - i < k → G i k = Option.some (R i):=by
  have key : ∀ d i,i + d = n → ∀ k,d < k → G i k = Option.some (R i):=by
    intro d
    induction d with
    | zero => intro i hi k hk
              obtain rfl : i = n:=by omega
              obtain ⟨k,rfl⟩ : ∃ j,k = j + 1:=⟨k - 1,by omega⟩
              exact hend k
    | succ d ih => intro i hi k hk
                   obtain ⟨k,rfl⟩ : ∃ j,k = j + 1:=⟨k - 1,by omega⟩
                   exact hstep i (by omega) k (ih (i + 1) (by omega) k (by omega))
  intro i hi k hk
  exact key (n - i) i (by omega) k (by omega)
def idxFrom {α : Type} (P : α → Bool) : Nat → List α → Int
  | _,[]=>-1
  | i,x :: l=>if P x = true then (i : Int) else idxFrom P (i + 1) l
theorem jE {α : Type} (P : α → Bool) (l : List α) (i : Nat) : decide (idxFrom P i l ≥ 0) = l.any P:=by
  induction l generalizing i with
  | nil=>rfl
  | cons x l ih =>
    unfold idxFrom
    rw [List.any_cons]
    cases h : P x with
    | true=>simp only [↓reduceIte,Bool.true_or,decide_eq_true_eq];omega
    | false=>simp only [Bool.false_eq_true,↓reduceIte,Bool.false_or];exact ih (i + 1)
def over {α : Type} (t l : List α) (i : Nat) : List α:=t.take i ++ l.drop i
theorem mY {α : Type} (t l : List α) : over t l 0 = l:=by simp [over]
theorem over_all {α : Type} (t l : List α) (h : t.length = l.length) : over t l l.length = t:=by simp [over,← h]
theorem over_len {α : Type} (t l : List α) (i : Nat) (h : t.length = l.length) : (over t l i).length = l.length:=by simp [over];omega
theorem over_set {α : Type} (t l : List α) (d : α) (i : Nat) (h : t.length = l.length) (hi : i < l.length) : (over t l i).set i (t.getD i d) = over t l (i + 1):=by
  unfold over
  have e : (t.take i).length = i:=by simp;omega
  rw [gu t d i (by omega),List.set_append_right i (t.getD i d) (by omega),e,Nat.sub_self,List.drop_eq_getElem_cons hi,List.set_cons_zero,List.append_assoc]
  rfl
theorem over_get {α : Type} (t l : List α) (d : α) (i : Nat) (h : t.length = l.length) (hi : i < l.length) : (over t l i).getD i d = l.getD i d:=by
  unfold over
  rw [List.getD_eq_getElem?_getD,List.getD_eq_getElem?_getD,List.getElem?_append_right (by simp;omega),List.length_take,Nat.min_eq_left (by omega),Nat.sub_self,List.getElem?_drop,Nat.add_zero]
def jG (P : Nat → Bool) (n i : Nat) : Bool:=(List.range' i (n - i)).all P
theorem jV (P : Nat → Bool) (n : Nat) : jG P n n = true:=by simp [jG]
theorem jk (P : Nat → Bool) (n i : Nat) (h : i < n) : jG P n i = (P i && jG P n (i + 1)):=by
  unfold jG
  obtain ⟨d,rfl⟩ : ∃ d,n = i + d + 1:=⟨n - i - 1,by omega⟩
  rw [show i + d + 1 - i = d + 1 by omega,show i + d + 1 - (i + 1) = d by omega,List.range'_succ,List.all_cons]
theorem allF_iff (P : Nat → Bool) (n : Nat) : jG P n 0 = true ↔ ∀ j,j < n → P j = true:=by
  simp only [jG,List.all_eq_true,List.mem_range'_1,Nat.sub_zero,Nat.zero_add,Nat.zero_le,true_and]
def bitsOf (l : List Int) : Nat:=l.foldl (fun m x=>m ||| 2 ^ x.toNat) 0
theorem jo (l : List Int) (n : Nat) (h : ∀ x ∈ l,0 ≤ x ∧ x < n) (m : Nat) (hm : m < 2 ^ n) : l.foldl (fun m x=>m ||| 2 ^ x.toNat) m < 2 ^ n:=by
  induction l generalizing m with
  | nil=>exact hm
  | cons x l ih =>
    have h1:=h x (by simp)
    rw [List.foldl_cons]
    exact ih (fun y hy=>h y (by simp [hy])) _ (Nat.or_lt_two_pow hm (Nat.pow_lt_pow_right (by omega) (by omega)))
def d6 (w : List Bool) (i m : Nat) : Bool:=!m.testBit i && !w.getD m false && w.getD (m + 2 ^ i) false
def swl (n : Nat) (w : List Bool) : List Int:=(List.range n).map fun i=>(((List.range (2 ^ n)).countP (d6 w i) : Nat) : Int)
theorem fY (n : Nat) (w : List Bool) : (swl n w).length = n:=by simp [swl]
theorem iB (n : Nat) (w : List Bool) (i : Nat) (h : i < n) : (swl n w).getD i 0 = (((List.range (2 ^ n)).countP (d6 w i) : Nat) : Int):=by simp [swl,List.getD_eq_getElem?_getD,List.getElem?_range h]
theorem ja {n m i : Nat} (hm : m < 2 ^ n) (hi : i < n) (h : m.testBit i = false) : m + 2 ^ i < 2 ^ n:=by
  rw [← kL h];exact Nat.or_lt_two_pow hm (Nat.pow_lt_pow_right (by omega) hi)
def l4 (l : List Int) (i : Nat) : Bool:=i == 0 || decide (l.getD (i - 1) 0 < l.getD i 0)
def fj (l : List Int) (n : Int) : Bool:=l.all (inI 0 (n - 1)) && jG (l4 l) l.length 0
theorem gj {l : List Int} {n : Int} (h : fj l n = true) : ∀ x ∈ l,0 ≤ x ∧ x < n:=by
  intro x hx
  simp only [fj,Bool.and_eq_true,List.all_eq_true,inI,decide_eq_true_eq] at h
  have:=h.1 x hx
  omega
theorem allF_and (P Q : Nat → Bool) (n i : Nat) : jG (fun j=>P j && Q j) n i = (jG P n i && jG Q n i):=by
  unfold jG
  induction (List.range' i (n - i)) with
  | nil=>rfl
  | cons x l ih=>simp only [List.all_cons,ih];cases P x <;> cases Q x <;> simp
theorem mz {α : Type} (P : α → Bool) (l : List α) (d : α) (i : Nat) (h : i ≤ l.length) : jG (fun j=>P (l.getD j d)) l.length i = (l.drop i).all P:=by
  refine back (P:=fun i=>jG (fun j=>P (l.getD j d)) l.length i = (l.drop i).all P) l.length ?_ ?_ i h
  · rw [jV];simp
  · intro i hi ih
    rw [jk _ _ _ hi,ih,eA l d i hi,List.all_cons]
def kC (s : List Int) (v : Int) : Bool:=s.any fun x=>decide (v = x)
theorem cM.ev (l : List Int) (v : Int) (hm : l.length ≤ 9223372036854775807) : Ev (fun k=>cM.f k l v) (kC l v):=by
  unfold cM.f bW.f kC
  have key := Ev.down (G := fun i k => bW.l0 k l v (l.length : Int) (i : Int)) (R := fun i => idxFrom (fun x => decide (v = x)) i (l.drop i)) l.length
    (by refine Ev.shift ?_
        simp only [bW.l0,Int.lt_irrefl,↓reduceIte,List.drop_length,idxFrom]
        exact Ev.some)
    (fun i hi ih=>by
        refine Ev.shift ?_
        have c1 : (i : Int) < (l.length : Int):=by omega
        have c0 : (0 : Int) ≤ (i : Int):=by omega
        simp only [bW.l0,c1,c0,↓reduceIte,w1 hi hm,dD]
        rw [eA l 0 i hi,idxFrom]
        by_cases hv : v = l.getD i 0
        · simp only [← hv,↓reduceIte,decide_true];exact Ev.some
        · simp only [hv,↓reduceIte,decide_false,Bool.false_eq_true];exact ih)
  have k0:=key 0 (Nat.zero_le _)
  rw [List.drop_zero] at k0
  refine Ev.bind k0 ?_
  rw [jE]
  exact Ev.some
theorem cY.eq (a b c : Int) : cY.f a b c = some (inI b c a):=by
  unfold cY.f inI
  by_cases h : a ≥ b
  · have h' : b ≤ a:=h
    simp [h']
  · have h' : ¬ b ≤ a:=h
    simp [h']
theorem cv.eq (a b c : Int) : cv.f a b c = some (inI b c a):=by
  unfold cv.f inI
  by_cases h : a ≥ b
  · have h' : b ≤ a:=h
    simp [h']
  · have h' : ¬ b ≤ a:=h
    simp [h']
theorem cE.ev (l : List Int) (hm : l.length ≤ 9223372036854775807) : Ev (fun k=>cE.f k l) (lx l):=by
  have key := Ev.down (G := fun i k => cE.l0 k ((l.take i).foldl (fun s x => wrap64 (s + x)) 0) l (l.length : Int) (i : Int)) (R := fun _ => lx l) l.length
    (by refine Ev.shift ?_
        simp only [cE.l0,Int.lt_irrefl,↓reduceIte,List.take_length]
        exact Ev.some)
    (fun i hi ih=>by
        refine Ev.shift ?_
        have c1 : (i : Int) < (l.length : Int):=by omega
        have c0 : (0 : Int) ≤ (i : Int):=by omega
        simp only [cE.l0,c1,c0,↓reduceIte,w1 hi hm,dD]
        rw [gN _ _ l 0 i hi] at ih
        exact ih)
  exact key 0 (Nat.zero_le _)
theorem bz.ev (l : List Int) (hm : l.length ≤ 9223372036854775807) : Ev (fun k=>bz.f k l) (lx l):=by
  have key := Ev.down (G := fun i k => bz.l0 k ((l.take i).foldl (fun s x => wrap64 (s + x)) 0) l (l.length : Int) (i : Int)) (R := fun _ => lx l) l.length
    (by refine Ev.shift ?_
        simp only [bz.l0,Int.lt_irrefl,↓reduceIte,List.take_length]
        exact Ev.some)
    (fun i hi ih=>by
        refine Ev.shift ?_
        have c1 : (i : Int) < (l.length : Int):=by omega
        have c0 : (0 : Int) ≤ (i : Int):=by omega
        simp only [bz.l0,c1,c0,↓reduceIte,w1 hi hm,dD]
        rw [gN _ _ l 0 i hi] at ih
        exact ih)
  exact key 0 (Nat.zero_le _)
theorem ku (q : Int) (l : List Int) : isComm q l = if (1 ≤ l.length ∧ l.length ≤ 9) ∧ l.all (inI 0 1000) = true then inI 1 (lx l) q else false:=by
  unfold isComm
  by_cases h : (1 ≤ l.length ∧ l.length ≤ 9) ∧ l.all (inI 0 1000) = true
  · have hm : ∀ x ∈ l,0 ≤ x ∧ x ≤ 1000:=by
      have:=h.2
      simp [inI] at this
      exact this
    rw [if_pos h,jf l hm (by omega)]
    simp only [h.1.1,h.1.2,h.2,decide_true,Bool.true_and]
  · rw [if_neg h]
    by_cases h1 : 1 ≤ l.length
    · by_cases h2 : l.length ≤ 9
      · have h3 : l.all (inI 0 1000) = false:=by
          cases h4 : l.all (inI 0 1000) with
          | true=>exact absurd ⟨⟨h1,h2⟩,h4⟩ h
          | false=>rfl
        simp only [h3,Bool.and_false,Bool.false_and]
      · simp only [h2,decide_false,Bool.and_false,Bool.false_and]
    · simp only [h1,decide_false,Bool.false_and]
theorem bm.ev (l : List Int) (hm : l.length ≤ 9223372036854775807) (p : Nat → Int → Option Bool) (P : Int → Bool) (h : ∀ x ∈ l,Ev (fun k=>p k x) (P x)) : Ev (fun k=>bm.f k l (p k)) (idxFrom P 0 l):=by
  refine Ev.ask (F:=fun k q=>bm.f k l q) l h ⟨l.length + 1,fun k hk q hq=>?_⟩
  unfold bm.f
  have := downq (G := fun i k => bm.l0 k l q (l.length : Int) (i : Int)) (R := fun i => idxFrom P i (l.drop i)) l.length
    (by intro k;simp only [bm.l0,Int.lt_irrefl,↓reduceIte,List.drop_length,idxFrom])
    (fun i hi k ih=>by
      have c1 : (i : Int) < (l.length : Int):=by omega
      have c0 : (0 : Int) ≤ (i : Int):=by omega
      simp only [bm.l0,c1,c0,↓reduceIte,w1 hi hm,dD,hq _ (dH l 0 i hi),Option.bind_some]
      rw [eA l 0 i hi,idxFrom,ih]
      split <;> rfl) 0 (Nat.zero_le _) k (by omega)
  rwa [List.drop_zero] at this
theorem cr.ev (l : List Int) (hm : l.length ≤ 9223372036854775807) (p : Nat → Int → Option Bool) (P : Int → Bool) (h : ∀ x ∈ l,Ev (fun k=>p k x) (P x)) : Ev (fun k=>cr.f k l (p k)) (l.any P):=by
  unfold cr.f
  refine Ev.bind (bm.ev l hm p P h) ?_
  rw [jE]
  exact Ev.some
theorem dI.ev (l : List Int) (a b : Int) (hm : l.length ≤ 9223372036854775807) : Ev (fun k=>dI.f k l a b) (l.all (inI a b)):=by
  unfold dI.f
  refine Ev.bind (cr.ev l hm (fun _ x=>dZ.f x a b) (fun x=>!inI a b x) (fun x _=>?_)) ?_
  · simp only [dZ.f,cY.eq,Option.bind_some];exact Ev.some
  · rw [all_any];exact Ev.some
theorem aW.ev (q : Int) (l : List Int) (hm : l.length ≤ 9223372036854775807) : Ev (fun k=>aW.f k q l) (isComm q l):=by
  rw [ku]
  unfold aW.f
  by_cases h1 : 1 ≤ l.length
  · have c1 : (l.length : Int) ≥ 1:=by omega
    by_cases h2 : l.length ≤ 9
    · have c2 : (l.length : Int) ≤ 9:=by omega
      simp only [c1,c2,h1,h2,↓reduceIte,and_self,true_and]
      refine Ev.bind (dI.ev l 0 1000 hm) ?_
      by_cases h3 : l.all (inI 0 1000) = true
      · simp only [h3,↓reduceIte]
        refine Ev.bind (cE.ev l hm) ?_
        simp only [cY.eq,Option.bind_some]
        exact Ev.some
      · simp only [h3]
        exact Ev.some
    · have c2 : ¬ (l.length : Int) ≤ 9:=by omega
      simp only [c1,c2,h2,↓reduceIte,and_false,false_and]
      exact Ev.some
  · have c1 : ¬ (l.length : Int) ≥ 1:=by omega
    simp only [c1,h1,↓reduceIte,false_and]
    exact Ev.some
theorem dt.ev (l : List Int) (a b : Int) (hm : l.length ≤ 9223372036854775807) : Ev (fun k=>dt.f k l a b) (l.all (inI a b)):=by
  have key := Ev.down (G := fun i k => dt.l0 k a b l (l.length : Int) (i : Int)) (R := fun i => (l.drop i).all (inI a b)) l.length
    (by refine Ev.shift ?_
        simp only [dt.l0,Int.lt_irrefl,↓reduceIte,List.drop_length,List.all_nil]
        exact Ev.some)
    (fun i hi ih=>by
        refine Ev.shift ?_
        have c1 : (i : Int) < (l.length : Int):=by omega
        have c0 : (0 : Int) ≤ (i : Int):=by omega
        simp only [dt.l0,c1,c0,↓reduceIte,w1 hi hm,dD,cv.eq,Option.bind_some]
        rw [eA l 0 i hi,List.all_cons]
        cases h : inI a b (l.getD i 0) with
        | true=>simp only [↓reduceIte,Bool.true_and];exact ih
        | false=>simp only [Bool.false_eq_true,↓reduceIte,Bool.false_and];exact Ev.some)
  exact key 0 (Nat.zero_le _)
theorem ck.ev (q : Int) (l : List Int) (hm : l.length ≤ 9223372036854775807) : Ev (fun k=>ck.f k q l) (isComm q l):=by
  rw [ku]
  unfold ck.f
  simp only [cv.eq,Option.bind_some]
  have e : inI 1 9 (l.length : Int) = decide (1 ≤ l.length ∧ l.length ≤ 9):=by
    unfold inI;rw [Bool.eq_iff_iff];simp;omega
  rw [e]
  by_cases h : 1 ≤ l.length ∧ l.length ≤ 9
  · simp only [h,decide_true,↓reduceIte,and_self,true_and]
    refine Ev.bind (dt.ev l 0 1000 hm) ?_
    refine Ev.shift ?_
    by_cases h3 : l.all (inI 0 1000) = true
    · simp only [ck.j0,h3,Bool.not_true,Bool.false_eq_true,↓reduceIte]
      refine Ev.bind (bz.ev l hm) ?_
      simp only [cv.eq,Option.bind_some]
      exact Ev.some
    · have h4 : l.all (inI 0 1000) = false:=by simpa using h3
      simp only [ck.j0,h4,Bool.not_false,Bool.false_eq_true,↓reduceIte]
      exact Ev.some
  · simp only [h,decide_false,Bool.false_eq_true,↓reduceIte,false_and]
    refine Ev.shift ?_
    simp only [ck.j0,↓reduceIte]
    exact Ev.some
theorem b5.ev (l : List Int) (hl : l.length ≤ 9223372036854775807) : Ev (fun k=>b5.f k l) (jG (l4 l) l.length 0):=by
  have key := Ev.down (G := fun i k => b5.l0 k l (l.length : Int) (i : Int)) (R := fun i => jG (l4 l) l.length i) l.length
    (by refine Ev.shift ?_
        simp only [b5.l0,Int.lt_irrefl,↓reduceIte,jV]
        exact Ev.some)
    (fun i hi ih=>by
        refine Ev.shift ?_
        have c1 : (i : Int) < (l.length : Int):=by omega
        have c0 : (0 : Int) ≤ (i : Int):=by omega
        rw [jk _ _ _ hi]
        simp only [b5.l0,c1,c0,↓reduceIte,w1 hi hl]
        by_cases h0 : i = 0
        · subst h0
          simp only [show ¬ ((0 : Nat) : Int) > 0 by omega,↓reduceIte,l4,beq_self_eq_true,Bool.true_or,Bool.true_and]
          exact ih
        · have c2 : (i : Int) > 0:=by omega
          have e : wrap64 ((i : Int) - 1) = ((i - 1 : Nat) : Int):=by rw [w64 (by omega) (by omega)];omega
          have c3 : (0 : Int) ≤ ((i - 1 : Nat) : Int):=by omega
          have c4 : ((i - 1 : Nat) : Int) < (l.length : Int):=by omega
          have hb : (i == 0) = false:=by simp [h0]
          simp only [c2,↓reduceIte,e,c3,c4,dD,l4,hb,Bool.false_or]
          by_cases h1 : l.getD (i - 1) 0 < l.getD i 0
          · have h2 : ¬ l.getD i 0 ≤ l.getD (i - 1) 0:=by omega
            simp only [h1,h2,↓reduceIte,decide_true,Bool.true_and]
            exact ih
          · have h2 : l.getD i 0 ≤ l.getD (i - 1) 0:=by omega
            simp only [h1,h2,↓reduceIte,decide_false,Bool.false_and]
            exact Ev.some)
  exact key 0 (Nat.zero_le _)
theorem fa.ev (l : List Int) (n : Int) (hl : l.length ≤ 9223372036854775807) (h0 : -9000 ≤ n) (h1 : n ≤ 9223372036854775807) : Ev (fun k=>fa.f k l n) (fj l n):=by
  unfold fa.f fj
  rw [w64 (by omega) (by omega)]
  refine Ev.bind (dI.ev l 0 (n - 1) hl) ?_
  cases l.all (inI 0 (n - 1)) with
  | false=>exact Ev.some
  | true =>
    simp only [↓reduceIte,Bool.true_and]
    exact Ev.bind (b5.ev l hl) Ev.some
theorem eZ.ev (l : List Int) (n : Int) (hl : l.length ≤ 9223372036854775807) (h0 : -9000 ≤ n) (h1 : n ≤ 9223372036854775807) : Ev (fun k=>eZ.f k n l) (fj l n):=by
  unfold eZ.f fj
  rw [w64 (by omega) (by omega)]
  refine Ev.bind (a:=l.all (inI 0 (n - 1)) && jG (l4 l) l.length 0) ?_ Ev.some
  have e : (l.all (inI 0 (n - 1)) && jG (l4 l) l.length 0) = jG (fun j=>inI 0 (n - 1) (l.getD j 0) && l4 l j) l.length 0:=by
    rw [allF_and,mz (inI 0 (n - 1)) l 0 0 (Nat.zero_le _),List.drop_zero]
  rw [e]
  have key := Ev.down (G := fun i k => de.l0 k l 0 (n - 1) l (l.length : Int) (i : Int)) (R := fun i => jG (fun j => inI 0 (n - 1) (l.getD j 0) && l4 l j) l.length i) l.length
    (by refine Ev.shift ?_
        simp only [de.l0,Int.lt_irrefl,↓reduceIte,jV]
        exact Ev.some)
    (fun i hi ih=>by
        refine Ev.shift ?_
        have c1 : (i : Int) < (l.length : Int):=by omega
        have c0 : (0 : Int) ≤ (i : Int):=by omega
        rw [jk _ _ _ hi]
        simp only [de.l0,c1,c0,↓reduceIte,w1 hi hl,cv.eq,Option.bind_some,dD]
        cases inI 0 (n - 1) (l.getD i 0) with
        | false=>simp only [Bool.false_eq_true,↓reduceIte,Bool.false_and];exact Ev.some
        | true =>
          simp only [↓reduceIte,Bool.true_and]
          by_cases h0 : i = 0
          · subst h0
            simp only [show ¬ ((0 : Nat) : Int) > 0 by omega,↓reduceIte,l4,beq_self_eq_true,Bool.true_or,Bool.true_and]
            exact ih
          · have c2 : (i : Int) > 0:=by omega
            have e : wrap64 ((i : Int) - 1) = ((i - 1 : Nat) : Int):=by rw [w64 (by omega) (by omega)];omega
            have c3 : (0 : Int) ≤ ((i - 1 : Nat) : Int):=by omega
            have c4 : ((i - 1 : Nat) : Int) < (l.length : Int):=by omega
            have hb : (i == 0) = false:=by simp [h0]
            simp only [c2,↓reduceIte,e,c3,c4,dD,l4,hb,Bool.false_or]
            by_cases h1 : l.getD (i - 1) 0 < l.getD i 0
            · have h2 : ¬ l.getD (i - 1) 0 ≥ l.getD i 0:=by omega
              simp only [h1,h2,↓reduceIte,decide_true,Bool.true_and]
              exact ih
            · have h2 : l.getD (i - 1) 0 ≥ l.getD i 0:=by omega
              simp only [h1,h2,↓reduceIte,decide_false,Bool.false_and]
              exact Ev.some)
  exact key 0 (Nat.zero_le _)
theorem dw.ev (q : Int) (l s : List Int) (hm : l.length ≤ 9223372036854775807) (hs : s.length ≤ 9223372036854775807) : Ev (fun k=>dw.f k q l s) (isComm q l && fj s l.length):=by
  unfold dw.f
  refine Ev.bind (aW.ev q l hm) ?_
  cases h : isComm q l with
  | false=>exact Ev.some
  | true=>simp only [↓reduceIte,Bool.true_and];exact Ev.bind (fa.ev s l.length hs (by omega) (by omega)) Ev.some
theorem dO.ev (q : Int) (l s : List Int) (hm : l.length ≤ 9223372036854775807) (hs : s.length ≤ 9223372036854775807) : Ev (fun k=>dO.f k q l s) (isComm q l && fj s l.length):=by
  unfold dO.f
  refine Ev.bind (ck.ev q l hm) ?_
  cases h : isComm q l with
  | false=>exact Ev.some
  | true=>simp only [↓reduceIte,Bool.true_and];exact Ev.bind (eZ.ev s l.length hs (by omega) (by omega)) Ev.some
theorem db.ev (l : List Int) (hl : l.length ≤ 1048576) (h : ∀ x ∈ l,0 ≤ x ∧ x < 62) : Ev (fun k=>db.f k l) (bitsOf l : Int):=by
  have key := Ev.down (G := fun i k => db.l0 k (((l.take i).foldl (fun m x => m ||| 2 ^ x.toNat) 0 : Nat) : Int) l (l.length : Int) (i : Int)) (R := fun _ => (bitsOf l : Int)) l.length
    (by refine Ev.shift ?_
        simp only [db.l0,Int.lt_irrefl,↓reduceIte,List.take_length]
        exact Ev.some)
    (fun i hi ih=>by
        refine Ev.shift ?_
        have c1 : (i : Int) < (l.length : Int):=by omega
        have c0 : (0 : Int) ≤ (i : Int):=by omega
        have hx:=h _ (dH l 0 i hi)
        have hm : (l.take i).foldl (fun m x=>m ||| 2 ^ x.toNat) 0 < 2 ^ 62:=jo _ 62 (fun y hy=>h y (List.mem_of_mem_take hy)) 0 (by decide)
        rw [gN _ _ l 0 i hi] at ih
        simp only [db.l0,c1,c0,↓reduceIte,w1 hi (show l.length ≤ 9223372036854775807 by omega),dD,hx.1]
        obtain ⟨j,hj⟩ : ∃ j : Nat,l.getD i 0 = (j : Int):=⟨(l.getD i 0).toNat,by omega⟩
        rw [hj] at ih hx ⊢
        have hp : 2 ^ j < 2 ^ 63:=Nat.pow_lt_pow_right (by omega) (by omega)
        rw [gG j (by omega),mQ _ _ (Nat.lt_of_lt_of_le hm (by decide)) hp]
        exact ih)
  exact key 0 (Nat.zero_le _)
theorem dr.eq (b i : Nat) (hi : i ≤ 64) (hb : b < 2 ^ 63) : dr.f (b : Int) (i : Int) = some (b.testBit i):=by
  have c : (0 : Int) ≤ (i : Int):=by omega
  have hd : b / 2 ^ i < 2 ^ 63:=Nat.lt_of_le_of_lt (Nat.div_le_self _ _) hb
  unfold dr.f
  rw [if_pos c,fZ b i hi,and_one _ hd,eH]
  congr 1
  rcases Nat.mod_two_eq_zero_or_one (b / 2 ^ i) with h|h <;> rw [h] <;> rfl
theorem bh.ev (q : Int) (l : List Int) (b : Nat) (h : ∀ x ∈ l,0 ≤ x ∧ x ≤ 1000) (hl : l.length ≤ 64) (hb : b < 2 ^ 63) : Ev (fun k=>bh.f k q l (b : Int)) (wt l b):=by
  have key := back (P := fun i => ∀ s : Int, 0 ≤ s → s ≤ 1000 * i → Ev (fun k => bh.l0 k (b : Int) s l (l.length : Int) (i : Int)) (s + wt (l.drop i) (b / 2 ^ i))) l.length
    (by intro s h0 h1
        refine Ev.shift ?_
        simp only [bh.l0,Int.lt_irrefl,↓reduceIte,List.drop_length,wt,Int.add_zero]
        exact Ev.some)
    (by intro i hi ih s h0 h1
        refine Ev.shift ?_
        have c1 : (i : Int) < (l.length : Int):=by omega
        have c0 : (0 : Int) ≤ (i : Int):=by omega
        have hx:=h _ (dH l 0 i hi)
        simp only [bh.l0,c1,c0,↓reduceIte,dr.eq b i (by omega) hb,Option.bind_some,w1 hi (show l.length ≤ 9223372036854775807 by omega),dD,eH]
        rw [eA l 0 i hi,wt,Nat.div_div_eq_div_mul,show (2 ^ i * 2 : Nat) = 2 ^ (i + 1) from rfl]
        by_cases hbit : b / 2 ^ i % 2 = 1
        · simp only [hbit,decide_true,↓reduceIte]
          rw [w64 (by omega) (by omega)]
          refine Ev.eq (ih _ (by omega) (by omega)) (by omega)
        · simp only [hbit,decide_false,Bool.false_eq_true,↓reduceIte]
          refine Ev.eq (ih _ (by omega) (by omega)) (by omega))
  have:=key 0 (Nat.zero_le _) 0 (by omega) (by omega)
  unfold bh.f
  rw [List.drop_zero,Nat.pow_zero,Nat.div_one,Int.zero_add] at this
  exact this
theorem lF (n d m : Nat) (h : m < 2 ^ n) : sel (n + d) m.testBit = sel n m.testBit:=by
  induction d with
  | zero=>rfl
  | succ d ih =>
    rw [show n + (d + 1) = (n + d) + 1 from rfl,gI,ih,Nat.testBit_lt_two_pow (Nat.lt_of_lt_of_le h (Nat.pow_le_pow_right (by omega) (by omega)))]
    simp
theorem dj.ev (m : Nat) (h : m < 512) : Ev (fun k=>dj.f k (m : Int)) (sel 9 m.testBit):=by
  unfold dj.f
  have key := Ev.down (G := fun i k => dj.l0 k (m : Int) (sel i m.testBit) (i : Int)) (R := fun _ => sel 9 m.testBit) 9
    (by refine Ev.shift ?_
        have c0 : (0 : Int) ≤ ((9 : Nat) : Int):=by omega
        have e : m / 2 ^ 9 = 0:=Nat.div_eq_of_lt h
        have c : ¬ (((0 : Nat) : Int) > 0):=by omega
        simp only [dj.l0,c0,↓reduceIte,fZ m 9 (by omega),e,c]
        exact Ev.some)
    (fun i hi ih=>by
      refine Ev.shift ?_
      have c0 : (0 : Int) ≤ (i : Int):=by omega
      have c2 : (sel i m.testBit).length < 17592186044416:=by have:=gY i m.testBit;omega
      rw [gI] at ih
      simp only [dj.l0,c0,↓reduceIte,fZ m i (by omega),gv,c2,w1 hi (by omega)]
      by_cases hz : m / 2 ^ i = 0
      · have c : ¬ (((m / 2 ^ i : Nat) : Int) > 0):=by rw [hz];decide
        simp only [c,↓reduceIte]
        refine Ev.eq Ev.some ?_
        have hlt : m < 2 ^ i:=by
          rcases Nat.div_eq_zero_iff.1 hz with h|h
          · exact absurd h (by have:=Nat.two_pow_pos i;omega)
          · exact h
        have:=lF i (9 - i) m hlt
        rw [show i + (9 - i) = 9 by omega] at this
        exact this.symm
      · have c : (((m / 2 ^ i : Nat) : Int) > 0):=Int.natCast_pos.2 (Nat.pos_of_ne_zero hz)
        simp only [c,↓reduceIte]
        cases hb : m.testBit i with
        | true =>
          rw [eH,decide_eq_true_eq] at hb
          have c3 : ((m / 2 ^ i % 2 : Nat) : Int) = 1:=by omega
          rw [eH,show decide (m / 2 ^ i % 2 = 1) = true from decide_eq_true hb,if_pos rfl] at ih
          simp only [c3,↓reduceIte]
          exact ih
        | false =>
          rw [hb,if_neg (by decide),List.append_nil] at ih
          rw [eH,decide_eq_false_iff_not] at hb
          have c3 : ¬ ((m / 2 ^ i % 2 : Nat) : Int) = 1:=by omega
          simp only [c3,↓reduceIte]
          exact ih)
  exact key 0 (by omega)
theorem bS.ev (n : Nat) (hn : n ≤ 40) (p : Nat → Int → Option Bool) (P : Nat → Bool) (h : ∀ b : Nat,b < 2 ^ n → Ev (fun k=>p k (b : Int)) (P b)) : Ev (fun k=>bS.f k (n : Int) (p k)) ((n : Int),tab n P):=by
  obtain ⟨K,hK⟩:=Ev.all (p:=fun k (b : Nat)=>p k (b : Int)) (P:=P) (List.range (2 ^ n)) (fun b hb=>h b (List.mem_range.1 hb))
  have hpos:=Nat.two_pow_pos n
  refine ⟨K + 2 ^ n + 1,fun k hk=>?_⟩
  have hq:=hK k (by omega)
  show bS.f k (n : Int) (p k) = _
  generalize p k = q at hq ⊢
  have hq : ∀ b : Nat,b < 2 ^ n → q (b : Int) = some (P b):=fun b hb=>hq b (List.mem_range.2 hb)
  have h40 : 2 ^ n ≤ 1099511627776:=dU hn
  have hle : (2 ^ n : Nat) ≤ 281474976710656:=by omega
  have c0 : (0 : Int) ≤ (n : Int):=by omega
  have c1 : (0 : Int) ≤ ((2 ^ n : Nat) : Int):=by omega
  have hl:=eC n P
  unfold bS.f
  simp only [c0,↓reduceIte,gG n (by omega),c1,Int.toNat_natCast,hle,Option.bind_some,List.length_replicate]
  have := downq (G := fun i k => bS.l0 k q ((2 ^ n : Nat) : Int) (i : Int) (n : Int) (filled (tab n P) false i)) (R := fun _ => ((n : Int), tab n P)) (2 ^ n)
    (by intro k
        have : filled (tab n P) false (2 ^ n) = tab n P:=by rw [← hl];exact iA _ _
        simp only [bS.l0,Int.lt_irrefl,↓reduceIte,this])
    (fun i hi k ih=>by
        have c1 : (i : Int) < ((2 ^ n : Nat) : Int):=by omega
        have c0 : (0 : Int) ≤ (i : Int):=by omega
        have c2 : (i : Int) < ((filled (tab n P) false i).length : Int):=by rw [iH _ _ _ (by omega)];omega
        have hs:=iz (tab n P) false false i (by omega)
        rw [fo n P i hi] at hs
        simp only [bS.l0,c1,c0,c2,↓reduceIte,hq i hi,Option.bind_some,w1 hi (show 2 ^ n ≤ 9223372036854775807 by omega),Int.toNat_natCast,hs]
        exact ih) 0 (Nat.zero_le _) k (by omega)
  rw [gV,hl] at this
  exact this
def fL (q : Int) (l : List Int) (b : Nat) : Bool:=decide (wt l b ≥ q)
theorem bb.ev (q : Int) (l : List Int) (h : ∀ x ∈ l,0 ≤ x ∧ x ≤ 1000) (hl : l.length ≤ 40) : Ev (fun k=>bb.f k q l) ((l.length : Int),tab l.length (fL q l)):=by
  unfold bb.f
  refine Ev.bind (bS.ev l.length hl (fun k y=>cF.f k y q l) (fL q l) (fun b hb=>?_)) Ev.some
  unfold cF.f
  have h40 : 2 ^ l.length ≤ 1099511627776:=dU hl
  exact Ev.bind (bh.ev q l b h (by omega) (by omega)) Ev.some
theorem cd.ev (l : List Int) (hl : l.length ≤ 9223372036854775807) : Ev (fun k=>cd.f k l l) true:=by
  unfold cd.f
  refine Ev.bn rfl ?_
  have key := Ev.down (G := fun i k => cd.l0 k l l (l.length : Int) (i : Int)) (R := fun _ => true) l.length
    (by refine Ev.shift ?_
        simp only [cd.l0,Int.lt_irrefl,↓reduceIte]
        exact Ev.some)
    (fun i hi ih=>by
      refine Ev.shift ?_
      have c1 : (i : Int) < (l.length : Int):=by omega
      have c0 : (0 : Int) ≤ (i : Int):=by omega
      simp only [cd.l0,c1,c0,↓reduceIte,w1 hi hl]
      exact ih)
  exact key 0 (Nat.zero_le _)
theorem dc.ev (l : List Int) (v : Int) (hl : l.length ≤ 9223372036854775807) : Ev (fun k=>dc.f k l v) (kC l v):=by
  unfold dc.f kC
  have key := Ev.down (G := fun i k => dc.l0 k v l (l.length : Int) (i : Int)) (R := fun i => (l.drop i).any fun x => decide (v = x)) l.length
    (by refine Ev.shift ?_
        simp only [dc.l0,Int.lt_irrefl,↓reduceIte,List.drop_length,List.any_nil]
        exact Ev.some)
    (fun i hi ih=>by
      refine Ev.shift ?_
      have c1 : (i : Int) < (l.length : Int):=by omega
      have c0 : (0 : Int) ≤ (i : Int):=by omega
      rw [eA l 0 i hi,List.any_cons]
      simp only [dc.l0,c1,c0,↓reduceIte,w1 hi hl,dD]
      by_cases e : l.getD i 0 = v
      · refine Ev.bn e ?_
        rw [decide_eq_true e.symm]
        exact Ev.some
      · refine Ev.b7 e ?_
        rw [decide_eq_false (fun h=>e h.symm),Bool.false_or]
        exact ih)
  exact key 0 (Nat.zero_le _)
theorem cg.ev (l : List Int) (hl : l.length ≤ 1048576) (hr : l.Pairwise (· < ·)) : Ev (fun k=>cg.f k l) true:=by
  unfold cg.f
  have key := Ev.down (G := fun i k => cg.l0 k l ((i + 1 : Nat) : Int)) (R := fun _ => true) (l.length)
    (by refine Ev.shift ?_
        have c : ¬ (((l.length + 1 : Nat) : Int) < (l.length : Int)):=by omega
        simp only [cg.l0,c,↓reduceIte]
        exact Ev.some)
    (fun i hi ih=>by
      refine Ev.shift ?_
      by_cases c : ((i + 1 : Nat) : Int) < (l.length : Int)
      · have e : wrap64 (((i + 1 : Nat) : Int) - 1) = (i : Int):=by rw [w64 (by omega) (by omega)];omega
        have c0 : (0 : Int) ≤ (i : Int):=by omega
        have c1 : (i : Int) < (l.length : Int):=by omega
        have c2 : (0 : Int) ≤ ((i + 1 : Nat) : Int):=by omega
        have hlt : l.getD i 0 < l.getD (i + 1) 0:=by
          rw [List.getD_eq_getElem?_getD,List.getD_eq_getElem?_getD,List.getElem?_eq_getElem hi,List.getElem?_eq_getElem (show i + 1 < l.length by omega)]
          exact List.pairwise_iff_getElem.1 hr i (i + 1) hi (by omega) (by omega)
        have c3 : ¬ (l.getD i 0 ≥ l.getD (i + 1) 0):=by omega
        have e2 : wrap64 (((i + 1 : Nat) : Int) + 1) = ((i + 1 + 1 : Nat) : Int):=by rw [w64 (by omega) (by omega)];omega
        simp only [cg.l0,c,e,e2,c0,c1,c2,c3,dD,↓reduceIte]
        exact ih
      · simp only [cg.l0,c,↓reduceIte]
        exact Ev.some)
  exact key 0 (Nat.zero_le _)
theorem dq.ev (m : Nat) (h : m < 512) : Ev (fun k=>dq.f k (m : Int)) (sel 9 m.testBit):=by
  unfold dq.f
  have key := Ev.down (G := fun i k => dq.l0 k (m : Int) (sel i m.testBit) (i : Int)) (R := fun _ => sel 9 m.testBit) 9
    (by refine Ev.shift ?_
        have c0 : (0 : Int) ≤ ((9 : Nat) : Int):=by omega
        have e : m / 2 ^ 9 = 0:=Nat.div_eq_of_lt h
        have c : ¬ (((0 : Nat) : Int) > 0):=by omega
        simp only [dq.l0,c0,↓reduceIte,fZ m 9 (by omega),e,c]
        exact Ev.some)
    (fun i hi ih=>by
      refine Ev.shift ?_
      have c0 : (0 : Int) ≤ (i : Int):=by omega
      have c2 : (sel i m.testBit).length < 17592186044416:=by have:=gY i m.testBit;omega
      rw [gI] at ih
      simp only [dq.l0,c0,↓reduceIte,fZ m i (by omega),gv,c2,w1 hi (by omega)]
      by_cases hz : m / 2 ^ i = 0
      · have c : ¬ (((m / 2 ^ i : Nat) : Int) > 0):=by rw [hz];decide
        simp only [c,↓reduceIte]
        refine Ev.eq Ev.some ?_
        have hlt : m < 2 ^ i:=by
          rcases Nat.div_eq_zero_iff.1 hz with h|h
          · exact absurd h (by have:=Nat.two_pow_pos i;omega)
          · exact h
        have:=lF i (9 - i) m hlt
        rw [show i + (9 - i) = 9 by omega] at this
        exact this.symm
      · have c : (((m / 2 ^ i : Nat) : Int) > 0):=Int.natCast_pos.2 (Nat.pos_of_ne_zero hz)
        simp only [c,↓reduceIte]
        cases hb : m.testBit i with
        | true =>
          rw [eH,decide_eq_true_eq] at hb
          have c3 : ((m / 2 ^ i % 2 : Nat) : Int) = 1:=by omega
          rw [eH,show decide (m / 2 ^ i % 2 = 1) = true from decide_eq_true hb,if_pos rfl] at ih
          simp only [c3,↓reduceIte]
          exact ih
        | false =>
          rw [hb,if_neg (by decide),List.append_nil] at ih
          rw [eH,decide_eq_false_iff_not] at hb
          have c3 : ¬ ((m / 2 ^ i % 2 : Nat) : Int) = 1:=by omega
          simp only [c3,↓reduceIte]
          exact ih)
  exact key 0 (by omega)
theorem my : ((List.range 512).all fun m=>bitsOf (sel 9 m.testBit) == m && (List.range 10).all fun n=>!(decide (m < 2 ^ n)) || fj (sel 9 m.testBit) (n : Int)) = true:=by decide +kernel
theorem zbits {m : Nat} (h : m < 512) : bitsOf (sel 9 m.testBit) = m ∧ ∀ n : Nat,n ≤ 9 → m < 2 ^ n → fj (sel 9 m.testBit) (n : Int) = true:=by
  have q:=my
  rw [List.all_eq_true] at q
  have q:=q m (List.mem_range.2 h)
  rw [Bool.and_eq_true,List.all_eq_true] at q
  refine ⟨by simpa using q.1,fun n hn hm=>?_⟩
  have:=q.2 n (List.mem_range.2 (by omega))
  simpa [hm] using this
theorem cb.bits (q : Int) (l : List Int) (hc : isComm q l = true) (m : Nat) (h : m < 2 ^ l.length) : Ev (fun k=>cb.f k q l (sel 9 m.testBit)) (fL q l m,true):=by
  have hlen:=b6 hc
  have h9 : 2 ^ l.length ≤ 512:=dU (m:=9) hlen.2
  obtain ⟨e,hs⟩:=zbits (show m < 512 by omega)
  have hs:=hs l.length hlen.2 h
  have hmem:=gj hs
  have hsl:=gY 9 m.testBit
  unfold cb.f
  have a:=dw.ev q l (sel 9 m.testBit) (by omega) (by omega)
  rw [hc,hs] at a
  refine Ev.bind a (Ev.bn rfl ?_)
  have b:=db.ev (sel 9 m.testBit) (by omega) (fun x hx=>by have:=hmem x hx;omega)
  rw [e] at b
  refine Ev.bind b (Ev.bind (bh.ev q l m (dn hc) (by omega) (by omega)) Ev.some)
def iw (g : Nat → Option Int) (st : List Int × Int) (i : Nat) : List Int × Int :=
  match g i with
  | none=>st
  | some x=>if st.1 = [] then ([(i : Int)],x) else if x < st.2 then st else if x > st.2 then ([(i : Int)],x) else (st.1 ++ [(i : Int)],x)
def fA (g : Nat → Option Int) (n : Nat) : List Int × Int:=(List.range n).foldl (iw g) ([],0)
theorem fK (g : Nat → Option Int) (n : Nat) : fA g (n + 1) = iw g (fA g n) n:=by
  unfold fA;rw [List.range_succ,List.foldl_append];rfl
theorem ma (g : Nat → Option Int) (st : List Int × Int) (i : Nat) : (iw g st i).1.length ≤ st.1.length + 1:=by
  unfold iw
  split
  · omega
  · split
    · simp
    · split
      · omega
      · split <;> simp
theorem gJ (g : Nat → Option Int) (n : Nat) : (fA g n).1.length ≤ n:=by
  induction n with
  | zero=>simp [fA]
  | succ n ih=>rw [fK];have:=ma g (fA g n) n;omega
def kM (x : Option Int) : Int × Bool:=match x with
  | none=>(0,false)
  | some x=>(x,true)
theorem bD.ev (n : Nat) (hn : n ≤ 1000000) (p : Nat → Int → Option (Int × Bool)) (g : Nat → Option Int) (h : ∀ b : Nat,b < n → Ev (fun k=>p k (b : Int)) (kM (g b))) : Ev (fun k=>bD.f k (n : Int) (p k)) ((fA g n).1,decide ((fA g n).1 ≠ [])):=by
  obtain ⟨K,hK⟩:=Ev.all (p:=fun k (b : Nat)=>p k (b : Int)) (P:=fun b=>kM (g b)) (List.range n) (fun b hb=>h b (List.mem_range.1 hb))
  refine ⟨K + 2 * n + 2,fun k hk=>?_⟩
  have hq:=hK k (by omega)
  show bD.f k (n : Int) (p k) = _
  generalize p k = q at hq ⊢
  have hq : ∀ b : Nat,b < n → q (b : Int) = some (kM (g b)):=fun b hb=>hq b (List.mem_range.2 hb)
  have key : ∀ d i,i + d = n → ∀ k,2 * d + 1 < k + 1 → bD.l0 k q (fA g i).1 (fA g i).2 (n : Int) (i : Int) = some ((fA g n).1,decide ((fA g n).1 ≠ [])):=by
    intro d
    induction d with
    | zero =>
      intro i hi k hk
      obtain rfl : i = n:=by omega
      obtain ⟨k,rfl⟩ : ∃ j,k = j + 1:=⟨k - 1,by omega⟩
      simp only [bD.l0,Int.lt_irrefl,↓reduceIte]
      congr 2
      rw [decide_eq_decide,ne_eq,← List.length_eq_zero_iff]
      omega
    | succ d ih =>
      intro i hi k hk
      obtain ⟨k,rfl⟩ : ∃ j,k = j + 1 + 1:=⟨k - 2,by omega⟩
      have c1 : (i : Int) < (n : Int):=by omega
      have hw:=w1 (show i < n by omega) (show n ≤ 9223372036854775807 by omega)
      have h2:=ih (i + 1) (by omega) k (by omega)
      have hbl:=gJ g i
      have c2 : (fA g i).1.length < 17592186044416:=by omega
      rw [fK] at h2
      simp only [bD.l0,c1,↓reduceIte]
      rw [hq i (by omega),Option.bind_some]
      unfold iw at h2
      cases hg : g i with
      | none =>
        rw [hg] at h2
        simp only [kM,Bool.false_eq_true,↓reduceIte,bD.j1,hw]
        exact h2
      | some x =>
        rw [hg] at h2
        simp only [kM,↓reduceIte]
        by_cases he : (fA g i).1 = []
        · have ce : ¬ ((fA g i).1.length : Int) > 0:=by rw [he];simp
          simp only [he,↓reduceIte] at h2
          simp only [ce,↓reduceIte,bD.j1,Bool.false_eq_true,c2,hw,he,List.nil_append]
          first|exact h2|(simp only [List.length_nil,Int.natCast_zero,gt_iff_lt,Int.lt_irrefl,↓reduceIte];exact h2)|(simp;exact h2)
        · have ce : ((fA g i).1.length : Int) > 0:=by have:=List.length_pos_iff.2 he;omega
          simp only [he,↓reduceIte] at h2
          simp only [ce,↓reduceIte,bD.j1,hw]
          by_cases hlt : x < (fA g i).2
          · simp only [hlt,↓reduceIte] at h2
            simp only [hlt,decide_true,↓reduceIte]
            exact h2
          · simp only [hlt,↓reduceIte] at h2
            simp only [hlt,decide_false,Bool.false_eq_true,↓reduceIte]
            by_cases hgt : x > (fA g i).2
            · simp only [hgt,↓reduceIte] at h2
              simp only [hgt,↓reduceIte,Option.bind_some,List.length_nil,List.nil_append,show (0 : Nat) < 17592186044416 by decide]
              exact h2
            · simp only [hgt,↓reduceIte] at h2
              simp only [hgt,↓reduceIte,c2]
              exact h2
  have:=key n 0 (by omega) k (by omega)
  unfold bD.f
  exact this
theorem lK (g : Nat → Option Int) (n : Nat) : (∀ i x,i < n → g i = some x → (fA g n).1 ≠ [] ∧ x ≤ (fA g n).2 ∧ ((i : Int) ∈ (fA g n).1 ↔ x = (fA g n).2)) ∧ (∀ y ∈ (fA g n).1,∃ i,i < n ∧ y = (i : Int) ∧ g i = some (fA g n).2) ∧ (fA g n).1.Pairwise (· < ·):=by
  induction n with
  | zero=>exact ⟨fun i x h=>absurd h (by omega),fun y hy=>by simp [fA] at hy,by simp [fA]⟩
  | succ n ih =>
    rw [fK]
    generalize fA g n = st at ih ⊢
    obtain ⟨L,v⟩:=st
    simp only at ih
    obtain ⟨h1,h2,h3⟩:=ih
    have hlt : ∀ y ∈ L,y < (n : Int):=fun y hy=>by obtain ⟨i,hi,rfl,_⟩:=h2 y hy;omega
    have nn : (n : Int) ∉ L:=fun h=>by have:=hlt _ h;omega
    unfold iw
    cases hg : g n with
    | none =>
      refine ⟨fun i x hi hx=>?_,fun y hy=>?_,h3⟩
      · rcases Nat.lt_succ_iff_lt_or_eq.1 hi with hi|rfl
        · exact h1 i x hi hx
        · rw [hg] at hx;cases hx
      · obtain ⟨i,hi,e⟩:=h2 y hy
        exact ⟨i,by omega,e⟩
    | some x =>
      simp only
      by_cases hn : L = []
      · subst hn
        rw [if_pos rfl]
        refine ⟨fun i z hi hz=>?_,fun y hy=>?_,List.pairwise_singleton _ _⟩
        · rcases Nat.lt_succ_iff_lt_or_eq.1 hi with hi|rfl
          · exact absurd rfl (h1 i z hi hz).1
          · rw [hg] at hz;obtain rfl:=Option.some.inj hz;simp
        · obtain rfl:=List.mem_singleton.1 hy
          exact ⟨n,by omega,rfl,hg⟩
      · rw [if_neg hn]
        by_cases c1 : x < v
        · rw [if_pos c1]
          refine ⟨fun i z hi hz=>?_,fun y hy=>?_,h3⟩
          · rcases Nat.lt_succ_iff_lt_or_eq.1 hi with hi|rfl
            · exact h1 i z hi hz
            · rw [hg] at hz;obtain rfl:=Option.some.inj hz
              exact ⟨hn,by simp only;omega,fun h=>absurd h nn,fun h=>by simp only at h;omega⟩
          · obtain ⟨i,hi,e⟩:=h2 y hy
            exact ⟨i,by omega,e⟩
        · rw [if_neg c1]
          by_cases c2 : x > v
          · rw [if_pos c2]
            refine ⟨fun i z hi hz=>?_,fun y hy=>?_,List.pairwise_singleton _ _⟩
            · rcases Nat.lt_succ_iff_lt_or_eq.1 hi with hi|rfl
              · have:=(h1 i z hi hz).2.1
                refine ⟨by simp,by simp only;omega,fun h=>?_,fun h=>by simp only at h;omega⟩
                rw [List.mem_singleton] at h;omega
              · rw [hg] at hz;obtain rfl:=Option.some.inj hz;simp
            · obtain rfl:=List.mem_singleton.1 hy
              exact ⟨n,by omega,rfl,hg⟩
          · rw [if_neg c2]
            obtain rfl : x = v:=by omega
            refine ⟨fun i z hi hz=>?_,fun y hy=>?_,?_⟩
            · rcases Nat.lt_succ_iff_lt_or_eq.1 hi with hi|rfl
              · obtain ⟨_,a,b⟩:=h1 i z hi hz
                refine ⟨by simp,a,?_⟩
                rw [← b,List.mem_append,List.mem_singleton]
                constructor
                · rintro (h|h)
                  · exact h
                  · omega
                · exact Or.inl
              · rw [hg] at hz;obtain rfl:=Option.some.inj hz;simp
            · rcases List.mem_append.1 hy with hy|hy
              · obtain ⟨i,hi,e⟩:=h2 y hy
                exact ⟨i,by omega,e⟩
              · obtain rfl:=List.mem_singleton.1 hy
                exact ⟨n,by omega,rfl,hg⟩
            · rw [List.pairwise_append]
              refine ⟨h3,List.pairwise_singleton _ _,fun a ha b hb=>?_⟩
              obtain rfl:=List.mem_singleton.1 hb
              exact hlt a ha
def ifC (q : Int) (l : List Int) : Int × List Int × Bool:=if isComm q l = true then (q,l,true) else (0,[],false)
theorem cT.ev (q : Int) (l : List Int) (hm : l.length ≤ 9223372036854775807) : Ev (fun k=>cT.f k q l) (ifC q l):=by
  unfold cT.f ifC
  refine Ev.bind (aW.ev q l hm) ?_
  cases isComm q l <;> exact Ev.some
def fW (q : Int) (l : List Int) (i : Int) : Bool:=isComm q l && inI 0 ((l.length : Int) - 1) i
theorem eR {q : Int} {l : List Int} {i : Int} (h : fW q l i = true) : isComm q l = true ∧ ∃ j : Nat,i = (j : Int) ∧ j < l.length:=by
  simp only [fW,inI,Bool.and_eq_true,decide_eq_true_eq] at h
  exact ⟨h.1,i.toNat,by omega,by omega⟩
theorem bu.ev (q : Int) (l : List Int) (i : Int) (hm : l.length ≤ 9223372036854775807) : Ev (fun k=>bu.f k q l i) (fW q l i):=by
  unfold bu.f fW
  refine Ev.bind (aW.ev q l hm) ?_
  cases h : isComm q l with
  | true=>simp only [↓reduceIte,cY.eq,Option.bind_some,Bool.true_and];rw [w64 (by omega) (by omega)];exact Ev.some
  | false=>exact Ev.some
theorem bM.ev (q : Int) (l : List Int) (i : Int) (hm : l.length ≤ 9223372036854775807) : Ev (fun k=>bM.f k q l i) (fW q l i):=by
  unfold bM.f fW
  refine Ev.bind (ck.ev q l hm) ?_
  cases h : isComm q l with
  | true=>simp only [↓reduceIte,cv.eq,Option.bind_some,Bool.true_and];rw [w64 (by omega) (by omega)];exact Ev.some
  | false=>exact Ev.some
theorem eM.eq (l : List Int) (h : l.length < 17592186044416) : eM.f l = some l:=by
  unfold eM.f
  simp only [Option.bind_some,List.length_nil,Nat.zero_add,h,↓reduceIte,List.nil_append]
theorem cS.eq (l : List Int) (h : l.length < 17592186044416) : cS.f l = some l:=by
  unfold cS.f
  rw [if_pos h]
def dJ (l : List Int) (i : Nat) (p : Int) : List Int:=l.take i ++ [p,rd l i - p] ++ l.drop (i + 1)
def part (q : Int) (l : List Int) (a p : Int) : Bool:=fW q l a && (inI 0 (rd l a) p && decide (l.length < 9))
def split (q : Int) (l : List Int) (a p : Int) : Int × List Int × Bool:=if part q l a p = true then (q,dJ l a.toNat p,true) else (0,[],false)
theorem iC (l : List Int) (i : Nat) (p : Int) (hi : i < l.length) : (dJ l i p).length = l.length + 1:=by
  unfold dJ
  simp only [List.length_append,List.length_take,List.length_drop,List.length_cons,List.length_nil]
  omega
theorem k7 (l : List Int) (i : Nat) (hi : i < l.length) : l = l.take i ++ [rd l i] ++ l.drop (i + 1):=by
  rw [dD,List.getD_eq_getElem?_getD,List.getElem?_eq_getElem hi,Option.getD_some,List.append_assoc,List.singleton_append,List.getElem_cons_drop,List.take_append_drop]
theorem kI (l : List Int) (i : Nat) (hi : i < l.length) : rd l i ∈ l:=by
  rw [dD,List.getD_eq_getElem?_getD,List.getElem?_eq_getElem hi,Option.getD_some]
  exact List.getElem_mem hi
theorem i7 (q : Int) (l : List Int) (i : Nat) (p : Int) (hc : isComm q l = true) (hi : i < l.length) (h0 : 0 ≤ p) (h1 : p ≤ rd l i) : isComm q (dJ l i p) = decide (l.length < 9):=by
  have hl:=b6 hc
  have hs:=k7 l i hi
  have hn:=iC l i p hi
  have h3 : ∀ x ∈ l,inI 0 1000 x = true:=by
    simp only [isComm,Bool.and_eq_true,List.all_eq_true] at hc
    exact hc.1.2
  have hr : 0 ≤ rd l i ∧ rd l i ≤ 1000:=dn hc _ (kI l i hi)
  have hall : (dJ l i p).all (inI 0 1000) = true:=by
    rw [List.all_eq_true]
    intro x hx
    unfold dJ at hx
    rw [List.mem_append,List.mem_append] at hx
    rcases hx with (hx|hx)|hx
    · exact h3 x (List.mem_of_mem_take hx)
    · simp only [List.mem_cons,List.not_mem_nil,or_false] at hx
      simp only [inI,Bool.and_eq_true,decide_eq_true_eq]
      rcases hx with rfl|rfl <;> omega
    · exact h3 x (List.mem_of_mem_drop hx)
  have hsum : (dJ l i p).sum = l.sum:=by
    have e:=congrArg List.sum hs
    rw [e]
    unfold dJ
    simp only [List.sum_append,List.sum_cons,List.sum_nil]
    omega
  have hq:=gM hc
  unfold isComm
  rw [hall,hsum,hn]
  simp only [inI,Bool.and_true]
  rw [Bool.eq_iff_iff]
  simp only [Bool.and_eq_true,decide_eq_true_eq]
  omega
theorem br.ev (q : Int) (l : List Int) (a p : Int) (hm : l.length ≤ 9223372036854775807) : Ev (fun k=>br.f k q l a p) (split q l a p):=by
  have off : ∀ v : Int × List Int × Bool,v = (0,[],false) → Ev (fun k=>br.j0 k a p true q l) v:=by
    rintro v rfl
    refine Ev.shift ?_
    simp only [br.j0,↓reduceIte]
    exact Ev.some
  unfold br.f split part
  refine Ev.bind (bu.ev q l a hm) ?_
  cases h1 : fW q l a with
  | false=>simp only [Bool.false_eq_true,↓reduceIte,Bool.false_and];exact off _ rfl
  | true =>
    obtain ⟨hc,i,rfl,hi⟩:=eR h1
    have hlen:=b6 hc
    have ci : (i : Int) < (l.length : Int):=by omega
    have c0 : (0 : Int) ≤ (i : Int):=by omega
    simp only [↓reduceIte,Bool.true_and,c0,ci,cY.eq,Option.bind_some]
    cases h4 : inI 0 (rd l i) p with
    | false=>simp only [Bool.not_false,Bool.false_eq_true,↓reduceIte,Bool.false_and];exact off _ rfl
    | true =>
      have hp : 0 ≤ p ∧ p ≤ rd l i:=by simpa [inI] using h4
      have hr : 0 ≤ rd l i ∧ rd l i ≤ 1000:=dn hc (rd l i) (kI l i hi)
      refine Ev.shift ?_
      simp only [Bool.not_true,br.j0,Bool.false_eq_true,↓reduceIte,cS.eq l (by omega),Option.bind_some,c0,ci,Int.toNat_natCast,Bool.true_and]
      have hins : aI.f (l.set i (wrap64 (rd l i - p))) (i : Int) [p] = some (dJ l i p):=by
        unfold aI.f
        rw [if_pos (by simp only [List.length_set,List.length_cons,List.length_nil];omega),w64 (by omega) (by omega),Int.toNat_natCast]
        congr 1
        unfold dJ
        rw [List.take_set_of_le (by omega),List.drop_set,if_neg (by omega),Nat.sub_self,List.drop_eq_getElem_cons hi,List.set_cons_zero]
        simp
      refine Ev.bind (Ev.one hins) ?_
      refine Ev.eq (Ev.bind (cT.ev _ _ (by rw [iC l i p hi];omega)) Ev.some) ?_
      unfold ifC
      rw [i7 q l i p hc hi hp.1 hp.2]
theorem ef.ev (q : Int) (l : List Int) (a p : Int) (hm : l.length ≤ 9223372036854775807) : Ev (fun k=>ef.f k q l a p) (part q l a p):=by
  unfold ef.f part
  refine Ev.bind (bM.ev q l a hm) ?_
  cases h1 : fW q l a with
  | false=>simp only [Bool.false_eq_true,↓reduceIte,Bool.false_and];exact Ev.some
  | true =>
    obtain ⟨hc,i,rfl,hi⟩:=eR h1
    have ci : (i : Int) < (l.length : Int):=by omega
    have c0 : (0 : Int) ≤ (i : Int):=by omega
    simp only [↓reduceIte,Bool.true_and,c0,ci,cv.eq,Option.bind_some]
    cases h4 : inI 0 (rd l i) p with
    | false=>simp only [Bool.false_eq_true,↓reduceIte,Bool.false_and];exact Ev.some
    | true =>
      simp only [↓reduceIte,Bool.true_and]
      refine Ev.eq Ev.some ?_
      rw [decide_eq_decide];omega
theorem js {q : Int} {l : List Int} {a p : Int} (h : part q l a p = true) : isComm q l = true ∧ l.length < 9 ∧ ∃ i : Nat,a = (i : Int) ∧ i < l.length ∧ 0 ≤ p ∧ p ≤ rd l i ∧ rd l i ≤ 1000:=by
  unfold part at h
  simp only [Bool.and_eq_true,decide_eq_true_eq] at h
  obtain ⟨hc,i,rfl,hi⟩:=eR h.1
  have hp : 0 ≤ p ∧ p ≤ rd l i:=by simpa [inI] using h.2.1
  exact ⟨hc,h.2.2,i,rfl,hi,hp.1,hp.2,(dn hc (rd l i) (kI l i hi)).2⟩
theorem bL.eq (q : Int) (l : List Int) (i : Nat) (p : Int) (hl : l.length ≤ 9) (hi : i < l.length) (hp : 0 ≤ p) (hr : p ≤ rd l i) (hr1 : rd l i ≤ 1000) : bL.f q l i p = some (q,dJ l i p):=by
  have ci : (i : Int) < (l.length : Int):=by omega
  have c0 : (0 : Int) ≤ (i : Int):=by omega
  have c1 : (i : Int) ≤ (l.length : Int):=by omega
  have e : wrap64 ((i : Int) + 1) = ((i + 1 : Nat) : Int):=by rw [w64 (by omega) (by omega)];omega
  have c2 : (0 : Int) ≤ ((i + 1 : Nat) : Int):=by omega
  have c3 : ((i + 1 : Nat) : Int) ≤ (l.length : Int):=by omega
  unfold bL.f
  rw [if_pos c0, if_pos c1, Int.toNat_natCast, eM.eq _ (by rw [List.length_take]; omega), Option.bind_some, if_pos ci, Option.bind_some, if_pos (by simp only [List.length_take, List.length_cons, List.length_nil]; omega), Option.bind_some, e, if_pos c2, if_pos c3, Int.toNat_natCast,
    if_pos (by simp only [List.length_append,List.length_drop,List.length_take,List.length_cons,List.length_nil];omega),w64 (by omega) (by omega)]
  rfl
end Go.Proofs.YtjeneincnndcoaaGreat.P

namespace Go.Proofs.YtjeneincnndcoaaGreat.P
def cmpI (x y : Int) : Int:=if x < y then -1 else if x > y then 1 else 0
end Go.Proofs.YtjeneincnndcoaaGreat.P

namespace Go.Proofs.YtjeneincnndcoaaGreat.P
open Go.RowKit Go.Proofs.YtjeneincnndcoaaGreatW.PrintWords Go.Proofs.YtjeneincnndcoaaGreatW.PrintLast Go.Proofs.YtjeneincnndcoaaGreatW.PrintMore
theorem cmp_Compare_int.eq (x y : Int) : cmp_Compare_int.f x y = some (cmpI x y):=by
  have e : ∀ z,cmp_isNaN_int.f z = some false:=fun z=>by simp [cmp_isNaN_int.f]
  unfold cmp_Compare_int.f cmpI
  rw [e,e]
  simp only [Option.bind_some,Bool.false_eq_true,↓reduceIte]
  split
  · rfl
  · split <;> rfl
theorem cC.eq (n : Nat) (w : List Bool) (m i : Nat) (hw : w.length = 2 ^ n) (hn : n ≤ 40) (hm : m < 2 ^ n) (hi : i < n) : cC.f (n : Int) w (m : Int) (i : Int) = some (d6 w i m):=by
  have h40 : 2 ^ n ≤ 1099511627776:=dU hn
  have c0 : (0 : Int) ≤ (m : Int):=by omega
  have c1 : (0 : Int) ≤ (i : Int):=by omega
  have c2 : (m : Int) < (w.length : Int):=by omega
  have hp : 2 ^ i < 2 ^ 63:=Nat.pow_lt_pow_right (by omega) (by omega)
  unfold cC.f d6
  rw [dr.eq m i (by omega) (by omega),Option.bind_some]
  cases hb : m.testBit i with
  | true=>simp
  | false =>
    have e : Go.bits .or .i64 (m : Int) (shl .i64 1 (i : Int)) = ((m + 2 ^ i : Nat) : Int):=by
      rw [gG i (by omega),mQ m (2 ^ i) (by omega) hp,kL hb]
    have hlt:=ja hm hi hb
    have hpos:=Nat.two_pow_pos i
    have c3 : (0 : Int) ≤ ((m + 2 ^ i : Nat) : Int):=by omega
    have c4 : ((m + 2 ^ i : Nat) : Int) < (w.length : Int):=by omega
    simp only [e,c0,c1,c2,c3,c4,↓reduceIte,gW,Bool.false_eq_true,Bool.not_false,Bool.true_and]
    cases w.getD m false <;> simp
theorem aZ.ev (n : Nat) (w : List Bool) (hw : w.length = 2 ^ n) (hn : n ≤ 40) : Ev (fun k=>aZ.f k (n : Int) w) (swl n w):=by
  have h40 : 2 ^ n ≤ 1099511627776:=dU hn
  have c0 : (0 : Int) ≤ (n : Int):=by omega
  have c1 : n ≤ 35184372088832:=by omega
  have sl:=fY n w
  unfold aZ.f
  simp only [c0,c1,↓reduceIte,Int.toNat_natCast,Option.bind_some,List.length_replicate]
  have key := Ev.down (G := fun i k => aZ.l0 k (filled (swl n w) 0 i) (n : Int) (i : Int) (n : Int) w) (R := fun _ => swl n w) n
    (by refine Ev.shift ?_
        have : filled (swl n w) 0 n = swl n w:=by have:=iA (swl n w) 0;rwa [sl] at this
        simp only [aZ.l0,Int.lt_irrefl,↓reduceIte,this]
        exact Ev.some)
    (fun i hi ih=>by
      have hfl:=iH (swl n w) 0 i (by omega)
      have inner := back (P := fun m => Ev (fun k => aZ.l1 k ((filled (swl n w) 0 i).set i (((List.range m).countP (d6 w i) : Nat) : Int)) (i : Int) (n : Int) (i : Int) (w.length : Int) (m : Int) (n : Int) w) (swl n w)) (2 ^ n)
        (by refine Ev.shift ?_
            have e:=iz (swl n w) 0 0 i (by omega)
            rw [iB n w i hi] at e
            simp only [aZ.l1,hw,Int.lt_irrefl,↓reduceIte,e,w1 hi (show n ≤ 9223372036854775807 by omega)]
            exact ih)
        (fun m hm ihm=>by
          refine Ev.shift ?_
          have d1 : (m : Int) < (w.length : Int):=by omega
          have d0 : (0 : Int) ≤ (i : Int):=by omega
          have d2 : (i : Int) < ((filled (swl n w) 0 i).length : Int):=by omega
          simp only [aZ.l1,d1,↓reduceIte,cC.eq n w m i hw hn hm hi,Option.bind_some,List.length_set,d0,d2,w1 hm (show 2 ^ n ≤ 9223372036854775807 by omega),dD,Int.toNat_natCast,List.set_set]
          rw [List.range_succ,List.countP_append,List.countP_singleton] at ihm
          have hc : (List.range m).countP (d6 w i) ≤ m:=by
            have:=List.countP_le_length (p:=d6 w i) (l:=List.range m)
            rwa [List.length_range] at this
          cases hs : d6 w i m with
          | true =>
            have eg : ((filled (swl n w) 0 i).set i (((List.range m).countP (d6 w i) : Nat) : Int)).getD i 0 = (((List.range m).countP (d6 w i) : Nat) : Int):=by
              rw [List.getD_eq_getElem?_getD,List.getElem?_set_self (by omega)];rfl
            simp only [hs,↓reduceIte] at ihm
            simp only [↓reduceIte,eg]
            rw [show wrap64 ((((List.range m).countP (d6 w i) : Nat) : Int) + 1) = (((List.range m).countP (d6 w i) + 1 : Nat) : Int) by rw [w64 (by omega) (by omega)];omega]
            exact ihm
          | false =>
            simp only [hs,Bool.false_eq_true,↓reduceIte,Nat.add_zero] at ihm
            simp only [Bool.false_eq_true,↓reduceIte]
            exact ihm)
      refine Ev.shift ?_
      have d1 : (i : Int) < (n : Int):=by omega
      simp only [aZ.l0,d1,↓reduceIte]
      have i0:=inner 0 (Nat.zero_le _)
      have e0 : (filled (swl n w) 0 i).set i 0 = filled (swl n w) 0 i:=by
        apply List.ext_getElem?
        intro j
        rw [List.getElem?_set]
        split
        · rename_i h;subst h
          rw [if_pos (by omega)]
          unfold filled
          rw [List.getElem?_append_right (by simp;omega),List.getElem?_replicate]
          rw [if_pos (by simp;omega)]
        · rfl
      rw [List.range_zero,List.countP_nil] at i0
      simp only [Int.natCast_zero,e0] at i0
      exact i0)
  have:=key 0 (Nat.zero_le _)
  rw [gV,sl] at this
  exact this
theorem cx.ev (q : Int) (l : List Int) (b : Nat) (h : ∀ x ∈ l,0 ≤ x ∧ x ≤ 1000) (hl : l.length ≤ 64) : Ev (fun k=>cx.f k q l (b : Int)) (wt l b):=by
  have key := back (P := fun i => ∀ s : Int, 0 ≤ s → s ≤ 1000 * i → Ev (fun k => cx.l0 k (b : Int) s l (l.length : Int) (i : Int)) (s + wt (l.drop i) (b / 2 ^ i))) l.length
    (by intro s h0 h1
        refine Ev.shift ?_
        simp only [cx.l0,Int.lt_irrefl,↓reduceIte,List.drop_length,wt,Int.add_zero]
        exact Ev.some)
    (by intro i hi ih s h0 h1
        refine Ev.shift ?_
        have c1 : (i : Int) < (l.length : Int):=by omega
        have c0 : (0 : Int) ≤ (i : Int):=by omega
        have hx:=h _ (dH l 0 i hi)
        simp only [cx.l0,c1,c0,↓reduceIte,fZ b i (by omega),gv,w1 hi (show l.length ≤ 9223372036854775807 by omega),dD]
        rw [eA l 0 i hi,wt,Nat.div_div_eq_div_mul,show (2 ^ i * 2 : Nat) = 2 ^ (i + 1) from rfl]
        by_cases hbit : b / 2 ^ i % 2 = 1
        · have hbit' : ((b / 2 ^ i % 2 : Nat) : Int) = 1:=by omega
          simp only [hbit,hbit',↓reduceIte]
          rw [w64 (by omega) (by omega)]
          refine Ev.eq (ih _ (by omega) (by omega)) (by omega)
        · have hbit' : ¬ ((b / 2 ^ i % 2 : Nat) : Int) = 1:=by omega
          simp only [hbit,hbit',↓reduceIte]
          refine Ev.eq (ih _ (by omega) (by omega)) (by omega))
  have:=key 0 (Nat.zero_le _) 0 (by omega) (by omega)
  unfold cx.f
  rw [List.drop_zero,Nat.pow_zero,Nat.div_one,Int.zero_add] at this
  exact this
theorem eL.eq (n : Nat) (hn : n < 63) : eL.f (n : Int) = some ((2 ^ n - 1 : Nat) : Int):=by
  have c0 : (0 : Int) ≤ (n : Int):=by omega
  have h1:=pow63 hn
  have h2 : 0 < 2 ^ n:=Nat.two_pow_pos n
  unfold eL.f
  rw [if_pos c0,gG n hn,w64 (by omega) (by omega)]
  congr 1
  omega
theorem bN.ev' (q : Int) (l : List Int) (h : ∀ x ∈ l,0 ≤ x ∧ x ≤ 1000) (hl : l.length ≤ 40) : Ev (fun k=>bN.f k q l) (tab l.length (fun b=>decide (wt l b ≥ q))):=by
  have h40 : 2 ^ l.length ≤ 1099511627776:=dU hl
  have hp:=Nat.two_pow_pos l.length
  have tl:=eC l.length (fun b=>decide (wt l b ≥ q))
  generalize ht : tab l.length (fun b=>decide (wt l b ≥ q)) = t at tl ⊢
  have key := Ev.down (G := fun i k => bN.l0 k (t.take i) (i : Int) q l) (R := fun _ => t) (2 ^ l.length)
    (by refine Ev.shift ?_
        have c : ¬ (((2 ^ l.length : Nat) : Int) ≤ ((2 ^ l.length - 1 : Nat) : Int)):=by omega
        simp only [bN.l0,eL.eq l.length (by omega),Option.bind_some,c,↓reduceIte]
        rw [← tl,List.take_length]
        exact Ev.some)
    (fun i hi ih=>by
        refine Ev.shift ?_
        have c : (i : Int) ≤ ((2 ^ l.length - 1 : Nat) : Int):=by omega
        simp only [bN.l0,eL.eq l.length (by omega),Option.bind_some,c,↓reduceIte]
        refine Ev.bind (cx.ev q l i h (by omega)) ?_
        have c2 : (t.take i).length < 140737488355328:=by rw [List.length_take];omega
        have e : t.take i ++ [decide (wt l i ≥ q)] = t.take (i + 1):=by
          rw [gu t false i (by omega),← ht,fo _ _ i hi]
        simp only [c2,↓reduceIte,w1 hi (show 2 ^ l.length ≤ 9223372036854775807 by omega),e]
        exact ih)
  exact key 0 (Nat.zero_le _)
theorem b9.ev (n : Nat) (w : List Bool) (i : Nat) (hw : w.length = 2 ^ n) (hn : n ≤ 40) (hi : i < n) : Ev (fun k=>b9.f k w (i : Int)) (((List.range (2 ^ n)).filter (d6 w i)).map fun m : Nat=>(m : Int)):=by
  have h40 : 2 ^ n ≤ 1099511627776:=dU hn
  have c0 : (0 : Int) ≤ (i : Int):=by omega
  have key := back (P := fun m => Ev (fun k => b9.l0 k w (i : Int) (((List.range m).filter (d6 w i)).map fun m : Nat => (m : Int)) w (w.length : Int) (m : Int)) (((List.range (2 ^ n)).filter (d6 w i)).map fun m : Nat => (m : Int))) (2 ^ n)
    (by refine Ev.shift ?_
        simp only [b9.l0,hw,Int.lt_irrefl,↓reduceIte]
        exact Ev.some)
    (fun m hm ih=>by
      refine Ev.shift ?_
      have d1 : (m : Int) < (w.length : Int):=by omega
      have d0 : (0 : Int) ≤ (m : Int):=by omega
      rw [List.range_succ,List.filter_append,List.map_append] at ih
      have hc : (((List.range m).filter (d6 w i)).map fun m : Nat=>(m : Int)).length < 17592186044416:=by
        have:=List.length_filter_le (d6 w i) (List.range m)
        rw [List.length_range] at this
        rw [List.length_map];omega
      have hp : 2 ^ i < 2 ^ 63:=Nat.pow_lt_pow_right (by omega) (by omega)
      simp only [b9.l0,d1,d0,c0,↓reduceIte,fZ m i (by omega),gv,gW,gG i (by omega),w1 hm (show 2 ^ n ≤ 9223372036854775807 by omega)]
      have off : d6 w i m = false → Ev (fun k=>b9.l0 k w (i : Int) (((List.range m).filter (d6 w i)).map fun m : Nat=>(m : Int)) w (w.length : Int) ((m + 1 : Nat) : Int)) (((List.range (2 ^ n)).filter (d6 w i)).map fun m : Nat=>(m : Int)):=by
        intro hs
        rw [List.filter_cons_of_neg (by simp [hs]),List.filter_nil,List.map_nil,List.append_nil] at ih
        exact ih
      have on : d6 w i m = true → Ev (fun k=>b9.l0 k w (i : Int) ((((List.range m).filter (d6 w i)).map fun m : Nat=>(m : Int)) ++ [(m : Int)]) w (w.length : Int) ((m + 1 : Nat) : Int)) (((List.range (2 ^ n)).filter (d6 w i)).map fun m : Nat=>(m : Int)):=by
        intro hs
        rw [List.filter_cons_of_pos hs,List.filter_nil] at ih
        exact ih
      cases hb : m.testBit i with
      | true =>
        rw [eH,decide_eq_true_eq] at hb
        have hb' : ¬ ((m / 2 ^ i % 2 : Nat) : Int) = 0:=by omega
        simp only [hb',↓reduceIte]
        exact off (by unfold d6;rw [eH,hb];rfl)
      | false =>
        have hlt:=ja hm hi hb
        have hpos:=Nat.two_pow_pos i
        have hb0:=hb
        rw [eH,decide_eq_false_iff_not] at hb
        have hb' : ((m / 2 ^ i % 2 : Nat) : Int) = 0:=by omega
        simp only [hb',↓reduceIte]
        cases h1 : w.getD m false with
        | true =>
          simp only [↓reduceIte]
          exact off (by unfold d6;rw [hb0,h1];rfl)
        | false =>
          have ew : wrap64 ((m : Int) + ((2 ^ i : Nat) : Int)) = ((m + 2 ^ i : Nat) : Int):=by rw [w64 (by omega) (by omega)];omega
          have d3 : (0 : Int) ≤ ((m + 2 ^ i : Nat) : Int):=by omega
          have d4 : ((m + 2 ^ i : Nat) : Int) < (w.length : Int):=by omega
          simp only [Bool.false_eq_true,↓reduceIte,ew,d3,d4,gW,hc]
          cases h2 : w.getD (m + 2 ^ i) false with
          | true =>
            simp only [↓reduceIte]
            exact on (by unfold d6;rw [hb0,h1,h2];rfl)
          | false =>
            simp only [Bool.false_eq_true,↓reduceIte]
            exact off (by unfold d6;rw [hb0,h1,h2];rfl))
  exact key 0 (Nat.zero_le _)
theorem bR.ev (n : Nat) (w : List Bool) (hw : w.length = 2 ^ n) (hn : n ≤ 40) : Ev (fun k=>bR.f k w (n : Int)) (swl n w):=by
  have sl:=fY n w
  have key := back (P := fun i => Ev (fun k => bR.l0 k w (n : Int) ((swl n w).take i) (i : Int)) (swl n w)) n
    (by refine Ev.shift ?_
        have : (swl n w).take n = swl n w:=by rw [List.take_of_length_le (by omega)]
        simp only [bR.l0,Int.lt_irrefl,↓reduceIte,this]
        exact Ev.some)
    (fun i hi ih=>by
      refine Ev.shift ?_
      have d1 : (i : Int) < (n : Int):=by omega
      simp only [bR.l0,d1,↓reduceIte]
      refine Ev.bind (b9.ev n w i hw hn hi) ?_
      have hc : ((swl n w).take i).length < 17592186044416:=by rw [List.length_take];omega
      have e : (swl n w).take i ++ [(((((List.range (2 ^ n)).filter (d6 w i)).map fun m : Nat=>(m : Int)).length : Nat) : Int)] = (swl n w).take (i + 1):=by
        rw [gu (swl n w) 0 i (by omega),iB n w i hi,List.length_map,List.countP_eq_length_filter]
      simp only [hc,↓reduceIte,e,w1 hi (show n ≤ 9223372036854775807 by omega)]
      exact ih)
  exact key 0 (Nat.zero_le _)
def sw (q : Int) (l : List Int) : List Int:=swl l.length (tab l.length (fL q l))
theorem iX (q : Int) (l : List Int) : (sw q l).length = l.length:=fY _ _
theorem jD (q : Int) (l : List Int) (h : l.length ≤ 9) : ∀ x ∈ sw q l,0 ≤ x ∧ x ≤ 1000:=by
  intro x hx
  simp only [sw,swl,List.mem_map,List.mem_range] at hx
  obtain ⟨i,_,rfl⟩:=hx
  have h1:=List.countP_le_length (p:=d6 (tab l.length (fL q l)) i) (l:=List.range (2 ^ l.length))
  rw [List.length_range] at h1
  have h2 : 2 ^ l.length ≤ 512:=dU (m:=9) h
  omega
def jC (p s : List Int) : Int:=(s.map fun k=>p.getD k.toNat 0).sum
theorem k6 (p s : List Int) (hp : ∀ x ∈ p,0 ≤ x ∧ x ≤ 1000) : 0 ≤ jC p s ∧ jC p s ≤ 1000 * s.length:=by
  induction s with
  | nil=>simp [jC]
  | cons x s ih =>
    have h : 0 ≤ p.getD x.toNat 0 ∧ p.getD x.toNat 0 ≤ 1000:=by
      by_cases h : x.toNat < p.length
      · exact hp _ (dH p 0 _ h)
      · rw [List.getD_eq_getElem?_getD,List.getElem?_eq_none (by omega)];simp
    have e : jC p (x :: s) = p.getD x.toNat 0 + jC p s:=by simp [jC]
    rw [e,List.length_cons]
    omega
theorem kr (p s : List Int) (i : Nat) (hi : i < s.length) : jC p (s.drop i) = p.getD (s.getD i 0).toNat 0 + jC p (s.drop (i + 1)):=by
  rw [eA s 0 i hi];simp [jC]
theorem cn.ev (p : List Int) (t : Int) (s : List Int) (hp : ∀ x ∈ p,0 ≤ x ∧ x ≤ 1000) (hs : ∀ x ∈ s,0 ≤ x ∧ x < (p.length : Int)) (hl : s.length ≤ 1048576) : Ev (fun k=>cn.f k p t s) (jC p s):=by
  unfold cn.f
  have key := back (P := fun i => ∀ a : Int, 0 ≤ a → a ≤ 1000 * i → Ev (fun k => cn.l0 k a s (s.length : Int) (i : Int) p t) (a + jC p (s.drop i))) s.length
    (by intro a h0 h1
        refine Ev.shift ?_
        simp only [cn.l0,Int.lt_irrefl,↓reduceIte,List.drop_length]
        exact Ev.eq Ev.some (by simp [jC]))
    (by intro i hi ih a h0 h1
        refine Ev.shift ?_
        have c1 : (i : Int) < (s.length : Int):=by omega
        have c0 : (0 : Int) ≤ (i : Int):=by omega
        have hx:=hs _ (dH s 0 i hi)
        obtain ⟨j,hj⟩ : ∃ j : Nat,s.getD i 0 = (j : Int):=⟨(s.getD i 0).toNat,by omega⟩
        rw [hj] at hx
        have hpj:=hp _ (dH p 0 j (by omega))
        rw [kr p s i hi,hj,Int.toNat_natCast]
        simp only [cn.l0,c1,c0,↓reduceIte,dD,hj,hx.1,hx.2,w1 hi (show s.length ≤ 9223372036854775807 by omega)]
        rw [w64 (by omega) (by omega)]
        exact Ev.eq (ih _ (by omega) (by omega)) (by omega))
  have:=key 0 (Nat.zero_le _) 0 (by omega) (by omega)
  rw [List.drop_zero,Int.zero_add] at this
  exact this
def gainV (a b x y : Int) : Int:=cmpI (x * b) (a * y)
theorem mul_b {x y : Int} (hx : 0 ≤ x) (hx' : x ≤ 1048576000) (hy : 0 ≤ y) (hy' : y ≤ 1048576000) : 0 ≤ x * y ∧ x * y ≤ 1099511627776000000:=by
  refine ⟨Int.mul_nonneg hx hy,?_⟩
  calc x * y ≤ 1048576000 * 1048576000 := Int.mul_le_mul hx' hy' hy (by decide)
    _ ≤ _:=by decide
theorem ek.eq (a b x y : Int) (ha : 0 ≤ a ∧ a ≤ 1048576000) (hb : 0 ≤ b ∧ b ≤ 1048576000) (hx : 0 ≤ x ∧ x ≤ 1048576000) (hy : 0 ≤ y ∧ y ≤ 1048576000) : ek.f a b x y = some (gainV a b x y):=by
  have m1:=mul_b hx.1 hx.2 hb.1 hb.2
  have m2:=mul_b ha.1 ha.2 hy.1 hy.2
  unfold ek.f fF.f gainV cmpI
  generalize x * b = u at m1 ⊢
  generalize a * y = v at m2 ⊢
  rw [w64 (x:=u) (by omega) (by omega),w64 (x:=v) (by omega) (by omega),w64 (by omega) (by omega)]
  by_cases h1 : u - v > 0
  · rw [if_pos h1,if_neg (by omega),if_pos (by omega)];rfl
  · rw [if_neg h1]
    by_cases h2 : u - v < 0
    · rw [if_pos h2,if_pos (by omega)];rfl
    · rw [if_neg h2,if_neg (by omega),if_neg (by omega)];rfl
theorem sw_sum (q : Int) (l : List Int) (h : l.length ≤ 9) : 0 ≤ (sw q l).sum ∧ (sw q l).sum ≤ 9000:=by
  have:=lV (sw q l) (jD q l h)
  rw [iX] at this
  omega
theorem cB.ev (q : Int) (l s : List Int) (h : isComm q l = true) (hs : ∀ x ∈ s,0 ≤ x ∧ x < (l.length : Int)) (hl : s.length ≤ 1048576) : Ev (fun k=>cB.f k q l s) (jC (sw q l) s,(sw q l).sum):=by
  have hlen:=b6 h
  have hp:=jD q l hlen.2
  have hpl:=iX q l
  unfold cB.f
  refine Ev.bind (bN.ev' q l (dn h) (by omega)) ?_
  refine Ev.bind (bR.ev l.length _ (eC _ _) (by omega)) ?_
  have e : swl l.length (tab l.length (fun b=>decide (wt l b ≥ q))) = sw q l:=rfl
  rw [e]
  generalize sw q l = p at hp hpl ⊢
  have key := back (P := fun i => ∀ a : Int, 0 ≤ a → a ≤ 1000 * i → Ev (fun k => cB.l0 k p a s (s.length : Int) (i : Int)) (a + jC p (s.drop i), p.sum)) s.length
    (by intro a h0 h1
        refine Ev.shift ?_
        simp only [cB.l0,Int.lt_irrefl,↓reduceIte,List.drop_length]
        refine Ev.bind (bz.ev p (by omega)) ?_
        rw [jf p hp (by omega)]
        exact Ev.eq Ev.some (by simp [jC]))
    (by intro i hi ih a h0 h1
        refine Ev.shift ?_
        have c1 : (i : Int) < (s.length : Int):=by omega
        have c0 : (0 : Int) ≤ (i : Int):=by omega
        have hx:=hs _ (dH s 0 i hi)
        obtain ⟨j,hj⟩ : ∃ j : Nat,s.getD i 0 = (j : Int):=⟨(s.getD i 0).toNat,by omega⟩
        rw [hj] at hx
        have hpj:=hp _ (dH p 0 j (by omega))
        have d1 : (j : Int) < (p.length : Int):=by omega
        rw [kr p s i hi,hj,Int.toNat_natCast]
        simp only [cB.l0,c1,c0,↓reduceIte,dD,hj,hx.1,d1,w1 hi (show s.length ≤ 9223372036854775807 by omega)]
        rw [w64 (by omega) (by omega)]
        refine Ev.eq (ih _ (by omega) (by omega)) ?_
        rw [Int.add_assoc])
  have:=key 0 (Nat.zero_le _) 0 (by omega) (by omega)
  rw [List.drop_zero,Int.zero_add] at this
  exact this
theorem lz (l : List Int) : wt l 0 = 0:=by
  induction l with
  | nil=>rfl
  | cons x l ih=>rw [wt,Nat.zero_div,ih];rfl
theorem wtS_full (l : List Int) (i : Nat) (hi : i ≤ l.length) : wt l (2 ^ i - 1) = (l.take i).sum:=by
  induction l generalizing i with
  | nil=>simp [wt]
  | cons x l ih =>
    cases i with
    | zero=>exact lz _
    | succ i =>
      have hp : 0 < 2 ^ i:=Nat.two_pow_pos i
      have e1 : (2 ^ (i + 1) - 1) % 2 = 1:=by rw [Nat.pow_succ];omega
      have e2 : (2 ^ (i + 1) - 1) / 2 = 2 ^ i - 1:=by rw [Nat.pow_succ];omega
      rw [wt,e1,e2,if_pos rfl,ih i (by simp at hi;omega),List.take_succ_cons,List.sum_cons]
theorem lN (p : List Int) (hp : ∀ x ∈ p,0 ≤ x) (x : Int) (hx : x ∈ p) : x ≤ p.sum:=by
  induction p with
  | nil=>cases hx
  | cons y p ih =>
    have h0 : 0 ≤ p.sum:=by
      clear ih hx
      induction p with
      | nil=>simp
      | cons z p ih2 =>
        have:=hp z (by simp)
        have:=ih2 (fun w hw=>hp w (by simp only [List.mem_cons] at hw ⊢;rcases hw with h|h <;> simp [h]))
        rw [List.sum_cons];omega
    have:=hp y (by simp)
    rw [List.sum_cons]
    rcases List.mem_cons.1 hx with rfl|hx
    · omega
    · have:=ih (fun w hw=>hp w (by simp [hw])) hx
      omega
theorem sw_pos (q : Int) (l : List Int) (h : isComm q l = true) : 0 < (sw q l).sum:=by
  have hlen:=b6 h
  have hq:=gM h
  have hex : ∃ i,i < l.length ∧ fL q l (2 ^ i - 1) = false ∧ fL q l (2 ^ (i + 1) - 1) = true:=by
    refine Classical.byContradiction fun hn=>?_
    have key : ∀ j,j ≤ l.length → fL q l (2 ^ j - 1) = false:=by
      intro j
      induction j with
      | zero =>
        intro _
        have : wt l (2 ^ 0 - 1) = 0:=lz l
        simp only [fL,this,decide_eq_false_iff_not]
        omega
      | succ j ih =>
        intro hj
        cases hc : fL q l (2 ^ (j + 1) - 1) with
        | false=>rfl
        | true=>exact absurd ⟨j,by omega,ih (by omega),hc⟩ hn
    have h1:=key l.length (Nat.le_refl _)
    have h2:=wtS_full l l.length (Nat.le_refl _)
    rw [List.take_length] at h2
    simp only [fL,h2,decide_eq_false_iff_not] at h1
    omega
  obtain ⟨i,hi,h1,h2⟩:=hex
  have hp : 0 < 2 ^ i:=Nat.two_pow_pos i
  have hlt : 2 ^ (i + 1) ≤ 2 ^ l.length:=Nat.pow_le_pow_right (by omega) (by omega)
  have e : 2 ^ i - 1 + 2 ^ i = 2 ^ (i + 1) - 1:=by rw [Nat.pow_succ];omega
  have hs : d6 (tab l.length (fL q l)) i (2 ^ i - 1) = true:=by
    unfold d6
    rw [e,fo _ _ _ (by omega),fo _ _ _ (by omega),h1,h2,Nat.testBit_lt_two_pow (by omega)]
    rfl
  have hc : 0 < (List.range (2 ^ l.length)).countP (d6 (tab l.length (fL q l)) i):=List.countP_pos_iff.2 ⟨2 ^ i - 1,List.mem_range.2 (by omega),hs⟩
  have hm : ((((List.range (2 ^ l.length)).countP (d6 (tab l.length (fL q l)) i) : Nat) : Int)) ∈ sw q l:=by
    unfold sw swl
    exact List.mem_map.2 ⟨i,List.mem_range.2 hi,rfl⟩
  have:=lN (sw q l) (fun x hx=>(jD q l hlen.2 x hx).1) _ hm
  omega
theorem ec.ev (q : Int) (l : List Int) (h : isComm q l = true) : Ev (fun k=>ec.f k q l) (sw q l,(sw q l).sum):=by
  have hlen:=b6 h
  unfold ec.f
  refine Ev.bind (bb.ev q l (dn h) (by omega)) ?_
  refine Ev.bind (aZ.ev l.length _ (eC _ _) (by omega)) ?_
  have e : swl l.length (tab l.length (fL q l)) = sw q l:=rfl
  simp only [e]
  refine Ev.bind (cE.ev _ (by rw [iX];omega)) ?_
  rw [jf _ (jD q l hlen.2) (by rw [iX];omega)]
  exact Ev.some
theorem tmodN (a b : Nat) : Int.tmod (a : Int) (b : Int) = ((a % b : Nat) : Int):=by rw [Int.tmod_eq_emod_of_nonneg (by omega)];exact (Int.natCast_emod _ _).symm
theorem tdivN (a b : Nat) : Int.tdiv (a : Int) (b : Int) = ((a / b : Nat) : Int):=by rw [Int.tdiv_eq_ediv_of_nonneg (by omega)];exact (Int.natCast_ediv _ _).symm
theorem gcd_step (a b : Nat) : Nat.gcd b (a % b) = Nat.gcd a b:=by rw [Nat.gcd_comm b,← Nat.gcd_rec,Nat.gcd_comm]
theorem d8.ev (a b : Nat) : Ev (fun k=>d8.f k (a : Int) (b : Int)) ((Nat.gcd a b : Nat) : Int):=by
  unfold d8.f
  induction b using Nat.strongRecOn generalizing a with
  | _ b ih =>
    refine Ev.shift ?_
    by_cases hb : b = 0
    · subst hb
      simp only [d8.l0,Int.natCast_zero,↓reduceIte,Nat.gcd_zero_right]
      exact Ev.some
    · have c : ¬ (b : Int) = 0:=by omega
      simp only [d8.l0,c,↓reduceIte,tmodN]
      exact Ev.eq (ih (a % b) (Nat.mod_lt _ (by omega)) b) (congrArg _ (gcd_step a b))
theorem wN (x : Nat) (h : x ≤ 1099511627776) : wrap64 (x : Int) = (x : Int):=w64 (by omega) (by omega)
def fc (n d : Nat) : Int × Int:=(((n / Nat.gcd n d : Nat) : Int),((d / Nat.gcd n d : Nat) : Int))
theorem cP.ev (n d : Nat) (hd : 0 < d) (hn : n ≤ 1099511627776) (hd2 : d ≤ 1099511627776) : Ev (fun k=>cP.f k (n : Int) (d : Int)) (fc n d):=by
  have hg : 0 < Nat.gcd n d:=Nat.gcd_pos_of_pos_right n hd
  have h1:=Nat.div_le_self n (Nat.gcd n d)
  have h2:=Nat.div_le_self d (Nat.gcd n d)
  unfold cP.f fc
  refine Ev.bind (d8.ev n d) ?_
  have c : ¬ ((Nat.gcd n d : Nat) : Int) = 0:=by omega
  simp only [c,↓reduceIte,tdivN]
  rw [wN _ (Nat.le_trans h1 hn),wN _ (Nat.le_trans h2 hd2)]
  exact Ev.some
def spX (q : Int) (l : List Int) (i p : Nat) : Nat:=(jC (sw q (dJ l i p)) [(i : Int),((i + 1 : Nat) : Int)]).toNat
def spY (q : Int) (l : List Int) (i p : Nat) : Nat:=(sw q (dJ l i p)).sum.toNat
def gZ (p x y : Nat) (s : List Int × Nat × Nat) : List Int × Nat × Nat :=
  if p = 0 ∨ s.2.1 * y < x * s.2.2 then ([(p : Int)],x,y) else if x * s.2.2 = s.2.1 * y then (s.1 ++ [(p : Int)],s.2) else s
def bs (X Y : Nat → Nat) : Nat → List Int × Nat × Nat
  | 0=>([],0,1)
  | p + 1=>gZ p (X p) (Y p) (bs X Y p)
def bI (s : List Int × Nat × Nat) : Nat → Int × Int
  | 0=>(-1,1)
  | _ + 1=>fc s.2.1 s.2.2
theorem bs_ok (X Y : Nat → Nat) (N : Nat) (h : ∀ p,p < N → X p ≤ 9000 ∧ 0 < Y p ∧ Y p ≤ 9000) (p : Nat) (hp : p ≤ N) : (bs X Y p).1.length ≤ p ∧ (bs X Y p).2.1 ≤ 9000 ∧ 0 < (bs X Y p).2.2 ∧ (bs X Y p).2.2 ≤ 9000:=by
  induction p with
  | zero=>exact ⟨by simp [bs],by simp [bs],by simp [bs],by simp [bs]⟩
  | succ p ih =>
    obtain ⟨h1,h2,h3,h4⟩:=ih (by omega)
    obtain ⟨g1,g2,g3⟩:=h p (by omega)
    rw [bs]
    unfold gZ
    split
    · exact ⟨by simp,g1,g2,g3⟩
    · split
      · exact ⟨by simp only [List.length_append,List.length_cons,List.length_nil];omega,h2,h3,h4⟩
      · exact ⟨by omega,h2,h3,h4⟩
theorem lH (a b : Nat) : cmpI (a : Int) (b : Int) = if a < b then -1 else if b < a then 1 else 0:=by
  unfold cmpI
  by_cases h1 : a < b
  · rw [if_pos (by omega),if_pos h1]
  · rw [if_neg (by omega),if_neg h1]
    by_cases h2 : b < a
    · rw [if_pos (by omega),if_pos h2]
    · rw [if_neg (by omega),if_neg h2]
theorem mul9 {x y : Nat} (hx : x ≤ 9000) (hy : y ≤ 9000) : x * y ≤ 81000000:=Nat.mul_le_mul hx hy
theorem kE (x y n d : Nat) (hy : 0 < y) (hd : 0 < d) (b1 : x ≤ 9000) (b2 : y ≤ 9000) (b3 : n ≤ 9000) (b4 : d ≤ 9000) :
    dE.f (fc x y).1 (fc x y).2 (fc n d).1 (fc n d).2 = some (if x * d < n * y then -1 else if n * y < x * d then 1 else 0):=by
  have hg : 0 < Nat.gcd x y:=Nat.gcd_pos_of_pos_right x hy
  have hh : 0 < Nat.gcd n d:=Nat.gcd_pos_of_pos_right n hd
  obtain ⟨x',ex⟩:=Nat.gcd_dvd_left x y
  obtain ⟨y',ey⟩:=Nat.gcd_dvd_right x y
  obtain ⟨n',en⟩:=Nat.gcd_dvd_left n d
  obtain ⟨d',ed⟩:=Nat.gcd_dvd_right n d
  unfold fc
  generalize Nat.gcd x y = g at *
  generalize Nat.gcd n d = m at *
  have e1 : x / g = x':=by rw [ex,Nat.mul_div_cancel_left _ hg]
  have e2 : y / g = y':=by rw [ey,Nat.mul_div_cancel_left _ hg]
  have e3 : n / m = n':=by rw [en,Nat.mul_div_cancel_left _ hh]
  have e4 : d / m = d':=by rw [ed,Nat.mul_div_cancel_left _ hh]
  rw [e1,e2,e3,e4]
  have f1:=Nat.div_le_self x g
  have f2:=Nat.div_le_self y g
  have f3:=Nat.div_le_self n m
  have f4:=Nat.div_le_self d m
  rw [e1] at f1
  rw [e2] at f2
  rw [e3] at f3
  rw [e4] at f4
  have p1:=mul9 (x:=x') (y:=d') (by omega) (by omega)
  have p2:=mul9 (x:=n') (y:=y') (by omega) (by omega)
  have k1 : x * d = (x' * d') * (g * m):=by rw [ex,ed];simp only [Nat.mul_comm,Nat.mul_left_comm,Nat.mul_assoc]
  have k2 : n * y = (n' * y') * (g * m):=by rw [en,ey];simp only [Nat.mul_comm,Nat.mul_left_comm,Nat.mul_assoc]
  have hm : 0 < g * m:=Nat.mul_pos hg hh
  unfold dE.f
  have c1 : (x' : Int) * (d' : Int) = ((x' * d' : Nat) : Int):=(Int.natCast_mul _ _).symm
  have c2 : (n' : Int) * (y' : Int) = ((n' * y' : Nat) : Int):=(Int.natCast_mul _ _).symm
  rw [c1,c2,w64 (by omega) (by omega),w64 (by omega) (by omega),cmp_Compare_int.eq,lH,k1,k2,Option.bind_some]
  simp only [Nat.mul_lt_mul_right hm]
theorem l9 (x y : Nat) (hy : 0 < y) (b1 : x ≤ 9000) (b2 : y ≤ 9000) : dE.f (fc x y).1 (fc x y).2 (-1) 1 = some 1:=by
  have hg : 0 < Nat.gcd x y:=Nat.gcd_pos_of_pos_right x hy
  have h1 : 0 < y / Nat.gcd x y:=Nat.div_pos (Nat.le_of_dvd hy (Nat.gcd_dvd_right x y)) hg
  have f1:=Nat.div_le_self x (Nat.gcd x y)
  have f2:=Nat.div_le_self y (Nat.gcd x y)
  unfold dE.f fc
  generalize x / Nat.gcd x y = u at f1 ⊢
  generalize y / Nat.gcd x y = v at f2 h1 ⊢
  simp only
  rw [w64 (by omega) (by omega),w64 (by omega) (by omega),cmp_Compare_int.eq,Option.bind_some]
  unfold cmpI
  rw [if_neg (by omega),if_pos (by omega)]
def eG (q : Int) (l : List Int) (a : Int) : List Int × Bool:=if part q l a 0 = true ∧ rd l a ≤ 20 then ((bs (spX q l a.toNat) (spY q l a.toNat) ((rd l a).toNat + 1)).1,true) else ([],false)
theorem part_up {q : Int} {l : List Int} {i : Nat} {p : Int} (h : part q l i 0 = true) (h0 : 0 ≤ p) (h1 : p ≤ rd l i) : part q l i p = true:=by
  unfold part at h ⊢
  simp only [Bool.and_eq_true,inI,decide_eq_true_eq] at h ⊢
  exact ⟨h.1,⟨h0,h1⟩,h.2.2⟩
theorem sp_ok {q : Int} {l : List Int} {i : Nat} (h : part q l i 0 = true) (p : Nat) (hp : (p : Int) ≤ rd l i) : isComm q (dJ l i p) = true ∧ (dJ l i p).length = l.length + 1 ∧ jC (sw q (dJ l i p)) [(i : Int),((i + 1 : Nat) : Int)] = (spX q l i p : Int) ∧ (sw q (dJ l i p)).sum = (spY q l i p : Int) ∧ spX q l i p ≤ 9000 ∧ 0 < spY q l i p ∧ spY q l i p ≤ 9000:=by
  obtain ⟨hc,hl,j,ej,hi,_,_,_⟩:=js h
  obtain rfl : i = j:=by omega
  have hc' : isComm q (dJ l i p) = true:=by rw [i7 q l i p hc hi (by omega) hp];simpa using hl
  have hl2:=b6 hc'
  have s2:=sw_sum q _ hl2.2
  have o2:=k6 (sw q (dJ l i p)) [(i : Int),((i + 1 : Nat) : Int)] (jD q _ hl2.2)
  simp only [List.length_cons,List.length_nil] at o2
  have h0:=sw_pos q _ hc'
  unfold spX spY
  exact ⟨hc',iC l i p hi,by omega,by omega,by omega,by omega,by omega⟩
theorem lQ (q : Int) (l : List Int) (a : Int) : (eG q l a).1.length ≤ 21:=by
  unfold eG
  split
  · rename_i h
    obtain ⟨hc,hl,i,rfl,hi,h0,h1,h2⟩:=js h.1
    rw [Int.toNat_natCast]
    have:=(bs_ok (spX q l i) (spY q l i) ((rd l i).toNat + 1) (fun p hp=>(sp_ok h.1 p (by omega)).2.2.2.2) _ (Nat.le_refl _)).1
    simp only;omega
  · simp
theorem wS (n : Nat) (h : n ≤ 100) : wrap64 ((n : Int) + 1) = ((n + 1 : Nat) : Int):=by rw [w64 (by omega) (by omega)];omega
theorem aT.step (q : Int) (l : List Int) (i j N : Nat) (out : List Int) (n d x y : Nat) (b : Int × Int) (r : List Int × Bool) (hm : l.length ≤ 9223372036854775807) (hp : part q l i j = true) (hcj : isComm q (dJ l i j) = true) (hnj : (dJ l i j).length = l.length + 1) (hi : i < l.length) (hjN : j < N) (hN : N ≤ 21)
    (eX : jC (sw q (dJ l i j)) [(i : Int),((i + 1 : Nat) : Int)] = (x : Int)) (eY : (sw q (dJ l i j)).sum = (y : Int)) (bX : x ≤ 9000) (pY : 0 < y) (bY : y ≤ 9000) (hol : out.length ≤ 21) (hsn : n ≤ 9000) (hsd : 0 < d) (hsd2 : d ≤ 9000) (hb : (j = 0 ∧ b = (-1,1)) ∨ (0 < j ∧ b = fc n d))
    (ih : Ev (fun K=>aT.l0 K (i : Int) (gZ j x y (out,n,d)).1 (N : Int) ((j + 1 : Nat) : Int) q l (fc (gZ j x y (out,n,d)).2.1 (gZ j x y (out,n,d)).2.2).1 (fc (gZ j x y (out,n,d)).2.1 (gZ j x y (out,n,d)).2.2).2) r) :
    Ev (fun K=>aT.l0 K (i : Int) out (N : Int) (j : Int) q l b.1 b.2) r:=by
  have hls:=b6 hcj
  have hi9 : i ≤ 100:=by omega
  have hj9 : j ≤ 100:=by omega
  have hself : dE.f (fc x y).1 (fc x y).2 (fc x y).1 (fc x y).2 = some 0:=by
    rw [kE _ _ _ _ pY pY bX bY bX bY,if_neg (Nat.lt_irrefl _),if_neg (Nat.lt_irrefl _)]
  have c0 : (j : Int) < (N : Int):=by omega
  have i1:=br.ev q l i j hm
  rw [show split q l i j = (q,dJ l i j,true) from if_pos hp] at i1
  have i2:=ec.ev q _ hcj
  have i3:=cn.ev (sw q (dJ l i j)) (sw q (dJ l i j)).sum [(i : Int),((i + 1 : Nat) : Int)] (jD q _ hls.2) (by rw [iX];intro x hx;simp only [List.mem_cons,List.not_mem_nil,or_false] at hx;omega) (by simp)
  rw [eX,eY] at i3
  rw [eY] at i2
  have i4:=cP.ev x y pY (by omega) (by omega)
  have hz0 : ([] : List Int).length < 17592186044416:=by rw [List.length_nil];omega
  have new : gZ j x y (out,n,d) = ([(j : Int)],x,y) → Ev (fun K=>aT.j2 K (i : Int) [] (j : Int) (N : Int) (j : Int) q l (fc x y).1 (fc x y).2 (fc x y).1 (fc x y).2) r:=by
    intro e
    rw [e] at ih
    refine Ev.shift ?_
    simp only [aT.j2]
    refine Ev.bind (Ev.one hself) ?_
    refine Ev.bn rfl (Ev.bn hz0 ?_)
    rw [wS j hj9]
    exact ih
  refine Ev.shift ?_
  simp only [aT.l0]
  refine Ev.bn c0 ?_
  refine Ev.bind i1 ?_
  refine Ev.bn rfl ?_
  refine Ev.bind i2 ?_
  rw [wS i hi9]
  refine Ev.bind i3 ?_
  refine Ev.bind i4 ?_
  rcases hb with ⟨rfl,rfl⟩|⟨hj0,rfl⟩
  · refine Ev.bind (Ev.one (l9 _ _ pY bX bY)) ?_
    refine Ev.bn (by decide) ?_
    exact new (if_pos (.inl rfl))
  · have hc2:=kE x y n d pY hsd bX bY hsn hsd2
    refine Ev.bind (Ev.one hc2) ?_
    by_cases hgt : n * y < x * d
    · rw [if_neg (by omega),if_pos hgt]
      refine Ev.bn (by decide) ?_
      exact new (if_pos (.inr hgt))
    · unfold gZ at ih
      rw [if_neg (by simp only;omega)] at ih
      rw [if_neg hgt] at hc2
      rw [if_neg hgt]
      by_cases heq : x * d = n * y
      · rw [if_pos heq] at ih
        rw [if_neg (by omega)] at hc2
        rw [if_neg (by omega)]
        refine Ev.b7 (by decide) ?_
        refine Ev.shift ?_
        simp only [aT.j2]
        refine Ev.bind (Ev.one hc2) ?_
        refine Ev.bn rfl (Ev.bn (by omega) ?_)
        rw [wS j hj9]
        exact ih
      · rw [if_neg heq] at ih
        rw [if_pos (by omega)] at hc2
        rw [if_pos (by omega)]
        refine Ev.b7 (by decide) ?_
        refine Ev.shift ?_
        simp only [aT.j2]
        refine Ev.bind (Ev.one hc2) ?_
        refine Ev.b7 (by decide) ?_
        rw [wS j hj9]
        exact ih
theorem aT.ev (q : Int) (l : List Int) (a : Int) (hm : l.length ≤ 9223372036854775807) : Ev (fun K=>aT.f K q l a) (eG q l a):=by
  have off : Ev (fun K=>aT.j0 K a true q l) (([] : List Int),false):=by
    refine Ev.shift ?_
    simp only [aT.j0,↓reduceIte]
    exact Ev.some
  unfold aT.f eG
  refine Ev.bind (bu.ev q l a hm) ?_
  cases h1 : fW q l a with
  | false =>
    rw [if_neg (by simp [part,h1])]
    simp only [Bool.false_eq_true,↓reduceIte]
    exact off
  | true =>
    obtain ⟨hc,i,rfl,hi⟩:=eR h1
    have hlen:=b6 hc
    have ci : (i : Int) < (l.length : Int):=by omega
    have c0 : (0 : Int) ≤ (i : Int):=by omega
    have hr:=dn hc _ (kI l i hi)
    refine Ev.bn rfl (Ev.bn c0 (Ev.bn ci ?_))
    by_cases h20 : rd l i > 20
    · rw [if_neg (fun z=>by have:=z.2;omega)]
      simp only [h20,decide_true]
      exact off
    · simp only [h20,decide_false]
      refine Ev.shift ?_
      simp only [aT.j0]
      refine Ev.b7 (by decide) (Ev.bn c0 (Ev.bn ci ?_))
      obtain ⟨N,hN⟩ : ∃ N : Nat,rd l i + 1 = N:=⟨(rd l i + 1).toNat,by omega⟩
      rw [w64 (by omega) (by omega),hN]
      have eN : (rd l i).toNat + 1 = N:=by omega
      by_cases h9 : l.length < 9
      · have hp0 : part q l i 0 = true:=by
          unfold part
          simp only [h1,inI,Bool.and_eq_true,decide_eq_true_eq]
          exact ⟨trivial,⟨by omega,by omega⟩,h9⟩
        rw [if_pos ⟨hp0,by omega⟩,eN,Int.toNat_natCast]
        have B:=fun p (hp : p < N)=>sp_ok hp0 p (by omega)
        have OK:=bs_ok (spX q l i) (spY q l i) N (fun p hp=>(B p hp).2.2.2.2)
        have key := Ev.down (G := fun j K => aT.l0 K (i : Int) (bs (spX q l i) (spY q l i) j).1 (N : Int) (j : Int) q l (bI (bs (spX q l i) (spY q l i) j) j).1 (bI (bs (spX q l i) (spY q l i) j) j).2) (R := fun _ => ((bs (spX q l i) (spY q l i) N).1, true)) N
          (by refine Ev.shift ?_
              simp only [aT.l0]
              exact Ev.b7 (by omega) Ev.some)
          (fun j hj ih=>by
            obtain ⟨hcj,hnj,eX,eY,bX,pY,bY⟩:=B j hj
            obtain ⟨hol,hsn,hsd,hsd2⟩:=OK j (by omega)
            refine aT.step q l i j N _ _ _ _ _ _ _ hm (part_up hp0 (by omega) (by omega)) hcj hnj (by omega) (by omega) (by omega) eX eY bX pY bY (by omega) hsn hsd hsd2 ?_ ih
            cases j with
            | zero=>exact .inl ⟨rfl,rfl⟩
            | succ p=>exact .inr ⟨by omega,rfl⟩)
        exact key 0 (Nat.zero_le _)
      · have hp0 : ¬ part q l i 0 = true:=fun z=>h9 (js z).2.1
        rw [if_neg (fun z=>hp0 z.1)]
        refine Ev.shift ?_
        simp only [aT.l0]
        refine Ev.bn (by omega) ?_
        refine Ev.bind (br.ev q l i 0 hm) ?_
        rw [show split q l i 0 = (0,[],false) from if_neg hp0]
        exact Ev.b7 (by decide) Ev.some
theorem a6.step (q : Int) (l L : List Int) (i j : Nat) (out : List Int) (n d x y : Nat) (r : List Int × Bool) (hi : i < l.length) (hl : l.length ≤ 9) (hjN : (j : Int) ≤ rd l i) (hN : rd l i ≤ 20)
    (i1 : bL.f q l i j = some (q,L)) (i2 : Ev (fun k=>cB.f k q L [(i : Int),((i + 1 : Nat) : Int)]) ((x : Int),(y : Int))) (bX : x ≤ 9000) (bY : y ≤ 9000) (hol : out.length ≤ 21) (hsn : n ≤ 9000) (hsd2 : d ≤ 9000)
    (ih : Ev (fun K=>a6.l0 K (i : Int) (gZ j x y (out,n,d)).1 ((gZ j x y (out,n,d)).2.1 : Int) ((gZ j x y (out,n,d)).2.2 : Int) ((j + 1 : Nat) : Int) q l) r) :
    Ev (fun K=>a6.l0 K (i : Int) out (n : Int) (d : Int) (j : Int) q l) r:=by
  have hi9 : i ≤ 100:=by omega
  have hj9 : j ≤ 100:=by omega
  have ci : (i : Int) < (l.length : Int):=by omega
  have c0 : (0 : Int) ≤ (i : Int):=by omega
  have c3 : out.length < 17592186044416:=by omega
  have i3 : ek.f (n : Int) (d : Int) (x : Int) (y : Int) = some (if x * d < n * y then -1 else if n * y < x * d then 1 else 0):=by
    rw [ek.eq _ _ _ _ (by omega) (by omega) (by omega) (by omega)]
    unfold gainV
    rw [← Int.natCast_mul,← Int.natCast_mul,lH]
  refine Ev.shift ?_
  simp only [a6.l0]
  refine Ev.bn c0 (Ev.bn ci (Ev.bn hjN ?_))
  refine Ev.bind (Ev.one i1) ?_
  rw [wS i hi9]
  refine Ev.bind i2 ?_
  refine Ev.bind (Ev.one i3) ?_
  have new : gZ j x y (out,n,d) = ([(j : Int)],x,y) → ∀ t : Int,Ev (fun K=>a6.j2 K (i : Int) out (n : Int) (d : Int) (j : Int) (x : Int) (y : Int) t true q l) r:=by
    intro e t
    rw [e] at ih
    refine Ev.shift ?_
    simp only [a6.j2]
    refine Ev.bn trivial ?_
    rw [wS j hj9]
    exact ih
  by_cases hj0 : j = 0
  · refine Ev.bn (by omega) ?_
    exact new (if_pos (.inl hj0)) _
  · refine Ev.b7 (by omega) ?_
    by_cases hgt : n * y < x * d
    · rw [if_neg (by omega),if_pos hgt]
      exact new (if_pos (.inr hgt)) _
    · unfold gZ at ih
      rw [if_neg (by simp only;omega)] at ih
      rw [if_neg hgt]
      by_cases heq : x * d = n * y
      · rw [if_pos heq] at ih
        rw [if_neg (by omega)]
        refine Ev.shift ?_
        simp only [a6.j2]
        refine Ev.b7 (by decide) (Ev.bn trivial (Ev.bn c3 ?_))
        rw [wS j hj9]
        exact ih
      · rw [if_neg heq] at ih
        rw [if_pos (by omega)]
        refine Ev.shift ?_
        simp only [a6.j2]
        refine Ev.b7 (by decide) (Ev.b7 (by decide) ?_)
        rw [wS j hj9]
        exact ih
theorem a6.ev (q : Int) (l : List Int) (a : Int) (hm : l.length ≤ 9223372036854775807) : Ev (fun K=>a6.f K q l a) (eG q l a):=by
  have off : Ev (fun K=>a6.j0 K a true q l) (([] : List Int),false):=by
    refine Ev.shift ?_
    simp only [a6.j0,↓reduceIte]
    exact Ev.some
  unfold a6.f eG
  refine Ev.bind (ef.ev q l a 0 hm) ?_
  by_cases h1 : part q l a 0 = true
  · rw [h1]
    obtain ⟨hc,hl9,i,rfl,hi,_,_,hr1⟩:=js h1
    have hlen:=b6 hc
    have ci : (i : Int) < (l.length : Int):=by omega
    have c0 : (0 : Int) ≤ (i : Int):=by omega
    have hr:=dn hc _ (kI l i hi)
    refine Ev.bn rfl (Ev.bn c0 (Ev.bn ci ?_))
    by_cases h20 : rd l i > 20
    · rw [if_neg (fun z=>by have:=z.2;omega)]
      simp only [h20,decide_true]
      exact off
    · simp only [h20,decide_false]
      refine Ev.shift ?_
      simp only [a6.j0]
      refine Ev.b7 (by decide) ?_
      rw [if_pos ⟨trivial,by omega⟩,Int.toNat_natCast]
      obtain ⟨N,hN⟩ : ∃ N : Nat,(rd l i).toNat + 1 = N:=⟨_,rfl⟩
      rw [hN]
      have B:=fun p (hp : p < N)=>sp_ok h1 p (by omega)
      have OK:=bs_ok (spX q l i) (spY q l i) N (fun p hp=>(B p hp).2.2.2.2)
      have key := Ev.down (G := fun j K => a6.l0 K (i : Int) (bs (spX q l i) (spY q l i) j).1 ((bs (spX q l i) (spY q l i) j).2.1 : Int) ((bs (spX q l i) (spY q l i) j).2.2 : Int) (j : Int) q l) (R := fun _ => ((bs (spX q l i) (spY q l i) N).1, true)) N
        (by refine Ev.shift ?_
            simp only [a6.l0]
            exact Ev.bn c0 (Ev.bn ci (Ev.b7 (by omega) Ev.some)))
        (fun j hj ih=>by
          obtain ⟨hcj,hnj,eX,eY,bX,pY,bY⟩:=B j hj
          obtain ⟨hol,hsn,hsd,hsd2⟩:=OK j (by omega)
          have i2:=cB.ev q (dJ l i j) [(i : Int),((i + 1 : Nat) : Int)] hcj (by intro x hx;simp only [List.mem_cons,List.not_mem_nil,or_false] at hx;omega) (by simp)
          rw [eX,eY] at i2
          exact a6.step q l (dJ l i j) i j _ _ _ _ _ _ hi (by omega) (by omega) (by omega) (bL.eq q l i j (by omega) hi (by omega) (by omega) (by omega)) i2 bX bY (by omega) hsn hsd2 ih)
      exact key 0 (Nat.zero_le _)
  · rw [if_neg (fun z=>h1 z.1)]
    exact Ev.b7 h1 off
theorem lm (N : Nat) (f : Nat → Nat) (h1 : ∀ x,x < N → f x < N) (h2 : ∀ x,x < N → f (f x) = x) : ((List.range N).map f).Perm (List.range N):=by
  refine (List.perm_ext_iff_of_nodup ?_ List.nodup_range).2 fun a=>?_
  · refine List.Pairwise.map f (R:=fun a b=>(a < N ∧ b < N ∧ a ≠ b)) (S:=(· ≠ ·)) (fun a b hab e=>?_) ?_
    · exact hab.2.2 (by rw [← h2 a hab.1,← h2 b hab.2.1,e])
    · rw [List.pairwise_iff_getElem]
      intro i j hi hj hij
      simp only [List.length_range] at hi hj
      simp only [List.getElem_range]
      omega
  · rw [List.mem_map,List.mem_range]
    constructor
    · rintro ⟨x,hx,rfl⟩
      exact h1 x (List.mem_range.1 hx)
    · intro ha
      exact ⟨f a,List.mem_range.2 (h1 a ha),h2 a ha⟩
def sg (i k : Nat) : Nat:=if k = i then i + 1 else if k = i + 1 then i else k
def tu (i b : Nat) : Nat:=if b.testBit i = b.testBit (i + 1) then b else (b ^^^ 2 ^ i) ^^^ 2 ^ (i + 1)
theorem lO (i k : Nat) : sg i (sg i k) = k:=by
  unfold sg
  repeat' split
  all_goals omega
theorem sg_lt {i k n : Nat} (hi : i + 1 < n) (hk : k < n) : sg i k < n:=by
  unfold sg
  repeat' split
  all_goals omega
theorem gz (i b k : Nat) : (tu i b).testBit k = b.testBit (sg i k):=by
  unfold tu sg
  split
  · rename_i h
    split
    · rename_i e;rw [e,h]
    · split
      · rename_i e;rw [e,h]
      · rfl
  · rename_i h
    rw [Nat.testBit_xor,Nat.testBit_xor,Nat.testBit_two_pow,Nat.testBit_two_pow]
    by_cases e : k = i
    · subst e
      rw [if_pos rfl,decide_eq_true rfl,decide_eq_false (show ¬ k + 1 = k by omega)]
      cases h1 : b.testBit k <;> cases h2 : b.testBit (k + 1) <;> simp [h1,h2] at h ⊢
    · rw [if_neg e,decide_eq_false (show ¬ i = k by omega)]
      by_cases e2 : k = i + 1
      · subst e2
        rw [if_pos rfl,decide_eq_true rfl]
        cases h1 : b.testBit i <;> cases h2 : b.testBit (i + 1) <;> simp [h1,h2] at h ⊢
      · rw [if_neg e2,decide_eq_false (show ¬ i + 1 = k by omega)]
        simp
theorem tu_tu (i b : Nat) : tu i (tu i b) = b:=by
  apply Nat.eq_of_testBit_eq
  intro k
  rw [gz,gz,lO]
theorem tu_lt {i b n : Nat} (hi : i + 1 < n) (hb : b < 2 ^ n) : tu i b < 2 ^ n:=by
  unfold tu
  split
  · exact hb
  · have p1 : 2 ^ i < 2 ^ n:=Nat.pow_lt_pow_right (by omega) (by omega)
    have p2 : 2 ^ (i + 1) < 2 ^ n:=Nat.pow_lt_pow_right (by omega) (by omega)
    exact Nat.xor_lt_two_pow (Nat.xor_lt_two_pow hb p1) p2
theorem tu_add {i b k : Nat} (h : b.testBit k = false) : tu i (b + 2 ^ k) = tu i b + 2 ^ sg i k:=by
  have h2 : (tu i b).testBit (sg i k) = false:=by rw [gz,lO,h]
  rw [← kL h,← kL h2]
  apply Nat.eq_of_testBit_eq
  intro j
  rw [gz,Nat.testBit_or,Nat.testBit_or,gz,Nat.testBit_two_pow,Nat.testBit_two_pow]
  congr 1
  rw [decide_eq_decide]
  constructor
  · intro e;rw [e,lO]
  · intro e;rw [← e,lO]
theorem tu_mod (i b : Nat) : tu (i + 1) b % 2 = b % 2:=by
  have h:=gz (i + 1) b 0
  have e : sg (i + 1) 0 = 0:=by unfold sg;rw [if_neg (by omega),if_neg (by omega)]
  rw [e,Nat.testBit_zero,Nat.testBit_zero,decide_eq_decide] at h
  omega
theorem tu_half (i b : Nat) : tu (i + 1) b / 2 = tu i (b / 2):=by
  apply Nat.eq_of_testBit_eq
  intro k
  rw [← Nat.testBit_succ,gz,gz,← Nat.testBit_succ]
  congr 1
  unfold sg
  repeat' split
  all_goals omega
theorem wt_turn (A : List Int) (x y : Int) (B : List Int) (b : Nat) : wt (A ++ y :: x :: B) (tu A.length b) = wt (A ++ x :: y :: B) b:=by
  induction A generalizing b with
  | nil =>
    have h0:=gz 0 b 0
    have h1:=gz 0 b 1
    have e0 : sg 0 0 = 1:=rfl
    have e1 : sg 0 1 = 0:=rfl
    rw [e0,Nat.testBit_zero,← Nat.zero_add 1,Nat.testBit_succ,Nat.testBit_zero,decide_eq_decide] at h0
    rw [e1,Nat.testBit_zero,← Nat.zero_add 1,Nat.testBit_succ,Nat.testBit_zero,decide_eq_decide] at h1
    have h2 : tu 0 b / 2 / 2 = b / 2 / 2:=by
      apply Nat.eq_of_testBit_eq
      intro k
      rw [← Nat.testBit_succ,← Nat.testBit_succ,gz,← Nat.testBit_succ,← Nat.testBit_succ]
      congr 1
    simp only [List.nil_append,List.cons_append,List.length_nil,wt,h0,h1,h2]
    omega
  | cons a A ih =>
    simp only [List.cons_append,List.length_cons,wt,tu_mod,tu_half]
    rw [ih]
theorem lT (q : Int) (A : List Int) (x y : Int) (B : List Int) (k m : Nat) (hm : m < 2 ^ (A ++ ([x, y] ++ B)).length) (hk : k < (A ++ ([x, y] ++ B)).length) :
    d6 (tab (A ++ ([y,x] ++ B)).length (fL q (A ++ ([y,x] ++ B)))) (sg A.length k) (tu A.length m) = d6 (tab (A ++ ([x,y] ++ B)).length (fL q (A ++ ([x,y] ++ B)))) k m:=by
  have hl : (A ++ ([y,x] ++ B)).length = (A ++ ([x,y] ++ B)).length:=by simp
  have hi : A.length + 1 < (A ++ ([x,y] ++ B)).length:=by simp only [List.length_append,List.length_cons,List.length_nil];omega
  have hw : ∀ b,b < 2 ^ (A ++ ([x,y] ++ B)).length → (tab (A ++ ([y,x] ++ B)).length (fL q (A ++ ([y,x] ++ B)))).getD (tu A.length b) false = (tab (A ++ ([x,y] ++ B)).length (fL q (A ++ ([x,y] ++ B)))).getD b false:=by
    intro b hb
    rw [hl,fo _ _ _ (tu_lt hi hb),fo _ _ _ hb]
    unfold fL
    rw [show wt (A ++ ([y,x] ++ B)) (tu A.length b) = wt (A ++ ([x,y] ++ B)) b from wt_turn A x y B b]
  unfold d6
  rw [gz,lO,hw m hm]
  cases hb : m.testBit k with
  | true=>rfl
  | false=>rw [← tu_add hb,hw _ (ja hm hk hb)]
theorem k5 (q : Int) (A : List Int) (x y : Int) (B : List Int) (k : Nat) (hk : k < (A ++ ([x,y] ++ B)).length) : (sw q (A ++ ([y,x] ++ B))).getD (sg A.length k) 0 = (sw q (A ++ ([x,y] ++ B))).getD k 0:=by
  have hl : (A ++ ([y,x] ++ B)).length = (A ++ ([x,y] ++ B)).length:=by simp
  have hi : A.length + 1 < (A ++ ([x,y] ++ B)).length:=by simp only [List.length_append,List.length_cons,List.length_nil];omega
  unfold sw
  rw [iB _ _ _ hk,iB _ _ _ (by rw [hl];exact sg_lt hi hk)]
  congr 1
  rw [← (lm (2 ^ (A ++ ([y,x] ++ B)).length) (tu A.length) (fun b hb=>by rw [hl] at hb ⊢;exact tu_lt hi hb) (fun b _=>tu_tu _ b)).countP_eq,List.countP_map]
  rw [hl]
  apply List.countP_congr
  intro m hm
  have:=lT q A x y B k m (List.mem_range.1 hm) hk
  rw [hl] at this
  simp only [Function.comp_apply,this]
theorem perm_sum {a b : List Int} (h : a.Perm b) : a.sum = b.sum:=by
  induction h with
  | nil=>rfl
  | cons x _ ih=>simp only [List.sum_cons,ih]
  | swap x y l=>simp only [List.sum_cons];omega
  | trans _ _ h1 h2=>rw [h1,h2]
theorem lD (l : List Int) : l.sum = ((List.range l.length).map fun k=>l.getD k 0).sum:=by
  congr 1
  apply List.ext_getElem?
  intro i
  by_cases h : i < l.length
  · simp [List.getElem?_range h,List.getElem?_eq_getElem h,List.getD_eq_getElem?_getD,h]
  · rw [List.getElem?_eq_none (by omega),List.getElem?_eq_none (by simp;omega)]
theorem kW (q : Int) (A : List Int) (x y : Int) (B : List Int) : (sw q (A ++ ([y,x] ++ B))).sum = (sw q (A ++ ([x,y] ++ B))).sum:=by
  have hl : (A ++ ([y,x] ++ B)).length = (A ++ ([x,y] ++ B)).length:=by simp
  have hi : A.length + 1 < (A ++ ([x,y] ++ B)).length:=by simp only [List.length_append,List.length_cons,List.length_nil];omega
  rw [lD,lD (sw q (A ++ ([x,y] ++ B))),iX,iX,hl]
  rw [← perm_sum ((lm (A ++ ([x,y] ++ B)).length (sg A.length) (fun k hk=>sg_lt hi hk) (fun k _=>lO _ k)).map fun k=>(sw q (A ++ ([y,x] ++ B))).getD k 0),List.map_map]
  congr 1
  apply List.map_congr_left
  intro k hk
  exact k5 q A x y B k (List.mem_range.1 hk)
theorem lU (q : Int) (l : List Int) (i : Nat) (p : Int) (hi : i < l.length) :
    jC (sw q (dJ l i (rd l i - p))) [(i : Int),((i + 1 : Nat) : Int)] = jC (sw q (dJ l i p)) [(i : Int),((i + 1 : Nat) : Int)] ∧ (sw q (dJ l i (rd l i - p))).sum = (sw q (dJ l i p)).sum:=by
  have hA : (l.take i).length = i:=by rw [List.length_take];omega
  have e1 : dJ l i p = l.take i ++ ([p,rd l i - p] ++ l.drop (i + 1)):=by unfold dJ;rw [List.append_assoc]
  have e2 : dJ l i (rd l i - p) = l.take i ++ ([rd l i - p,p] ++ l.drop (i + 1)):=by
    unfold dJ;rw [List.append_assoc,show rd l i - (rd l i - p) = p by omega]
  rw [e1,e2]
  refine ⟨?_,kW q _ _ _ _⟩
  have hk : i + 1 < (l.take i ++ ([p,rd l i - p] ++ l.drop (i + 1))).length:=by simp only [List.length_append,List.length_cons,List.length_nil,hA];omega
  have a:=k5 q (l.take i) p (rd l i - p) (l.drop (i + 1)) i (by omega)
  have b:=k5 q (l.take i) p (rd l i - p) (l.drop (i + 1)) (i + 1) hk
  rw [hA] at a b
  have s0 : sg i i = i + 1:=by unfold sg;rw [if_pos rfl]
  have s1 : sg i (i + 1) = i:=by unfold sg;rw [if_neg (by omega),if_pos rfl]
  rw [s0] at a
  rw [s1] at b
  simp only [jC,List.map_cons,List.map_nil,List.sum_cons,List.sum_nil,Int.toNat_natCast]
  omega
theorem cross_lt {a b n d x y : Nat} (h1 : a * d ≤ n * b) (h2 : n * y < x * d) (hb : 0 < b) : a * y < x * b:=by
  by_cases h : a * y < x * b
  · exact h
  · have h3 : x * b ≤ a * y:=by omega
    have e1 : x * d * b ≤ n * y * b:=by
      calc x * d * b = x * b * d := by simp only [Nat.mul_assoc, Nat.mul_comm, Nat.mul_left_comm]
        _ ≤ a * y * d:=Nat.mul_le_mul_right d h3
        _ = a * d * y:=by simp only [Nat.mul_assoc,Nat.mul_comm,Nat.mul_left_comm]
        _ ≤ n * b * y:=Nat.mul_le_mul_right y h1
        _ = n * y * b:=by simp only [Nat.mul_assoc,Nat.mul_comm,Nat.mul_left_comm]
    have e2 : n * y * b < x * d * b:=Nat.mul_lt_mul_of_pos_right h2 hb
    omega
theorem bs_top (X Y : Nat → Nat) (n : Nat) (hY : ∀ p,p < n → 0 < Y p) : (0 < n → (bs X Y n).1 ≠ []) ∧ 0 < (bs X Y n).2.2 ∧ (∀ p,p < n → X p * (bs X Y n).2.2 ≤ (bs X Y n).2.1 * Y p ∧ ((p : Int) ∈ (bs X Y n).1 ↔ X p * (bs X Y n).2.2 = (bs X Y n).2.1 * Y p)) ∧ (∀ y ∈ (bs X Y n).1,∃ i,i < n ∧ y = (i : Int)) ∧ (bs X Y n).1.Pairwise (· < ·):=by
  induction n with
  | zero=>exact ⟨fun h=>absurd h (by omega),by simp [bs],fun p h=>absurd h (by omega),fun y hy=>by simp [bs] at hy,by simp [bs]⟩
  | succ n ih =>
    have ih:=ih (fun p hp=>hY p (by omega))
    have hn:=hY n (by omega)
    rw [bs]
    generalize bs X Y n = st at ih ⊢
    obtain ⟨L,v,d⟩:=st
    simp only at ih
    obtain ⟨h0,hd,h1,h2,h3⟩:=ih
    have hlt : ∀ y ∈ L,y < (n : Int):=fun y hy=>by obtain ⟨i,hi,rfl⟩:=h2 y hy;omega
    have nn : (n : Int) ∉ L:=fun h=>by have:=hlt _ h;omega
    unfold gZ
    simp only
    by_cases c1 : n = 0 ∨ v * Y n < X n * d
    · rw [if_pos c1]
      refine ⟨fun _=>by simp,hn,fun p hp=>?_,fun y hy=>⟨n,by omega,List.mem_singleton.1 hy⟩,List.pairwise_singleton _ _⟩
      rcases Nat.lt_succ_iff_lt_or_eq.1 hp with hp|rfl
      · have:=cross_lt (h1 p hp).1 (show v * Y n < X n * d by rcases c1 with c|c;omega;exact c) (hY p (by omega))
        refine ⟨by simp only;omega,fun h=>?_,fun h=>by simp only at h;omega⟩
        rw [List.mem_singleton] at h;omega
      · simp
    · rw [if_neg c1]
      have c0 : 0 < n:=by omega
      by_cases c2 : X n * d = v * Y n
      · rw [if_pos c2]
        refine ⟨fun _=>by simp,hd,fun p hp=>?_,fun y hy=>?_,?_⟩
        · simp only [List.mem_append,List.mem_singleton]
          rcases Nat.lt_succ_iff_lt_or_eq.1 hp with hp|rfl
          · obtain ⟨a,b⟩:=h1 p hp
            refine ⟨a,?_⟩
            rw [← b]
            constructor
            · rintro (h|h)
              · exact h
              · omega
            · exact Or.inl
          · exact ⟨by omega,fun _=>c2,fun _=>Or.inr rfl⟩
        · rcases List.mem_append.1 hy with hy|hy
          · obtain ⟨i,hi,e⟩:=h2 y hy
            exact ⟨i,by omega,e⟩
          · exact ⟨n,by omega,List.mem_singleton.1 hy⟩
        · simp only
          rw [List.pairwise_append]
          refine ⟨h3,List.pairwise_singleton _ _,fun a ha b hb=>?_⟩
          obtain rfl:=List.mem_singleton.1 hb
          exact hlt a ha
      · rw [if_neg c2]
        refine ⟨fun _=>h0 c0,hd,fun p hp=>?_,fun y hy=>?_,h3⟩
        · rcases Nat.lt_succ_iff_lt_or_eq.1 hp with hp|rfl
          · exact h1 p hp
          · exact ⟨by simp only;omega,fun h=>absurd h nn,fun h=>absurd h c2⟩
        · obtain ⟨i,hi,e⟩:=h2 y hy
          exact ⟨i,by omega,e⟩
theorem mb {α : Type} (l : List α) (d : α) (i : Nat) (h : i < l.length) : l.getD i d = l[i]:=by rw [List.getD_eq_getElem?_getD,List.getElem?_eq_getElem h];rfl
theorem lc {L : List Int} (h : L.Pairwise (· < ·)) (hn : L ≠ []) : ∀ y ∈ L,L.getD 0 0 ≤ y ∧ y ≤ L.getD (L.length - 1) 0:=by
  intro y hy
  have hp:=List.length_pos_iff.2 hn
  obtain ⟨i,hi,rfl⟩:=List.getElem_of_mem hy
  have hm:=List.pairwise_iff_getElem.1 h
  rw [mb _ _ _ hp,mb _ _ _ (show L.length - 1 < L.length by omega)]
  constructor
  · by_cases e : i = 0
    · subst e;exact Int.le_refl _
    · exact Int.le_of_lt (hm 0 i hp hi (by omega))
  · by_cases e : i = L.length - 1
    · subst e;exact Int.le_refl _
    · exact Int.le_of_lt (hm i (L.length - 1) hi (by omega) (by omega))
theorem lW {L : List Int} (N : Int) (h : L.Pairwise (· < ·)) (hn : L ≠ []) (hs : ∀ y ∈ L,N - y ∈ L) : L.getD (L.length - 1) 0 = N - L.getD 0 0:=by
  have hp:=List.length_pos_iff.2 hn
  have f:=lc h hn
  have a:=f _ (hs _ (dH L 0 0 hp))
  have b:=f _ (hs _ (dH L 0 (L.length - 1) (by omega)))
  omega
theorem kp {q : Int} {l : List Int} {a : Int} (h : (eG q l a).2 = true) : (∃ i : Nat,a = (i : Int) ∧ i < l.length) ∧ rd l a ≤ 20 ∧ (eG q l a).1 ≠ [] ∧ (eG q l a).1.Pairwise (· < ·) ∧ (∀ y ∈ (eG q l a).1,0 ≤ y ∧ y ≤ rd l a) ∧ ∀ y ∈ (eG q l a).1,rd l a - y ∈ (eG q l a).1:=by
  unfold eG at h ⊢
  split at h
  · rename_i hc
    rw [if_pos hc]
    obtain ⟨hcm,hl,i,rfl,hi,h0,h1,h2⟩:=js hc.1
    refine ⟨⟨i,rfl,hi⟩,hc.2,?_⟩
    simp only [Int.toNat_natCast]
    have hr : 0 ≤ rd l (i : Int):=by omega
    obtain ⟨g0,g1,g2,g3,g4⟩:=bs_top (spX q l i) (spY q l i) ((rd l i).toNat + 1) (fun p hp=>(sp_ok hc.1 p (by omega)).2.2.2.2.2.1)
    refine ⟨g0 (by omega),g4,fun y hy=>?_,fun y hy=>?_⟩
    · obtain ⟨p,hp,rfl⟩:=g3 y hy
      omega
    · obtain ⟨p,hp,rfl⟩:=g3 y hy
      have e : rd l (i : Int) - (p : Int) = (((rd l i).toNat - p : Nat) : Int):=by omega
      obtain ⟨t1,t2⟩:=lU q l i (p : Int) hi
      have eX : spX q l i ((rd l i).toNat - p) = spX q l i p:=by
        unfold spX;rw [← e,t1]
      have eY : spY q l i ((rd l i).toNat - p) = spY q l i p:=by
        unfold spY;rw [← e,t2]
      have k:=((g2 p hp).2).1 hy
      rw [e,(g2 ((rd l i).toNat - p) (by omega)).2,eX,eY]
      exact k
  · cases h
def fP (q : Int) (l : List Int) (i j b : Nat) : Bool:=fL q l b && !(b.testBit i && b.testBit j)
def eJ (q : Int) (l : List Int) (i j : Int) : Bool:=fW q l i && fW q l j && decide (i ≠ j)
def quar (q : Int) (l : List Int) (i j : Int) : Int × List Bool × Bool:=if eJ q l i j = true then ((l.length : Int),tab l.length (fP q l i.toNat j.toNat),true) else (0,[],false)
theorem fh {q : Int} {l : List Int} {i j : Int} (h : eJ q l i j = true) : isComm q l = true ∧ i ≠ j ∧ ∃ a b : Nat,i = (a : Int) ∧ j = (b : Int) ∧ a < l.length ∧ b < l.length:=by
  simp only [eJ,Bool.and_eq_true,decide_eq_true_eq] at h
  obtain ⟨h1,a,ha,ha'⟩:=eR h.1.1
  obtain ⟨_,b,hb,hb'⟩:=eR h.1.2
  exact ⟨h1,h.2,a,b,ha,hb,ha',hb'⟩
theorem ca.ev (q : Int) (l : List Int) (i j : Int) (hm : l.length ≤ 9223372036854775807) : Ev (fun k=>ca.f k q l i j) (quar q l i j):=by
  have off : ∀ v : Int × List Bool × Bool,v = (0,[],false) → Ev (fun k=>ca.j0 k true q l i j) v:=by
    rintro v rfl
    refine Ev.shift ?_
    simp only [ca.j0,↓reduceIte]
    exact Ev.some
  unfold ca.f quar
  refine Ev.bind (bu.ev q l i hm) ?_
  cases h1 : fW q l i with
  | false=>simp only [Bool.false_eq_true,↓reduceIte,eJ,h1,Bool.false_and];exact off _ rfl
  | true =>
    simp only [↓reduceIte]
    refine Ev.bind (bu.ev q l j hm) ?_
    cases h2 : fW q l j with
    | false=>simp only [Bool.false_eq_true,↓reduceIte,eJ,h1,h2,Bool.false_and,Bool.and_false];exact off _ rfl
    | true =>
      simp only [↓reduceIte]
      by_cases h3 : i = j
      · subst h3
        simp only [beq_self_eq_true,eJ,ne_eq,not_true_eq_false,decide_false,Bool.and_false,Bool.false_eq_true,↓reduceIte]
        exact off _ rfl
      · have hp : eJ q l i j = true:=by simp [eJ,h1,h2,h3]
        obtain ⟨hc,_,a,b,rfl,rfl,ha,hb⟩:=fh hp
        have hlen:=b6 hc
        have hbe : ((a : Int) == (b : Int)) = false:=by simp;omega
        rw [hbe,hp]
        refine Ev.shift ?_
        simp only [ca.j0,Bool.false_eq_true,↓reduceIte]
        refine Ev.bind (bb.ev q l (dn hc) (by omega)) ?_
        refine Ev.bind (bS.ev l.length (by omega) (fun k y=>dL.f y (l.length : Int) (tab l.length (fL q l)) (a : Int) (b : Int)) (fP q l a b) (fun m hm=>?_)) ?_
        · have hp9 : 2 ^ l.length ≤ 2 ^ 9:=dU hlen.2
          have c0 : (0 : Int) ≤ (m : Int):=by omega
          have c1 : (m : Int) < ((2 ^ l.length : Nat) : Int):=by omega
          unfold dL.f fP
          simp only [c0,eC,c1,↓reduceIte,gW,fo _ _ m hm,dr.eq m a (by omega) (by omega),dr.eq m b (by omega) (by omega),Option.bind_some]
          cases fL q l m with
          | false=>exact Ev.some
          | true =>
            simp only [↓reduceIte,Bool.true_and]
            cases m.testBit a <;> exact Ev.some
        · simp only [Int.toNat_natCast]
          exact Ev.some
theorem dh.ev (q : Int) (l : List Int) (i j : Int) (hm : l.length ≤ 9223372036854775807) : Ev (fun k=>dh.f k q l i j) (eJ q l i j):=by
  unfold dh.f eJ
  refine Ev.bind (bM.ev q l i hm) ?_
  cases fW q l i with
  | false=>exact Ev.some
  | true =>
    simp only [↓reduceIte,Bool.true_and]
    refine Ev.bind (bM.ev q l j hm) ?_
    cases fW q l j with
    | false=>exact Ev.some
    | true =>
      simp only [↓reduceIte,Bool.true_and]
      refine Ev.eq Ev.some ?_
      rw [Bool.eq_iff_iff];simp
theorem bA.ev (q : Int) (l : List Int) (i j : Nat) (hc : isComm q l = true) (hi : i < l.length) (hj : j < l.length) : Ev (fun k=>bA.f k q l (i : Int) (j : Int)) (tab l.length (fP q l i j)):=by
  have hlen:=b6 hc
  have hp9 : 2 ^ l.length ≤ 2 ^ 9:=dU hlen.2
  have i0 : (0 : Int) ≤ (i : Int):=by omega
  have j0 : (0 : Int) ≤ (j : Int):=by omega
  unfold bA.f
  refine Ev.bind (bN.ev' q l (dn hc) (by omega)) ?_
  have e : tab l.length (fun b=>decide (wt l b ≥ q)) = tab l.length (fL q l):=rfl
  rw [e]
  have ht:=eC l.length (fL q l)
  have ht':=eC l.length (fP q l i j)
  have hl : (tab l.length (fP q l i j)).length = (tab l.length (fL q l)).length:=by omega
  have key := Ev.down (G := fun m k => bA.l0 k (i : Int) (j : Int) (over (tab l.length (fP q l i j)) (tab l.length (fL q l)) m) ((2 ^ l.length : Nat) : Int) (m : Int)) (R := fun _ => tab l.length (fP q l i j)) (2 ^ l.length)
    (by refine Ev.shift ?_
        have:=over_all _ _ hl
        rw [ht] at this
        simp only [bA.l0,Int.lt_irrefl,↓reduceIte,this]
        exact Ev.some)
    (fun m hm ih=>by
      refine Ev.shift ?_
      have c0 : (0 : Int) ≤ (m : Int):=by omega
      have c1 : (m : Int) < ((2 ^ l.length : Nat) : Int):=by omega
      have c2 : (m : Int) < ((over (tab l.length (fP q l i j)) (tab l.length (fL q l)) m).length : Int):=by rw [over_len _ _ _ hl];omega
      have hs:=over_set _ _ false m hl (by omega)
      rw [fo _ _ m hm] at hs
      have hg:=over_get _ _ false m hl (by omega)
      rw [fo _ _ m hm] at hg
      simp only [bA.l0,c0,c1,c2,i0,j0,↓reduceIte,gW,hg,fZ m i (by omega),fZ m j (by omega),gv,Int.toNat_natCast,w1 hm (show 2 ^ l.length ≤ 9223372036854775807 by omega)]
      cases h1 : fL q l m with
      | false =>
        have hv : fP q l i j m = false:=by simp [fP,h1]
        rw [hv] at hs
        simp only [Bool.false_eq_true,↓reduceIte,hs]
        exact ih
      | true =>
        simp only [↓reduceIte]
        have hv : fP q l i j m = !(m.testBit i && m.testBit j):=by simp [fP,h1]
        rw [hv,eH,eH] at hs
        rcases Nat.mod_two_eq_zero_or_one (m / 2 ^ i) with h2|h2
        · rw [h2] at hs ⊢
          simp only [show ((0 : Nat) : Int) = 0 from rfl,↓reduceIte]
          rw [show decide ((0 : Nat) = 1) = false from rfl,Bool.false_and,Bool.not_false] at hs
          rw [hs]
          exact ih
        · rw [h2] at hs ⊢
          simp only [show ¬ ((1 : Nat) : Int) = 0 by omega,↓reduceIte]
          simp only [decide_true,Bool.true_and] at hs
          rcases Nat.mod_two_eq_zero_or_one (m / 2 ^ j) with h3|h3
          · rw [h3] at hs ⊢
            rw [show decide ((0 : Nat) = 1) = false from rfl,Bool.not_false] at hs
            rw [show (((0 : Nat) : Int) == 0) = true from rfl,hs]
            exact ih
          · rw [h3] at hs ⊢
            simp only [decide_true,Bool.not_true] at hs
            rw [show (((1 : Nat) : Int) == 0) = false from rfl,hs]
            exact ih)
  have:=key 0 (Nat.zero_le _)
  rw [mY] at this
  rw [eC]
  exact this
theorem bC.ev (n : Int) (l : List Bool) (hl : l.length ≤ 9223372036854775807) : Ev (fun k=>bC.f k n l) (l.count true : Int):=by
  have key := back (P := fun i => ∀ s : Nat, s ≤ i → Ev (fun k => bC.l0 k (s : Int) l (l.length : Int) (i : Int)) ((s + (l.drop i).count true : Nat) : Int)) l.length
    (by intro s hs
        refine Ev.shift ?_
        simp only [bC.l0,Int.lt_irrefl,↓reduceIte,List.drop_length,List.count_nil,Nat.add_zero]
        exact Ev.some)
    (by intro i hi ih s hs
        refine Ev.shift ?_
        have c1 : (i : Int) < (l.length : Int):=by omega
        have c0 : (0 : Int) ≤ (i : Int):=by omega
        simp only [bC.l0,c1,c0,↓reduceIte,w1 hi hl,gW]
        rw [eA l false i hi,List.count_cons]
        cases l.getD i false with
        | true =>
          simp only [↓reduceIte,beq_self_eq_true]
          rw [show wrap64 ((s : Int) + 1) = ((s + 1 : Nat) : Int) by rw [w64 (by omega) (by omega)];omega]
          exact Ev.eq (ih _ (by omega)) (by omega)
        | false =>
          simp only [Bool.false_eq_true,↓reduceIte,show (false == true) = false from rfl]
          exact Ev.eq (ih _ (by omega)) (by omega))
  unfold bC.f
  have:=key 0 (Nat.zero_le _) 0 (by omega)
  rw [List.drop_zero,Nat.zero_add] at this
  exact this
theorem cQ.ev (l : List Bool) (hl : l.length ≤ 9223372036854775807) : Ev (fun k=>cQ.f k l) (l.count true : Int):=by
  have key := back (P := fun i => ∀ s : Nat, s ≤ i → Ev (fun k => cQ.l0 k (s : Int) l (l.length : Int) (i : Int)) ((s + (l.drop i).count true : Nat) : Int)) l.length
    (by intro s hs
        refine Ev.shift ?_
        simp only [cQ.l0,Int.lt_irrefl,↓reduceIte,List.drop_length,List.count_nil,Nat.add_zero]
        exact Ev.some)
    (by intro i hi ih s hs
        refine Ev.shift ?_
        have c1 : (i : Int) < (l.length : Int):=by omega
        have c0 : (0 : Int) ≤ (i : Int):=by omega
        simp only [cQ.l0,c1,c0,↓reduceIte,w1 hi hl,gW]
        rw [eA l false i hi,List.count_cons]
        cases l.getD i false with
        | true =>
          simp only [↓reduceIte,beq_self_eq_true]
          rw [show wrap64 ((s : Int) + 1) = ((s + 1 : Nat) : Int) by rw [w64 (by omega) (by omega)];omega]
          exact Ev.eq (ih _ (by omega)) (by omega)
        | false =>
          simp only [Bool.false_eq_true,↓reduceIte,show (false == true) = false from rfl]
          exact Ev.eq (ih _ (by omega)) (by omega))
  unfold cQ.f
  have:=key 0 (Nat.zero_le _) 0 (by omega)
  rw [List.drop_zero,Nat.zero_add] at this
  exact this
def d5 (q : Int) (l : List Int) (i j : Int) : Int × Bool:=if eJ q l i j = true then (((tab l.length (fP q l i.toNat j.toNat)).count true : Int),true) else (0,false)
theorem cf.ev (q : Int) (l : List Int) (i j : Int) (hm : l.length ≤ 9223372036854775807) : Ev (fun k=>cf.f k q l i j) (d5 q l i j):=by
  unfold cf.f
  refine Ev.bind (ca.ev q l i j hm) ?_
  unfold quar d5
  cases hp : eJ q l i j with
  | false=>exact Ev.some
  | true =>
    have hlen:=b6 (fh hp).1
    have hp9 : 2 ^ l.length ≤ 2 ^ 9:=dU hlen.2
    simp only [↓reduceIte]
    exact Ev.bind (bC.ev _ _ (by rw [eC];omega)) Ev.some
theorem cX.ev (q : Int) (l : List Int) (i j : Int) (hm : l.length ≤ 9223372036854775807) : Ev (fun k=>cX.f k q l i j) (d5 q l i j):=by
  unfold cX.f d5
  refine Ev.bind (dh.ev q l i j hm) ?_
  cases hp : eJ q l i j with
  | false=>exact Ev.some
  | true =>
    obtain ⟨hc,_,a,b,rfl,rfl,ha,hb⟩:=fh hp
    have hlen:=b6 hc
    have hp9 : 2 ^ l.length ≤ 2 ^ 9:=dU hlen.2
    simp only [↓reduceIte,Int.toNat_natCast]
    exact Ev.bind (bA.ev q l a b hc ha hb) (Ev.bind (cQ.ev _ (by rw [eC];omega)) Ev.some)
def eB (q : Int) (l : List Int) (i j : Int) : List Int × Bool:=if eJ q l i j = true then (swl l.length (tab l.length (fP q l i.toNat j.toNat)),true) else ([],false)
theorem jA (q : Int) (l : List Int) (i j : Int) : (eB q l i j).1.length ≤ 9:=by
  unfold eB
  split
  · rename_i h
    have hlen:=b6 (fh h).1
    rw [fY];omega
  · simp
theorem cy.ev (q : Int) (l : List Int) (i j : Int) (hm : l.length ≤ 9223372036854775807) : Ev (fun k=>cy.f k q l i j) (eB q l i j):=by
  unfold cy.f
  refine Ev.bind (ca.ev q l i j hm) ?_
  unfold quar eB
  cases hp : eJ q l i j with
  | false=>exact Ev.some
  | true =>
    have hlen:=b6 (fh hp).1
    simp only [↓reduceIte]
    exact Ev.bind (aZ.ev l.length _ (eC _ _) (by omega)) Ev.some
theorem bZ.ev (q : Int) (l : List Int) (i j : Int) (hm : l.length ≤ 9223372036854775807) : Ev (fun k=>bZ.f k q l i j) (eB q l i j):=by
  unfold bZ.f eB
  refine Ev.bind (dh.ev q l i j hm) ?_
  cases hp : eJ q l i j with
  | false=>exact Ev.some
  | true =>
    obtain ⟨hc,_,a,b,rfl,rfl,ha,hb⟩:=fh hp
    have hlen:=b6 hc
    simp only [↓reduceIte,Int.toNat_natCast]
    exact Ev.bind (bA.ev q l a b hc ha hb) (Ev.bind (bR.ev l.length _ (eC _ _) (by omega)) Ev.some)
theorem cJ.ev (n : Nat) (hn : n ≤ 1000000) (p : Nat → Int → Option Bool) (P : Nat → Bool) (h : ∀ b : Nat,b < n → Ev (fun k=>p k (b : Int)) (P b)) : Ev (fun k=>cJ.f k (n : Int) (p k)) (sel n P):=by
  obtain ⟨K,hK⟩:=Ev.all (p:=fun k (b : Nat)=>p k (b : Int)) (P:=P) (List.range n) (fun b hb=>h b (List.mem_range.1 hb))
  refine ⟨K + n + 1,fun k hk=>?_⟩
  have hq:=hK k (by omega)
  show cJ.f k (n : Int) (p k) = _
  generalize p k = q at hq ⊢
  have hq : ∀ b : Nat,b < n → q (b : Int) = some (P b):=fun b hb=>hq b (List.mem_range.2 hb)
  exact downq (G := fun i k => cJ.l0 k q (sel i P) (n : Int) (i : Int)) (R := fun _ => sel n P) n
    (by intro k;simp only [cJ.l0,Int.lt_irrefl,↓reduceIte])
    (fun i hi k ih=>by
      have c1 : (i : Int) < (n : Int):=by omega
      have c2 : (sel i P).length < 17592186044416:=by have:=gY i P;omega
      rw [gI] at ih
      simp only [cJ.l0,c1,↓reduceIte,hq i hi,Option.bind_some,w1 hi (show n ≤ 9223372036854775807 by omega)]
      cases hP : P i with
      | true=>simp only [hP,↓reduceIte] at ih;simp only [↓reduceIte,c2];exact ih
      | false=>simp only [hP,Bool.false_eq_true,↓reduceIte,List.append_nil] at ih;simp only [Bool.false_eq_true,↓reduceIte];exact ih) 0 (Nat.zero_le _) k (by omega)
def gq (q : Int) (l : List Int) (i j : Nat) (k : Nat) : Bool:=decide ((swl l.length (tab l.length (fP q l i j))).getD k 0 > (swl l.length (tab l.length (fL q l))).getD k 0)
def fl (q : Int) (l : List Int) (i j : Int) : List Int × Bool:=if eJ q l i j = true then (sel l.length (gq q l i.toNat j.toNat),true) else ([],false)
theorem j7 (q : Int) (l : List Int) (i j : Int) : (fl q l i j).1.length ≤ 9:=by
  unfold fl
  split
  · rename_i h
    have hlen:=b6 (fh h).1
    have:=gY l.length (gq q l i.toNat j.toNat)
    simp only;omega
  · simp
theorem dy.ev (q : Int) (l : List Int) (i j : Int) (hm : l.length ≤ 9223372036854775807) : Ev (fun k=>dy.f k q l i j) (fl q l i j):=by
  unfold dy.f
  refine Ev.bind (cy.ev q l i j hm) ?_
  unfold eB fl
  cases hp : eJ q l i j with
  | false=>exact Ev.some
  | true =>
    have hc:=(fh hp).1
    have hlen:=b6 hc
    simp only [↓reduceIte]
    refine Ev.bind (bb.ev q l (dn hc) (by omega)) ?_
    refine Ev.bind (aZ.ev l.length _ (eC _ _) (by omega)) ?_
    simp only [fY]
    refine Ev.bind (cJ.ev l.length (by omega) (fun k y=>cZ.f y (swl l.length (tab l.length (fP q l i.toNat j.toNat))) (swl l.length (tab l.length (fL q l)))) (gq q l i.toNat j.toNat) (fun b hb=>?_)) Ev.some
    have c0 : (0 : Int) ≤ (b : Int):=by omega
    have c1 : (b : Int) < (l.length : Int):=by omega
    simp only [cZ.f,fY,c0,c1,↓reduceIte,dD]
    exact Ev.some
theorem ba.ev (q : Int) (l : List Int) (i j : Int) (hm : l.length ≤ 9223372036854775807) : Ev (fun k=>ba.f k q l i j) (fl q l i j):=by
  unfold ba.f fl
  refine Ev.bind (dh.ev q l i j hm) ?_
  cases hp : eJ q l i j with
  | false=>exact Ev.some
  | true =>
    obtain ⟨hc,_,a,b,rfl,rfl,ha,hb⟩:=fh hp
    have hlen:=b6 hc
    simp only [↓reduceIte,Int.toNat_natCast]
    refine Ev.bind (bN.ev' q l (dn hc) (by omega)) ?_
    refine Ev.bind (bR.ev l.length _ (eC _ _) (by omega)) ?_
    refine Ev.bind (bA.ev q l a b hc ha hb) ?_
    refine Ev.bind (bR.ev l.length _ (eC _ _) (by omega)) ?_
    have e : tab l.length (fun b=>decide (wt l b ≥ q)) = tab l.length (fL q l):=rfl
    rw [e]
    have key := Ev.down (G := fun m k => ba.l0 k (swl l.length (tab l.length (fL q l))) (swl l.length (tab l.length (fP q l a b))) (sel m (gq q l a b)) (l.length : Int) (m : Int)) (R := fun _ => (sel l.length (gq q l a b), true)) l.length
      (by refine Ev.shift ?_
          simp only [ba.l0,Int.lt_irrefl,↓reduceIte]
          exact Ev.some)
      (fun m hm ih=>by
        refine Ev.shift ?_
        have c0 : (0 : Int) ≤ (m : Int):=by omega
        have c1 : (m : Int) < (l.length : Int):=by omega
        have c2 : (sel m (gq q l a b)).length < 17592186044416:=by have:=gY m (gq q l a b);omega
        rw [gI] at ih
        simp only [ba.l0,fY,c0,c1,c2,↓reduceIte,dD,w1 hm (show l.length ≤ 9223372036854775807 by omega)]
        by_cases hh : (swl l.length (tab l.length (fP q l a b))).getD m 0 > (swl l.length (tab l.length (fL q l))).getD m 0
        · have hv : gq q l a b m = true:=by simp only [gq,hh,decide_true]
          simp only [hv,↓reduceIte] at ih
          simp only [hh,↓reduceIte]
          exact ih
        · have hv : gq q l a b m = false:=by simp only [gq,hh,decide_false]
          simp only [hv,Bool.false_eq_true,↓reduceIte,List.append_nil] at ih
          simp only [hh,↓reduceIte]
          exact ih)
    exact key 0 (Nat.zero_le _)
theorem du.ev (l : List Int) (hl : l.length ≤ 1048576) (h : ∀ x ∈ l,0 ≤ x ∧ x < 62) : Ev (fun k=>du.f k l) (bitsOf l : Int):=by
  have key := Ev.down (G := fun i k => du.l0 k (((l.take i).foldl (fun m x => m ||| 2 ^ x.toNat) 0 : Nat) : Int) l (l.length : Int) (i : Int)) (R := fun _ => (bitsOf l : Int)) l.length
    (by refine Ev.shift ?_
        simp only [du.l0,Int.lt_irrefl,↓reduceIte,List.take_length]
        exact Ev.some)
    (fun i hi ih=>by
        refine Ev.shift ?_
        have c1 : (i : Int) < (l.length : Int):=by omega
        have c0 : (0 : Int) ≤ (i : Int):=by omega
        have hx:=h _ (dH l 0 i hi)
        have hm : (l.take i).foldl (fun m x=>m ||| 2 ^ x.toNat) 0 < 2 ^ 62:=jo _ 62 (fun y hy=>h y (List.mem_of_mem_take hy)) 0 (by decide)
        rw [gN _ _ l 0 i hi] at ih
        simp only [du.l0,c1,c0,↓reduceIte,w1 hi (show l.length ≤ 9223372036854775807 by omega),dD,hx.1]
        obtain ⟨j,hj⟩ : ∃ j : Nat,l.getD i 0 = (j : Int):=⟨(l.getD i 0).toNat,by omega⟩
        rw [hj] at ih hx ⊢
        have hp : 2 ^ j < 2 ^ 63:=Nat.pow_lt_pow_right (by omega) (by omega)
        rw [gG j (by omega),mQ _ _ (Nat.lt_of_lt_of_le hm (by decide)) hp]
        exact ih)
  exact key 0 (Nat.zero_le _)
def dm (l s : List Int) : Nat → List Int
  | i=>if h : i < l.length then (if (i : Int) = s.getD 0 0 then [wt l (bitsOf s)] else if kC s i = true then [] else [l.getD i 0]) ++ dm l s (i + 1) else []
termination_by i=>l.length - i
theorem fi (l s : List Int) (i : Nat) (h : i < l.length) : dm l s i = (if (i : Int) = s.getD 0 0 then [wt l (bitsOf s)] else if kC s i = true then [] else [l.getD i 0]) ++ dm l s (i + 1):=by
  rw [dm.eq_1,dif_pos h]
theorem gx (l s : List Int) (i : Nat) (h : l.length ≤ i) : dm l s i = []:=by
  rw [dm.eq_1,dif_neg (by omega)]
theorem ki (l s : List Int) (i : Nat) (hi : i ≤ l.length) : (dm l s i).length ≤ l.length - i:=by
  refine back (P:=fun i=>(dm l s i).length ≤ l.length - i) l.length ?_ ?_ i hi
  · rw [gx _ _ _ (Nat.le_refl _)];simp
  · intro i hi ih
    rw [fi _ _ _ hi,List.length_append]
    split
    · simp only [List.length_singleton];omega
    · split
      · simp only [List.length_nil];omega
      · simp only [List.length_singleton];omega
def ly (q : Int) (l s : List Int) : Int × List Int × Bool:=if (isComm q l && fj s l.length && decide (s ≠ [])) = true then ifC q (dm l s 0) else (0,[],false)
theorem dz.ev (l : List Int) (v : Int) (hm : l.length ≤ 9223372036854775807) : Ev (fun k=>dz.f k l v) (kC l v):=by
  unfold dz.f kC
  have key := Ev.down (G := fun i k => dz.l0 k v l (l.length : Int) (i : Int)) (R := fun i => (l.drop i).any (fun x => decide (v = x))) l.length
    (by refine Ev.shift ?_
        simp only [dz.l0,Int.lt_irrefl,↓reduceIte,List.drop_length,List.any_nil]
        exact Ev.some)
    (fun i hi ih=>by
        refine Ev.shift ?_
        have c1 : (i : Int) < (l.length : Int):=by omega
        have c0 : (0 : Int) ≤ (i : Int):=by omega
        simp only [dz.l0,c1,c0,↓reduceIte,w1 hi hm,dD]
        rw [eA l 0 i hi,List.any_cons]
        by_cases hv : v = l.getD i 0
        · simp only [← hv,↓reduceIte,decide_true,Bool.true_or];exact Ev.some
        · have hv' : ¬ l.getD i 0 = v:=fun e=>hv e.symm
          simp only [hv,hv',↓reduceIte,decide_false,Bool.false_or];exact ih)
  exact key 0 (Nat.zero_le _)
theorem aQ.ev (q : Int) (l s : List Int) (hm : l.length ≤ 9223372036854775807) (hs : s.length ≤ 1048576) : Ev (fun k=>aQ.f k q l s) (ly q l s):=by
  have off : ∀ v : Int × List Int × Bool,v = (0,[],false) → Ev (fun k=>aQ.j0 k s true q l) v:=by
    rintro v rfl
    refine Ev.shift ?_
    simp only [aQ.j0,↓reduceIte]
    exact Ev.some
  unfold aQ.f ly
  refine Ev.bind (dw.ev q l s hm (by omega)) ?_
  cases h : isComm q l && fj s l.length with
  | false=>simp only [Bool.false_eq_true,↓reduceIte,Bool.false_and];exact off _ rfl
  | true =>
    by_cases he : s = []
    · subst he;simp;exact off _ rfl
    · have hpos : 0 < s.length:=List.length_pos_iff.2 he
      have hb : ((s.length : Int) == 0) = false:=by simp;omega
      simp only [Bool.and_eq_true] at h
      have hlen:=b6 h.1
      have hmem:=gj h.2
      have c2 : (0 : Int) < (s.length : Int):=by omega
      have hbl : bitsOf s < 2 ^ 9:=jo s 9 (fun x hx=>by have:=hmem x hx;omega) 0 (by decide)
      simp only [hb,↓reduceIte,he,ne_eq,not_false_eq_true,decide_true,Bool.and_self]
      have key := back (P := fun i => ∀ o : List Int, o.length ≤ i → Ev (fun k => aQ.l0 k s l (l.length : Int) (i : Int) q l q o) (ifC q (o ++ dm l s i))) l.length
        (by intro o ho
            refine Ev.shift ?_
            simp only [aQ.l0,Int.lt_irrefl,↓reduceIte,gx _ _ _ (Nat.le_refl _),List.append_nil]
            exact Ev.bind (cT.ev q o (by omega)) Ev.some)
        (by intro i hi ih o ho
            refine Ev.shift ?_
            have c1 : (i : Int) < (l.length : Int):=by omega
            have c0 : (0 : Int) ≤ (i : Int):=by omega
            have c3 : o.length < 17592186044416:=by omega
            have e0 : rd s 0 = s.getD 0 0:=dD s 0
            rw [fi _ _ _ hi]
            simp only [aQ.l0,c1,c0,c2,↓reduceIte,w1 hi hm,e0,dD]
            by_cases h1 : (i : Int) = s.getD 0 0
            · simp only [h1,↓reduceIte]
              refine Ev.bind (db.ev s hs (fun x hx=>by have:=hmem x hx;omega)) ?_
              refine Ev.bind (bh.ev q l (bitsOf s) (dn h.1) (by omega) (by omega)) ?_
              simp only [c3,↓reduceIte]
              refine Ev.eq (ih _ (by simp;omega)) (by rw [List.append_assoc])
            · simp only [h1,↓reduceIte]
              refine Ev.bind (cM.ev s i (by omega)) ?_
              cases kC s i with
              | true=>simp only [↓reduceIte,List.nil_append];exact ih _ (by omega)
              | false =>
                simp only [Bool.false_eq_true,↓reduceIte,c3]
                refine Ev.eq (ih _ (by simp;omega)) (by rw [List.append_assoc]))
      refine Ev.shift ?_
      simp only [aQ.j0,Bool.false_eq_true,↓reduceIte]
      exact key 0 (Nat.zero_le _) [] (by simp)
theorem bO.ev (q : Int) (l s : List Int) (hs : s.length ≤ 1048576) (hc : isComm q l = true) (hS : fj s l.length = true) (he : s ≠ []) : Ev (fun k=>bO.f k q l s) (q,dm l s 0):=by
  have hpos : 0 < s.length:=List.length_pos_iff.2 he
  have hlen:=b6 hc
  have hmem:=gj hS
  have c2 : (0 : Int) < (s.length : Int):=by omega
  have key := back (P := fun i => ∀ o : List Int, o.length ≤ i → Ev (fun k => bO.l0 k s l (l.length : Int) (i : Int) q l q o) (q, o ++ dm l s i)) l.length
    (by intro o ho
        refine Ev.shift ?_
        simp only [bO.l0,Int.lt_irrefl,↓reduceIte,gx _ _ _ (Nat.le_refl _),List.append_nil]
        exact Ev.some)
    (by intro i hi ih o ho
        refine Ev.shift ?_
        have c1 : (i : Int) < (l.length : Int):=by omega
        have c0 : (0 : Int) ≤ (i : Int):=by omega
        have c3 : o.length < 17592186044416:=by omega
        have e0 : rd s 0 = s.getD 0 0:=dD s 0
        rw [fi _ _ _ hi]
        simp only [bO.l0,c1,c0,c2,↓reduceIte,w1 hi (show l.length ≤ 9223372036854775807 by omega),e0,dD]
        by_cases h1 : (i : Int) = s.getD 0 0
        · simp only [h1,↓reduceIte]
          refine Ev.bind (du.ev s hs (fun x hx=>by have:=hmem x hx;omega)) ?_
          refine Ev.bind (cx.ev q l (bitsOf s) (dn hc) (by omega)) ?_
          simp only [c3,↓reduceIte]
          refine Ev.eq (ih _ (by simp;omega)) (by rw [List.append_assoc])
        · simp only [h1,↓reduceIte]
          refine Ev.bind (dz.ev s i (by omega)) ?_
          cases kC s i with
          | true=>simp only [↓reduceIte,List.nil_append];exact ih _ (by omega)
          | false =>
            simp only [Bool.false_eq_true,↓reduceIte,c3]
            refine Ev.eq (ih _ (by simp;omega)) (by rw [List.append_assoc]))
  unfold bO.f
  exact key 0 (Nat.zero_le _) [] (by simp)
theorem mr {s : List Int} {n : Int} (h : fj s n = true) : ∀ x ∈ s,s.getD 0 0 ≤ x:=by
  simp only [fj,Bool.and_eq_true] at h
  have hi:=(allF_iff _ _).1 h.2
  have key : ∀ i,i < s.length → s.getD 0 0 ≤ s.getD i 0:=by
    intro i
    induction i with
    | zero=>intro _;omega
    | succ i ih =>
      intro h1
      have h2:=hi (i + 1) h1
      simp only [l4,Bool.or_eq_true,beq_iff_eq,decide_eq_true_eq,Nat.add_sub_cancel] at h2
      have:=ih (by omega)
      omega
  intro x hx
  obtain ⟨i,hi2,rfl⟩:=List.mem_iff_getElem.1 hx
  have:=key i hi2
  rwa [List.getD_eq_getElem?_getD (i:=i),List.getElem?_eq_getElem hi2,Option.getD_some] at this
theorem jh {l s : List Int} (h : fj s l.length = true) (he : s ≠ []) : ∀ i : Nat,(i : Int) ≤ s.getD 0 0 → s.getD 0 0 < i + (dm l s i).length:=by
  have hpos : 0 < s.length:=List.length_pos_iff.2 he
  have h0:=gj h _ (dH s 0 0 hpos)
  have hf:=mr h
  obtain ⟨a,ha⟩ : ∃ a : Nat,s.getD 0 0 = (a : Int):=⟨(s.getD 0 0).toNat,by omega⟩
  rw [ha] at h0 hf ⊢
  intro i hi
  refine back (P:=fun i=>(a : Int) < i + (dm l s i).length) a ?_ ?_ i (by omega)
  · rw [fi l s a (by omega),if_pos ha.symm]
    simp only [List.length_append,List.length_singleton]
    omega
  · intro i hia ih
    have hn : kC s (i : Int) = false:=by
      unfold kC
      rw [List.any_eq_false]
      intro x hx
      have:=hf x hx
      simp only [decide_eq_true_eq]
      omega
    rw [fi l s i (by omega),if_neg (by rw [ha];omega),hn,if_neg (by decide)]
    simp only [List.length_append,List.length_singleton]
    omega
def fQ (q : Int) (l s : List Int) : Bool:=isComm q l && fj s l.length && decide (s ≠ []) && isComm q (dm l s 0)
theorem mM (q : Int) (l s : List Int) : ly q l s = if fQ q l s = true then (q,dm l s 0,true) else (0,[],false):=by
  unfold ly fQ ifC
  cases isComm q l && fj s l.length && decide (s ≠ []) <;> cases isComm q (dm l s 0) <;> rfl
theorem fb.ev (q : Int) (l s : List Int) (hm : l.length ≤ 9223372036854775807) (hs : s.length ≤ 1048576) : Ev (fun k=>fb.f k q l s) (fQ q l s):=by
  unfold fb.f fQ
  refine Ev.bind (dO.ev q l s hm (by omega)) ?_
  cases h : isComm q l && fj s l.length with
  | false=>simp only [Bool.false_eq_true,↓reduceIte,Bool.false_and];exact Ev.some
  | true =>
    by_cases he : s = []
    · subst he;simp only [List.length_nil,Int.natCast_zero,↓reduceIte,ne_eq,not_true_eq_false,decide_false,Bool.and_false,Bool.false_and,gt_iff_lt,Int.lt_irrefl];exact Ev.some
    · have hpos : 0 < s.length:=List.length_pos_iff.2 he
      have c2 : (s.length : Int) > 0:=by omega
      simp only [Bool.and_eq_true] at h
      have hlen:=b6 h.1
      have hml:=ki l s 0 (Nat.zero_le _)
      simp only [↓reduceIte,c2,he,ne_eq,not_false_eq_true,decide_true,Bool.true_and]
      exact Ev.bind (bO.ev q l s hs h.1 h.2 he) (Ev.bind (ck.ev _ _ (by simp only;omega)) Ev.some)
end Go.Proofs.YtjeneincnndcoaaGreat.P

namespace Go.Proofs.YtjeneincnndcoaaGreat.P
def pcR : Nat → Nat → Nat
  | 0,_=>0
  | n + 1,m=>pcR n m + if m.testBit n = true then 1 else 0
def fac : Nat → Nat
  | 0=>1
  | n + 1=>(n + 1) * fac n
theorem fac_pos (n : Nat) : 0 < fac n:=by
  induction n with
  | zero=>decide
  | succ n ih=>rw [fac];exact Nat.mul_pos (by omega) ih
theorem fac_le {n m : Nat} (h : n ≤ m) : fac n ≤ fac m:=by
  induction m with
  | zero => obtain rfl : n = 0 := by omega
            exact Nat.le_refl _
  | succ m ih =>
    by_cases e : n = m + 1
    · rw [e];exact Nat.le_refl _
    · exact Nat.le_trans (ih (by omega)) (by rw [fac];exact Nat.le_mul_of_pos_left _ (by omega))
theorem lA {n : Nat} (h : n ≤ 9) : fac n ≤ 362880:=Nat.le_trans (fac_le h) (by decide)
theorem me (n m : Nat) : pcR n m ≤ n:=by
  induction n with
  | zero=>exact Nat.le_refl _
  | succ n ih=>rw [pcR];split <;> omega
theorem pcR_more (n d m : Nat) (h : m < 2 ^ n) : pcR (n + d) m = pcR n m:=by
  induction d with
  | zero=>rfl
  | succ d ih =>
    rw [show n + (d + 1) = (n + d) + 1 from rfl,pcR,ih,Nat.testBit_lt_two_pow (Nat.lt_of_lt_of_le h (Nat.pow_le_pow_right (by omega) (by omega)))]
    rfl
theorem pcR_lt (n m k : Nat) (hk : k < n) (hb : m.testBit k = false) : pcR n m ≤ n - 1:=by
  induction n with
  | zero=>omega
  | succ n ih =>
    rw [pcR]
    have:=me n m
    by_cases e : k = n
    · subst e;rw [hb];simp only [Bool.false_eq_true,↓reduceIte];omega
    · have:=ih (by omega)
      split <;> omega
theorem lI (m k j : Nat) (hb : m.testBit k = false) : (m + 2 ^ k).testBit j = (m.testBit j || decide (k = j)):=by
  rw [← kL hb,Nat.testBit_or,Nat.testBit_two_pow]
theorem pcR_with (n m k : Nat) (hk : k < n) (hb : m.testBit k = false) : pcR n (m + 2 ^ k) = pcR n m + 1:=by
  have off : ∀ n,n ≤ k → pcR n (m + 2 ^ k) = pcR n m:=by
    intro n
    induction n with
    | zero=>intro _;rfl
    | succ n ih =>
      intro h
      rw [pcR,pcR,ih (by omega),lI m k n hb,show decide (k = n) = false from decide_eq_false (by omega),Bool.or_false]
  induction n with
  | zero=>omega
  | succ n ih =>
    rw [pcR,pcR,lI m k n hb]
    by_cases e : k = n
    · subst e
      rw [off k (Nat.le_refl _),hb,show decide (k = k) = true from decide_eq_true rfl]
      simp
    · rw [ih (by omega),show decide (k = n) = false from decide_eq_false e,Bool.or_false]
      omega
def gB : Nat → (Nat → Int) → Int
  | 0,F=>F 0
  | n + 1,F=>gB n F + gB n (fun m=>F (m + 2 ^ n))
def lu : Nat → (Nat → Int) → Int
  | 0,_=>0
  | n + 1,F=>lu n F + F n
theorem dQ (n : Nat) (F G : Nat → Int) (h : ∀ m,m < 2 ^ n → F m = G m) : gB n F = gB n G:=by
  induction n generalizing F G with
  | zero=>exact h 0 (by decide)
  | succ n ih =>
    have hp:=Nat.two_pow_pos n
    rw [gB,gB,ih F G (fun m hm=>h m (by rw [Nat.pow_succ];omega)),ih _ _ (fun m hm=>h (m + 2 ^ n) (by rw [Nat.pow_succ];omega))]
theorem sumS_add (n : Nat) (F G : Nat → Int) : gB n (fun m=>F m + G m) = gB n F + gB n G:=by
  induction n generalizing F G with
  | zero=>rfl
  | succ n ih=>rw [gB,gB,gB,ih,ih (fun m=>F (m + 2 ^ n)) (fun m=>G (m + 2 ^ n))];omega
theorem jQ (n : Nat) (F G : Nat → Int) : gB n (fun m=>F m - G m) = gB n F - gB n G:=by
  induction n generalizing F G with
  | zero=>rfl
  | succ n ih=>rw [gB,gB,gB,ih,ih (fun m=>F (m + 2 ^ n)) (fun m=>G (m + 2 ^ n))];omega
theorem ij (n : Nat) : gB n (fun _=>0) = 0:=by
  induction n with
  | zero=>rfl
  | succ n ih=>rw [gB,ih];rfl
theorem mE (n N : Nat) (G : Nat → Nat → Int) : lu n (fun k=>gB N (G k)) = gB N (fun m=>lu n (fun k=>G k m)):=by
  induction n with
  | zero=>exact (ij N).symm
  | succ n ih=>rw [lu,ih,← sumS_add];rfl
theorem jP (n : Nat) (F G : Nat → Int) (h : ∀ k,k < n → F k = G k) : lu n F = lu n G:=by
  induction n with
  | zero=>rfl
  | succ n ih=>rw [lu,lu,ih (fun k hk=>h k (by omega)),h n (by omega)]
theorem kS (m n k : Nat) (h : k < n) : (m + 2 ^ n).testBit k = m.testBit k:=by rw [Nat.add_comm,Nat.testBit_two_pow_add_gt h]
theorem km (m n : Nat) (h : m < 2 ^ n) : (m + 2 ^ n).testBit n = true:=by rw [Nat.add_comm,Nat.testBit_two_pow_add_eq,Nat.testBit_lt_two_pow h];rfl
theorem sumS_put (n k : Nat) (hk : k < n) (F : Nat → Int) : gB n (fun m=>if m.testBit k = true then 0 else F (m + 2 ^ k)) = gB n (fun m=>if m.testBit k = true then F m else 0):=by
  induction n generalizing F with
  | zero=>omega
  | succ n ih =>
    rw [gB,gB]
    by_cases e : k = n
    · subst e
      rw [dQ k _ (fun m => F (m + 2 ^ k)) (fun m hm => by simp only [Nat.testBit_lt_two_pow hm, Bool.false_eq_true, ↓reduceIte]),
        dQ k (fun m=>if (m + 2 ^ k).testBit k = true then 0 else F (m + 2 ^ k + 2 ^ k)) (fun _=>0) (fun m hm=>by simp only [km m k hm,↓reduceIte]),
        dQ k (fun m=>if m.testBit k = true then F m else 0) (fun _=>0) (fun m hm=>by simp only [Nat.testBit_lt_two_pow hm,Bool.false_eq_true,↓reduceIte]),
        dQ k (fun m=>if (m + 2 ^ k).testBit k = true then F (m + 2 ^ k) else 0) (fun m=>F (m + 2 ^ k)) (fun m hm=>by simp only [km m k hm,↓reduceIte]),ij]
      omega
    · have hkn : k < n:=by omega
      have h2:=ih hkn (fun m=>F (m + 2 ^ n))
      rw [ih hkn F]
      congr 1
      rw [dQ n (fun m => if (m + 2 ^ n).testBit k = true then 0 else F (m + 2 ^ n + 2 ^ k)) (fun m => if m.testBit k = true then 0 else F (m + 2 ^ k + 2 ^ n)) (fun m _ => by rw [kS m n k hkn, Nat.add_right_comm]),
        dQ n (fun m=>if (m + 2 ^ n).testBit k = true then F (m + 2 ^ n) else 0) (fun m=>if m.testBit k = true then F (m + 2 ^ n) else 0) (fun m _=>by rw [kS m n k hkn])]
      exact h2
theorem mT (n m : Nat) (A B : Int) : lu n (fun k=>if m.testBit k = true then A else -B) = (pcR n m : Int) * A - ((n : Int) - (pcR n m : Int)) * B:=by
  induction n with
  | zero=>simp [lu,pcR]
  | succ n ih =>
    rw [lu,ih,pcR]
    by_cases h : m.testBit n = true
    · simp only [h,↓reduceIte,Int.natCast_add,Int.natCast_one,Int.sub_mul,Int.add_mul,Int.one_mul];omega
    · simp only [h,↓reduceIte,Int.natCast_add,Int.natCast_one,Nat.add_zero,Int.sub_mul,Int.add_mul,Int.one_mul];simp;omega
theorem pcR_up (n m : Nat) : pcR n (m + 2 ^ n) = pcR n m:=by
  have key : ∀ d,d ≤ n → pcR d (m + 2 ^ n) = pcR d m:=by
    intro d
    induction d with
    | zero=>intro _;rfl
    | succ d ih=>intro h;rw [pcR,pcR,ih (by omega),kS m n d (by omega)]
  exact key n (Nat.le_refl _)
theorem nb (n : Nat) (f : Nat → Int) : gB n (fun m=>if pcR n m = n then f m else 0) = f (2 ^ n - 1):=by
  induction n generalizing f with
  | zero=>rfl
  | succ n ih =>
    have hp:=Nat.two_pow_pos n
    rw [gB,dQ n _ (fun _=>0) (fun m hm=>by
      have:=me n m
      rw [pcR,Nat.testBit_lt_two_pow hm,if_neg (show ¬ pcR n m + (if false = true then 1 else 0) = n + 1 by simp;omega)]),ij,Int.zero_add,
      dQ n (fun m=>if pcR (n + 1) (m + 2 ^ n) = n + 1 then f (m + 2 ^ n) else 0) (fun m=>if pcR n m = n then f (m + 2 ^ n) else 0) (fun m hm=>by
        rw [pcR,pcR_up,km m n hm]
        simp),ih (fun m=>f (m + 2 ^ n))]
    congr 1
    rw [Nat.pow_succ];omega
theorem mF (n : Nat) (f : Nat → Int) : gB n (fun m=>if pcR n m = 0 then f m else 0) = f 0:=by
  induction n generalizing f with
  | zero=>rfl
  | succ n ih =>
    rw [gB,dQ n _ (fun m=>if pcR n m = 0 then f m else 0) (fun m hm=>by
      rw [pcR,Nat.testBit_lt_two_pow hm]
      simp),ih f,dQ n (fun m=>if pcR (n + 1) (m + 2 ^ n) = 0 then f (m + 2 ^ n) else 0) (fun _=>0) (fun m hm=>by
        rw [pcR,km m n hm]
        simp),ij,Int.add_zero]
def wgt (n s : Nat) : Nat:=fac s * fac (n - 1 - s)
theorem ln {n s : Nat} (hs : s ≤ n - 1) (hn : 1 ≤ n) (h9 : n ≤ 9) : wgt n s ≤ 362880:=by
  have key : ∀ t s,fac s * fac t ≤ fac (s + t):=by
    intro t s
    induction s with
    | zero=>simp [fac]
    | succ s ih =>
      rw [show s + 1 + t = (s + t) + 1 by omega,fac,fac,Nat.mul_assoc]
      exact Nat.le_trans (Nat.mul_le_mul_left _ ih) (Nat.mul_le_mul_right _ (by omega))
  exact Nat.le_trans (key _ _) (Nat.le_trans (fac_le (show s + (n - 1 - s) ≤ 9 by omega)) (by decide))
theorem coef (n s : Nat) (hn : 1 ≤ n) (hs : s ≤ n) : (s : Int) * (wgt n (s - 1) : Int) - ((n : Int) - (s : Int)) * (wgt n s : Int) = (if s = n then (fac n : Int) else 0) - (if s = 0 then (fac n : Int) else 0):=by
  unfold wgt
  by_cases h0 : s = 0
  · subst h0
    rw [if_neg (by omega),if_pos rfl]
    obtain ⟨d,rfl⟩ : ∃ d,n = d + 1:=⟨n - 1,by omega⟩
    simp [fac]
  · obtain ⟨t,rfl⟩ : ∃ t,s = t + 1:=⟨s - 1,by omega⟩
    rw [if_neg h0]
    have e1 : ((t + 1 : Nat) : Int) * ((fac (t + 1 - 1) * fac (n - 1 - (t + 1 - 1)) : Nat) : Int) = ((fac (t + 1) * fac (n - 1 - t) : Nat) : Int):=by
      rw [Nat.add_sub_cancel,fac,← Int.natCast_mul,Nat.mul_assoc]
    rw [e1]
    by_cases hn2 : t + 1 = n
    · subst hn2
      rw [if_pos rfl,Nat.add_sub_cancel,Nat.sub_self]
      simp [fac]
    · rw [if_neg hn2]
      obtain ⟨d,rfl⟩ : ∃ d,n = t + 1 + (d + 1):=⟨n - (t + 1) - 1,by omega⟩
      have e2 : (((t + 1 + (d + 1) : Nat) : Int) - ((t + 1 : Nat) : Int)) * ((fac (t + 1) * fac (t + 1 + (d + 1) - 1 - (t + 1)) : Nat) : Int) = ((fac (t + 1) * fac (d + 1) : Nat) : Int):=by
        rw [show t + 1 + (d + 1) - 1 - (t + 1) = d by omega,show ((t + 1 + (d + 1) : Nat) : Int) - ((t + 1 : Nat) : Int) = ((d + 1 : Nat) : Int) by omega,← Int.natCast_mul,fac,fac,Nat.mul_left_comm (d + 1)]
      rw [e2,show t + 1 + (d + 1) - 1 - t = d + 1 by omega]
      simp
theorem lZ (n : Nat) (hn : 1 ≤ n) (W : Nat → Bool) (hmono : ∀ m k, m < 2 ^ n → k < n → m.testBit k = false → W m = true → W (m + 2 ^ k) = true) (h0 : W 0 = false) (h1 : W (2 ^ n - 1) = true) :
    lu n (fun k=>gB n (fun m=>if (!m.testBit k && !W m && W (m + 2 ^ k)) = true then (wgt n (pcR n m) : Int) else 0)) = (fac n : Int):=by
  let f : Nat → Int:=fun m=>if W m = true then 1 else 0
  have step : ∀ k,k < n → gB n (fun m=>if (!m.testBit k && !W m && W (m + 2 ^ k)) = true then (wgt n (pcR n m) : Int) else 0) = gB n (fun m=>if m.testBit k = true then (wgt n (pcR n m - 1) : Int) * f m else - ((wgt n (pcR n m) : Int) * f m)):=by
    intro k hk
    have e1:=sumS_put n k hk (fun m=>(wgt n (pcR n m - 1) : Int) * f m)
    rw [dQ n _ (fun m=>(if m.testBit k = true then 0 else (wgt n (pcR n (m + 2 ^ k) - 1) : Int) * f (m + 2 ^ k)) - (if m.testBit k = true then 0 else (wgt n (pcR n m) : Int) * f m)) (fun m hm=>by
      cases hb : m.testBit k with
      | true=>simp
      | false =>
        rw [pcR_with n m k hk hb,Nat.add_sub_cancel]
        simp only [f,Bool.not_false,Bool.true_and,Bool.false_eq_true,↓reduceIte]
        cases hW : W m with
        | true=>rw [hmono m k hm hk hb hW];simp
        | false=>cases W (m + 2 ^ k) <;> simp),jQ,e1,← jQ]
    refine dQ n _ _ (fun m _=>?_)
    cases m.testBit k <;> simp
  rw [jP n _ _ step,mE]
  rw [dQ n _ (fun m=>(if pcR n m = n then (fac n : Int) * f m else 0) - (if pcR n m = 0 then (fac n : Int) * f m else 0)) (fun m _=>by
    rw [mT]
    have hc:=coef n (pcR n m) hn (me n m)
    have : (pcR n m : Int) * ((wgt n (pcR n m - 1) : Int) * f m) - ((n : Int) - (pcR n m : Int)) * ((wgt n (pcR n m) : Int) * f m) = ((pcR n m : Int) * (wgt n (pcR n m - 1) : Int) - ((n : Int) - (pcR n m : Int)) * (wgt n (pcR n m) : Int)) * f m:=by
      simp only [Int.sub_mul,Int.mul_assoc]
    rw [this,hc,Int.sub_mul]
    congr 1 <;> split <;> simp),jQ,nb n (fun m=>(fac n : Int) * f m),mF n (fun m=>(fac n : Int) * f m)]
  simp only [f,h0,h1,Bool.false_eq_true,↓reduceIte,Int.mul_one,Int.mul_zero,Int.sub_zero]
theorem mh (n : Nat) (F : Nat → Int) : ((List.range (2 ^ n)).map F).sum = gB n F:=by
  induction n generalizing F with
  | zero=>simp [gB,List.range_succ]
  | succ n ih=>rw [Nat.pow_succ,Nat.mul_two,List.range_add,List.map_append,List.sum_append,ih,List.map_map,gB,← ih (fun m=>F (m + 2 ^ n))];exact congrArg _ (congrArg _ (List.map_congr_left (fun m _=>by show F (2 ^ n + m) = F (m + 2 ^ n);rw [Nat.add_comm])))
theorem mP (n : Nat) (F : Nat → Int) : ((List.range n).map F).sum = lu n F:=by
  induction n with
  | zero=>rfl
  | succ n ih=>rw [List.range_succ,List.map_append,List.sum_append,ih,lu];simp
theorem lX (l : List Nat) (p : Nat → Bool) (F : Nat → Int) : ((l.filter p).map F).sum = (l.map fun m=>if p m = true then F m else 0).sum:=by
  induction l with
  | nil=>rfl
  | cons x l ih =>
    by_cases h : p x = true
    · rw [List.filter_cons_of_pos h,List.map_cons,List.map_cons,List.sum_cons,List.sum_cons,ih,if_pos h]
    · rw [List.filter_cons_of_neg h,List.map_cons,List.sum_cons,ih,if_neg h,Int.zero_add]
end Go.Proofs.YtjeneincnndcoaaGreat.P

namespace Go.Proofs.YtjeneincnndcoaaGreat.P
open Go.RowKit Go.Proofs.YtjeneincnndcoaaGreatW.PrintWords Go.Proofs.YtjeneincnndcoaaGreatW.PrintLast Go.Proofs.YtjeneincnndcoaaGreatW.PrintMore
theorem count512 : ((List.range 512).all fun m=>eu.f (m : Int) == some ((pcR 9 m : Nat) : Int)) = true:=by decide +kernel
theorem eu.eq (m : Nat) (h : m < 512) : eu.f (m : Int) = some ((pcR 9 m : Nat) : Int):=by
  have h1:=count512
  rw [List.all_eq_true] at h1
  simpa using h1 m (List.mem_range.2 h)
theorem sel_pc (n m : Nat) : (sel n m.testBit).length = pcR n m:=by
  induction n with
  | zero=>rfl
  | succ n ih=>rw [gI,List.length_append,ih,pcR];cases m.testBit n <;> rfl
theorem lr {n j : Nat} (hj : j + 2 ≤ n) (h9 : n ≤ 9) : wrap64 (((fac (j + 1) : Nat) : Int) * ((j + 2 : Nat) : Int)) = ((fac (j + 2) : Nat) : Int):=by
  have h:=lA (show j + 2 ≤ 9 by omega)
  have e : ((fac (j + 1) : Nat) : Int) * ((j + 2 : Nat) : Int) = ((fac (j + 2) : Nat) : Int):=by rw [← Int.natCast_mul,Nat.mul_comm];rfl
  rw [e,w64 (by omega) (by omega)]
theorem bU.ev (n : Nat) (hn : n ≤ 9) : Ev (fun k=>bU.f k (n : Int)) ((fac n : Nat) : Int):=by
  unfold bU.f
  cases n with
  | zero =>
    refine Ev.shift ?_
    have c : ¬ ((2 : Int) ≤ ((0 : Nat) : Int)):=by omega
    simp only [bU.l0,c,↓reduceIte]
    exact Ev.some
  | succ m =>
    have key := Ev.down (G := fun j k => bU.l0 k ((m + 1 : Nat) : Int) ((fac (j + 1) : Nat) : Int) ((j + 2 : Nat) : Int)) (R := fun _ => ((fac (m + 1) : Nat) : Int)) m
      (by refine Ev.shift ?_
          have c : ¬ (((m + 2 : Nat) : Int) ≤ ((m + 1 : Nat) : Int)):=by omega
          simp only [bU.l0,c,↓reduceIte]
          exact Ev.some)
      (fun j hj ih=>by
        refine Ev.shift ?_
        have c : (((j + 2 : Nat) : Int) ≤ ((m + 1 : Nat) : Int)):=by omega
        have e2 : wrap64 (((j + 2 : Nat) : Int) + 1) = ((j + 1 + 2 : Nat) : Int):=by rw [w64 (by omega) (by omega)];omega
        simp only [bU.l0,c,↓reduceIte,lr (n:=m + 1) (j:=j) (by omega) hn,e2]
        exact ih)
    exact key 0 (Nat.zero_le _)
theorem cK.ev (n : Nat) (hn : n ≤ 9) : Ev (fun k=>cK.f k (n : Int)) ((fac n : Nat) : Int):=by
  unfold cK.f
  cases n with
  | zero =>
    refine Ev.shift ?_
    have c : ¬ ((2 : Int) ≤ ((0 : Nat) : Int)):=by omega
    simp only [cK.l0,c,↓reduceIte]
    exact Ev.some
  | succ m =>
    have key := Ev.down (G := fun j k => cK.l0 k ((m + 1 : Nat) : Int) ((fac (j + 1) : Nat) : Int) ((j + 2 : Nat) : Int)) (R := fun _ => ((fac (m + 1) : Nat) : Int)) m
      (by refine Ev.shift ?_
          have c : ¬ (((m + 2 : Nat) : Int) ≤ ((m + 1 : Nat) : Int)):=by omega
          simp only [cK.l0,c,↓reduceIte]
          exact Ev.some)
      (fun j hj ih=>by
        refine Ev.shift ?_
        have c : (((j + 2 : Nat) : Int) ≤ ((m + 1 : Nat) : Int)):=by omega
        have e2 : wrap64 (((j + 2 : Nat) : Int) + 1) = ((j + 1 + 2 : Nat) : Int):=by rw [w64 (by omega) (by omega)];omega
        simp only [cK.l0,c,↓reduceIte,lr (n:=m + 1) (j:=j) (by omega) hn,e2]
        exact ih)
    exact key 0 (Nat.zero_le _)
def pvs (n : Nat) (w : List Bool) (k N : Nat) : Int:=(((List.range N).filter (d6 w k)).map fun m=>(wgt n (pcR 9 m) : Int)).sum
def iO (n : Nat) (w : List Bool) : List Int:=(List.range n).map fun k=>pvs n w k (2 ^ n)
theorem jX (n : Nat) (w : List Bool) : (iO n w).length = n:=by simp [iO]
theorem lG (n : Nat) (w : List Bool) (k : Nat) (h : k < n) : (iO n w).getD k 0 = pvs n w k (2 ^ n):=by simp [iO,List.getD_eq_getElem?_getD,List.getElem?_range h]
theorem lq (n : Nat) (w : List Bool) (k m : Nat) : pvs n w k (m + 1) = pvs n w k m + if d6 w k m = true then (wgt n (pcR 9 m) : Int) else 0:=by
  unfold pvs
  rw [List.range_succ,List.filter_append,List.map_append,List.sum_append]
  cases h : d6 w k m with
  | true=>rw [List.filter_cons_of_pos h];simp
  | false=>rw [List.filter_cons_of_neg (by simp [h])];simp
theorem pc9 {n m : Nat} (h9 : n ≤ 9) (hm : m < 2 ^ n) : pcR 9 m = pcR n m:=by
  have:=pcR_more n (9 - n) m hm
  rwa [show n + (9 - n) = 9 by omega] at this
theorem j5 {n m k : Nat} {w : List Bool} (h9 : n ≤ 9) (hm : m < 2 ^ n) (hk : k < n) (h : d6 w k m = true) : pcR 9 m ≤ n - 1:=by
  simp only [d6,Bool.and_eq_true,Bool.not_eq_true'] at h
  rw [pc9 h9 hm]
  exact pcR_lt n m k hk h.1.1
theorem jL (n : Nat) (w : List Bool) (k N : Nat) (h1 : 1 ≤ n) (h9 : n ≤ 9) (hk : k < n) (hN : N ≤ 2 ^ n) : 0 ≤ pvs n w k N ∧ pvs n w k N ≤ 362880 * N:=by
  induction N with
  | zero=>simp [pvs]
  | succ N ih =>
    have h2:=ih (by omega)
    rw [lq]
    cases hs : d6 w k N with
    | true =>
      have:=ln (j5 h9 (by omega) hk hs) h1 h9
      simp only [↓reduceIte];omega
    | false=>simp only [Bool.false_eq_true,↓reduceIte];omega
theorem mK {n s : Nat} (hs : s ≤ n - 1) (h1 : 1 ≤ n) (h9 : n ≤ 9) : wrap64 (((fac s : Nat) : Int) * ((fac (n - 1 - s) : Nat) : Int)) = (wgt n s : Int):=by
  have:=ln hs h1 h9
  have e : ((fac s : Nat) : Int) * ((fac (n - 1 - s) : Nat) : Int) = (wgt n s : Int):=by rw [← Int.natCast_mul];rfl
  rw [e,w64 (by omega) (by omega)]
theorem sub_pc {n s : Nat} (hs : s ≤ n - 1) (h1 : 1 ≤ n) (h9 : n ≤ 9) : wrap64 (wrap64 ((n : Int) - 1) - (s : Int)) = ((n - 1 - s : Nat) : Int):=by
  rw [w64 (x:=(n : Int) - 1) (by omega) (by omega),w64 (by omega) (by omega)];omega
theorem aJ.inner (n : Nat) (w : List Bool) (i : Nat) (N I : Int) (row res : List Int) (hw : w.length = 2 ^ n) (h1 : 1 ≤ n) (h9 : n ≤ 9) (hi : i < n) (hr : row.length = n) (h0 : row.getD i 0 = 0)
    (hcont : Ev (fun k=>aJ.l0 k (row.set i (pvs n w i (2 ^ n))) N (wrap64 (I + 1)) (n : Int) w) res) :
    Ev (fun k=>aJ.l1 k row (i : Int) N I (w.length : Int) 0 (n : Int) w) res:=by
  have h512 : 2 ^ n ≤ 512:=dU (m:=9) h9
  have key := Ev.down (G := fun m k => aJ.l1 k (row.set i (pvs n w i m)) (i : Int) N I (w.length : Int) (m : Int) (n : Int) w) (R := fun _ => res) (2 ^ n)
    (by refine Ev.shift ?_
        simp only [aJ.l1,hw,Int.lt_irrefl,↓reduceIte]
        exact hcont)
    (fun m hm ih=>by
      refine Ev.shift ?_
      have d1 : (m : Int) < (w.length : Int):=by rw [hw];exact Int.ofNat_lt.2 hm
      have d0 : (0 : Int) ≤ (i : Int):=by omega
      have d2 : (i : Int) < (row.length : Int):=by omega
      have hwm:=w1 hm (show 2 ^ n ≤ 9223372036854775807 by omega)
      have hb:=jL n w i m h1 h9 hi (by omega)
      rw [lq] at ih
      simp only [aJ.l1,d1,↓reduceIte]
      refine Ev.bind (Ev.one (cC.eq n w m i hw (by omega) hm hi)) ?_
      cases hs : d6 w i m with
      | true =>
        have hpc:=j5 h9 hm hi hs
        have hwl:=ln hpc h1 h9
        rw [hs,if_pos rfl] at ih
        simp only [↓reduceIte,List.length_set,d0,d2,hwm]
        refine Ev.bind (Ev.one (eu.eq m (by omega))) ?_
        refine Ev.bind (bU.ev _ (by omega)) ?_
        refine Ev.bind (Ev.one (eu.eq m (by omega))) ?_
        rw [sub_pc hpc h1 h9]
        refine Ev.bind (bU.ev _ (by omega)) ?_
        rw [mK hpc h1 h9]
        have eg : rd (row.set i (pvs n w i m)) (i : Int) = pvs n w i m:=by rw [dD,List.getD_eq_getElem?_getD,List.getElem?_set_self (by omega)];rfl
        simp only [eg,Int.toNat_natCast,List.set_set]
        rw [w64 (by omega) (by omega)]
        exact ih
      | false =>
        rw [hs,if_neg (by decide),Int.add_zero] at ih
        simp only [Bool.false_eq_true,↓reduceIte,hwm]
        exact ih)
  have k0:=key 0 (Nat.zero_le _)
  have e0 : row.set i (pvs n w i 0) = row:=by
    have ez : pvs n w i 0 = 0:=rfl
    rw [ez]
    apply List.ext_getElem?
    intro j
    rw [List.getElem?_set]
    split
    · rename_i e;subst e
      rw [List.getD_eq_getElem?_getD,List.getElem?_eq_getElem (by omega),Option.getD_some] at h0
      rw [if_pos (by omega),List.getElem?_eq_getElem (by omega),h0]
    · rfl
  rw [e0] at k0
  exact k0
theorem aJ.ev (n : Nat) (w : List Bool) (hw : w.length = 2 ^ n) (h1 : 1 ≤ n) (h9 : n ≤ 9) : Ev (fun k=>aJ.f k (n : Int) w) (iO n w):=by
  have c0 : (0 : Int) ≤ (n : Int):=by omega
  have c1 : n ≤ 35184372088832:=by omega
  have sl:=jX n w
  unfold aJ.f
  simp only [c0,c1,↓reduceIte,Int.toNat_natCast]
  refine Ev.bind (Ev.one rfl) ?_
  simp only [List.length_replicate]
  have key := Ev.down (G := fun i k => aJ.l0 k (filled (iO n w) 0 i) (n : Int) (i : Int) (n : Int) w) (R := fun _ => iO n w) n
    (by refine Ev.shift ?_
        have : filled (iO n w) 0 n = iO n w:=by have:=iA (iO n w) 0;rwa [sl] at this
        simp only [aJ.l0,Int.lt_irrefl,↓reduceIte,this]
        exact Ev.some)
    (fun i hi ih=>by
      have hfl:=iH (iO n w) 0 i (by omega)
      have hset:=iz (iO n w) 0 0 i (by omega)
      rw [lG n w i hi] at hset
      rw [← hset] at ih
      have hz : (filled (iO n w) 0 i).getD i 0 = 0:=by
        unfold filled
        rw [List.getD_eq_getElem?_getD,List.getElem?_append_right (by rw [List.length_take];omega),List.getElem?_replicate,if_pos (by rw [List.length_take];omega)];rfl
      refine Ev.shift ?_
      have d1 : (i : Int) < (n : Int):=by omega
      simp only [aJ.l0,d1,↓reduceIte]
      exact aJ.inner n w i _ _ _ _ hw h1 h9 hi (by omega) hz (by rw [w1 hi (show n ≤ 9223372036854775807 by omega)];exact ih))
  have:=key 0 (Nat.zero_le _)
  rw [gV,sl] at this
  exact this
theorem bJ.inner (n : Nat) (w0 : List Bool) (out : List Int) (I : Int) (L : List Nat) (k : Nat) (w : List Bool) (res : List Int) (h1 : 1 ≤ n) (h9 : n ≤ 9) (hk : k < n) (hL : ∀ m ∈ L, m < 2 ^ n ∧ d6 w k m = true) (hlen : L.length ≤ 512) (ho : out.length ≤ 9)
    (hcont : Ev (fun K=>bJ.l0 K w0 (n : Int) (out ++ [(L.map fun m=>(wgt n (pcR 9 m) : Int)).sum]) (wrap64 (I + 1))) res) :
    Ev (fun K=>bJ.l1 K w0 (n : Int) out I 0 (L.map fun m : Nat=>(m : Int)) ((L.map fun m : Nat=>(m : Int)).length : Int) 0) res:=by
  have h512 : 2 ^ n ≤ 512:=dU (m:=9) h9
  have key := back (P := fun j => ∀ a : Int, 0 ≤ a → a ≤ 362880 * j → a + ((L.drop j).map fun m => (wgt n (pcR 9 m) : Int)).sum = (L.map fun m => (wgt n (pcR 9 m) : Int)).sum →
      Ev (fun K=>bJ.l1 K w0 (n : Int) out I a (L.map fun m : Nat=>(m : Int)) (L.length : Int) (j : Int)) res) L.length
    (by intro a _ _ he
        refine Ev.shift ?_
        have c : out.length < 17592186044416:=by omega
        rw [List.drop_length,List.map_nil,List.sum_nil,Int.add_zero] at he
        simp only [bJ.l1,Int.lt_irrefl,↓reduceIte,c,he]
        exact hcont)
    (by intro j hj ih a h0 hb he
        refine Ev.shift ?_
        have c1 : (j : Int) < (L.length : Int):=by omega
        have c0 : (0 : Int) ≤ (j : Int):=by omega
        have c2 : (j : Int) < ((L.map fun m : Nat=>(m : Int)).length : Int):=by rw [List.length_map];omega
        have hm:=hL _ (dH L 0 j hj)
        have eg : rd (L.map fun m : Nat=>(m : Int)) (j : Int) = ((L.getD j 0 : Nat) : Int):=by
          rw [dD,List.getD_eq_getElem?_getD,List.getElem?_map,List.getD_eq_getElem?_getD,List.getElem?_eq_getElem hj];rfl
        have hpc:=j5 h9 hm.1 hk hm.2
        have hwl:=ln hpc h1 h9
        rw [eA L 0 j hj,List.map_cons,List.sum_cons] at he
        simp only [bJ.l1,c0,c1,c2,↓reduceIte,eg]
        refine Ev.bind (dj.ev _ (by omega)) ?_
        simp only [sel_pc]
        refine Ev.bind (cK.ev _ (by omega)) ?_
        rw [sub_pc hpc h1 h9]
        refine Ev.bind (cK.ev _ (by omega)) ?_
        rw [mK hpc h1 h9,w64 (by omega) (by omega),w1 hj (by omega)]
        exact ih _ (by omega) (by omega) (by omega))
  have k0:=key 0 (Nat.zero_le _) 0 (by omega) (by omega) (by rw [List.drop_zero];omega)
  rw [List.length_map]
  exact k0
theorem bJ.ev (n : Nat) (w : List Bool) (hw : w.length = 2 ^ n) (h1 : 1 ≤ n) (h9 : n ≤ 9) : Ev (fun k=>bJ.f k w (n : Int)) (iO n w):=by
  have h512 : 2 ^ n ≤ 512:=dU (m:=9) h9
  have sl:=jX n w
  unfold bJ.f
  have key := Ev.down (G := fun i k => bJ.l0 k w (n : Int) ((iO n w).take i) (i : Int)) (R := fun _ => iO n w) n
    (by refine Ev.shift ?_
        have : (iO n w).take n = iO n w:=by have:=List.take_length (l:=iO n w);rwa [sl] at this
        simp only [bJ.l0,Int.lt_irrefl,↓reduceIte,this]
        exact Ev.some)
    (fun i hi ih=>by
      refine Ev.shift ?_
      have d1 : (i : Int) < (n : Int):=by omega
      rw [gu (iO n w) 0 i (by omega),lG n w i hi] at ih
      simp only [bJ.l0,d1,↓reduceIte]
      refine Ev.bind (b9.ev n w i hw (by omega) hi) ?_
      refine bJ.inner n w ((iO n w).take i) (i : Int) ((List.range (2 ^ n)).filter (d6 w i)) i w _ h1 h9 hi (fun m hm=>?_) ?_ (by rw [List.length_take];omega) (by rw [w1 hi (show n ≤ 9223372036854775807 by omega)];exact ih)
      · rw [List.mem_filter,List.mem_range] at hm
        exact hm
      · have:=List.length_filter_le (d6 w i) (List.range (2 ^ n))
        rw [List.length_range] at this
        omega)
  exact key 0 (Nat.zero_le _)
theorem pivl_sum (n : Nat) (w : List Bool) (h1 : 1 ≤ n) (h9 : n ≤ 9) (hmono : ∀ m k, m < 2 ^ n → k < n → m.testBit k = false → w.getD m false = true → w.getD (m + 2 ^ k) false = true) (h0 : w.getD 0 false = false) (hf : w.getD (2 ^ n - 1) false = true) :
    (iO n w).sum = (fac n : Int):=by
  unfold iO
  rw [mP,← lZ n h1 (fun m=>w.getD m false) hmono h0 hf]
  refine jP n _ _ (fun k _=>?_)
  unfold pvs
  rw [lX,mh]
  refine dQ n _ _ (fun m hm=>?_)
  rw [pc9 h9 hm]
  rfl
theorem wt_nil0 (l : List Int) : wt l 0 = 0:=by
  induction l with
  | nil=>rfl
  | cons x l ih=>rw [wt,Nat.zero_div,ih];rfl
theorem wt_with (l : List Int) (m k : Nat) (hk : k < l.length) (hb : m.testBit k = false) : wt l (m + 2 ^ k) = wt l m + l.getD k 0:=by
  induction l generalizing m k with
  | nil=>simp at hk
  | cons x l ih =>
    cases k with
    | zero =>
      have h2 : m % 2 = 0:=by
        rw [eH,Nat.pow_zero,Nat.div_one,decide_eq_false_iff_not] at hb
        omega
      have e1 : (m + 2 ^ 0) % 2 = 1:=by rw [Nat.pow_zero];omega
      have e2 : (m + 2 ^ 0) / 2 = m / 2:=by rw [Nat.pow_zero];omega
      rw [wt,wt,e1,e2,if_pos rfl,if_neg (by omega)]
      simp only [List.getD_cons_zero]
      omega
    | succ k =>
      have e1 : (m + 2 ^ (k + 1)) % 2 = m % 2:=by rw [Nat.pow_succ];omega
      have e2 : (m + 2 ^ (k + 1)) / 2 = m / 2 + 2 ^ k:=by rw [Nat.pow_succ];omega
      have hb2 : (m / 2).testBit k = false:=by rw [Nat.testBit_succ] at hb;exact hb
      rw [wt,wt,e1,e2,ih (m / 2) k (by simpa using hk) hb2,List.getD_cons_succ]
      omega
theorem wt_full (l : List Int) : wt l (2 ^ l.length - 1) = l.sum:=by
  induction l with
  | nil=>rfl
  | cons x l ih =>
    have hp:=Nat.two_pow_pos l.length
    have e1 : (2 ^ (l.length + 1) - 1) % 2 = 1:=by rw [Nat.pow_succ];omega
    have e2 : (2 ^ (l.length + 1) - 1) / 2 = 2 ^ l.length - 1:=by rw [Nat.pow_succ];omega
    rw [List.length_cons,wt,e1,e2,ih,if_pos rfl,List.sum_cons]
def pv (q : Int) (l : List Int) : List Int:=iO l.length (tab l.length (fL q l))
theorem iJ (q : Int) (l : List Int) : (pv q l).length = l.length:=jX _ _
theorem pv_sum (q : Int) (l : List Int) (h : isComm q l = true) : (pv q l).sum = (fac l.length : Int):=by
  have hlen:=b6 h
  have hm:=dn h
  have hq:=gM h
  have hp:=Nat.two_pow_pos l.length
  refine pivl_sum l.length _ hlen.1 hlen.2 (fun m k hm2 hk hb hw=>?_) ?_ ?_
  · rw [fo _ _ _ (ja hm2 hk hb)]
    rw [fo _ _ _ hm2] at hw
    simp only [fL,decide_eq_true_eq] at hw ⊢
    rw [wt_with l m k hk hb]
    have:=hm _ (dH l 0 k hk)
    omega
  · rw [fo _ _ _ hp]
    simp only [fL,decide_eq_false_iff_not]
    rw [wt_nil0];omega
  · rw [fo _ _ _ (by omega)]
    simp only [fL,decide_eq_true_eq]
    rw [wt_full];omega
theorem sum_mem (l : List Int) (h : ∀ x ∈ l,0 ≤ x) : 0 ≤ l.sum ∧ ∀ x ∈ l,x ≤ l.sum:=by
  induction l with
  | nil=>simp
  | cons y l ih =>
    have h1:=h y (by simp)
    obtain ⟨h2,h3⟩:=ih (fun x hx=>h x (by simp [hx]))
    rw [List.sum_cons]
    refine ⟨by omega,fun x hx=>?_⟩
    rcases List.mem_cons.1 hx with rfl|hx
    · omega
    · have:=h3 x hx;omega
theorem ml (q : Int) (l : List Int) (h : isComm q l = true) : ∀ x ∈ pv q l,0 ≤ x ∧ x ≤ 362880:=by
  have hlen:=b6 h
  have nn : ∀ x ∈ pv q l,0 ≤ x:=by
    intro x hx
    simp only [pv,iO,List.mem_map,List.mem_range] at hx
    obtain ⟨k,hk,rfl⟩:=hx
    exact (jL l.length _ k _ hlen.1 hlen.2 hk (Nat.le_refl _)).1
  intro x hx
  have h2:=(sum_mem _ nn).2 x hx
  have h3:=lA hlen.2
  rw [pv_sum q l h] at h2
  exact ⟨nn x hx,by omega⟩
def osm (p s : List Int) : Int:=(s.map fun k=>p.getD k.toNat 0).sum
theorem osm_from (p s : List Int) (i : Nat) (hi : i < s.length) : osm p (s.drop i) = p.getD (s.getD i 0).toNat 0 + osm p (s.drop (i + 1)):=by
  rw [eA s 0 i hi];simp [osm]
theorem cV.ev (q : Int) (l : List Int) (h : isComm q l = true) : Ev (fun k=>cV.f k q l) (pv q l,(fac l.length : Int)):=by
  have hlen:=b6 h
  unfold cV.f
  refine Ev.bind (bb.ev q l (dn h) (by omega)) ?_
  refine Ev.bind (aJ.ev l.length _ (eC _ _) hlen.1 hlen.2) ?_
  exact Ev.bind (bU.ev l.length hlen.2) Ev.some
theorem wsum_P (p : List Int) (hp : ∀ x ∈ p,0 ≤ x ∧ x ≤ 362880) (hl : p.length ≤ 9) : lx p = p.sum:=by
  have key : ∀ (l : List Int) (s : Int),0 ≤ s → (∀ x ∈ l,0 ≤ x ∧ x ≤ 362880) → s + 362880 * l.length ≤ 9223372036854775807 → l.foldl (fun s x=>wrap64 (s + x)) s = s + l.sum:=by
    intro l
    induction l with
    | nil=>intro s _ _ _;simp
    | cons x l ih =>
      intro s hs h hb
      have h1:=h x (by simp)
      simp only [List.length_cons] at hb
      rw [List.foldl_cons,w64 (by omega) (by omega),ih (s + x) (by omega) (fun y hy=>h y (by simp [hy])) (by omega),List.sum_cons]
      omega
  unfold lx;rw [key p 0 (by omega) hp (by omega)];omega
theorem bV.ev (q : Int) (l s : List Int) (h : isComm q l = true) (hs : ∀ x ∈ s,0 ≤ x ∧ x < (l.length : Int)) (hl : s.length ≤ 9) : Ev (fun k=>bV.f k q l s) (osm (pv q l) s,(fac l.length : Int)):=by
  have hlen:=b6 h
  have hp:=ml q l h
  have hpl:=iJ q l
  have hsum:=pv_sum q l h
  unfold bV.f
  refine Ev.bind (bN.ev' q l (dn h) (by omega)) ?_
  refine Ev.bind (bJ.ev l.length _ (eC _ _) hlen.1 hlen.2) ?_
  have e : iO l.length (tab l.length (fun b=>decide (wt l b ≥ q))) = pv q l:=rfl
  rw [e]
  generalize pv q l = p at hp hpl hsum ⊢
  have key := back (P := fun i => ∀ a : Int, 0 ≤ a → a ≤ 362880 * i → Ev (fun k => bV.l0 k p a s (s.length : Int) (i : Int)) (a + osm p (s.drop i), (fac l.length : Int))) s.length
    (by intro a h0 h1
        refine Ev.shift ?_
        simp only [bV.l0,Int.lt_irrefl,↓reduceIte,List.drop_length]
        refine Ev.bind (bz.ev p (by omega)) ?_
        rw [wsum_P p hp (by omega),hsum]
        exact Ev.eq Ev.some (by simp [osm]))
    (by intro i hi ih a h0 h1
        refine Ev.shift ?_
        have c1 : (i : Int) < (s.length : Int):=by omega
        have c0 : (0 : Int) ≤ (i : Int):=by omega
        have hx:=hs _ (dH s 0 i hi)
        obtain ⟨j,hj⟩ : ∃ j : Nat,s.getD i 0 = (j : Int):=⟨(s.getD i 0).toNat,by omega⟩
        rw [hj] at hx
        have hpj:=hp _ (dH p 0 j (by omega))
        have d1 : (j : Int) < (p.length : Int):=by omega
        rw [osm_from p s i hi,hj,Int.toNat_natCast]
        simp only [bV.l0,c1,c0,↓reduceIte,dD,hj,hx.1,d1,w1 hi (show s.length ≤ 9223372036854775807 by omega)]
        rw [w64 (by omega) (by omega)]
        refine Ev.eq (ih _ (by omega) (by omega)) ?_
        rw [Int.add_assoc])
  have:=key 0 (Nat.zero_le _) 0 (by omega) (by omega)
  rw [List.drop_zero,Int.zero_add] at this
  exact this
def pr2 (j k : Nat) : List Int:=[((min j k : Nat) : Int),((max j k : Nat) : Int)]
theorem mn_nat (j k : Nat) : mn (j : Int) (k : Int) = ((min j k : Nat) : Int):=by unfold mn;split <;> omega
theorem mx_nat (j k : Nat) : mx (j : Int) (k : Int) = ((max j k : Nat) : Int):=by unfold mx;split <;> omega
theorem eF.eq (j k : Nat) : eF.f (j : Int) (k : Int) = some ((min j k : Nat) : Int):=by
  unfold eF.f
  split
  · congr 1;omega
  · congr 1;omega
theorem eQ.eq (j k : Nat) : eQ.f (j : Int) (k : Int) = some ((max j k : Nat) : Int):=by
  unfold eQ.f
  split
  · congr 1;omega
  · congr 1;omega
def kY (q : Int) (l : List Int) (k j : Nat) : Int:=(pv q (dm l (pr2 j k) 0)).getD (min j k) 0 * (l.length : Int) - (pv q l).getD j 0 - (pv q l).getD k 0
def fE (q : Int) (l : List Int) (k j : Nat) : Option Int:=if j ≠ k ∧ fQ q l (pr2 j k) = true then some (kY q l k j) else none
def iT (q : Int) (l : List Int) (k : Int) : List Int × Bool:=if fW q l k = true then (if (fA (fE q l k.toNat) l.length).1 ≠ [] then ((fA (fE q l k.toNat) l.length).1,true) else ([],false)) else ([],false)
theorem l6 (q : Int) (l : List Int) (k : Int) : (iT q l k).1.length ≤ 9:=by
  unfold iT
  split
  · rename_i h
    have:=b6 (eR h).1
    have:=gJ (fE q l k.toNat) l.length
    split
    · simp only;omega
    · simp
  · simp
theorem cm_at {q : Int} {l s : List Int} (h : fQ q l s = true) : isComm q l = true ∧ fj s l.length = true ∧ s ≠ [] ∧ isComm q (dm l s 0) = true:=by
  simp only [fQ,Bool.and_eq_true,decide_eq_true_eq] at h
  exact ⟨h.1.1.1,h.1.1.2,h.1.2,h.2⟩
theorem jM (q : Int) (l : List Int) (h : isComm q l = true) (j : Nat) : 0 ≤ (pv q l).getD j 0 ∧ (pv q l).getD j 0 ≤ 362880:=by
  by_cases hj : j < (pv q l).length
  · exact ml q l h _ (dH _ 0 j hj)
  · rw [List.getD_eq_getElem?_getD,List.getElem?_eq_none (by omega)];simp
theorem lB (l : List Int) (j k : Nat) (hS : fj (pr2 j k) l.length = true) : ((min j k : Nat) : Int) < ((dm l (pr2 j k) 0).length : Int):=by
  have h0 : (pr2 j k).getD 0 0 = ((min j k : Nat) : Int):=rfl
  have:=jh hS (by simp [pr2]) 0 (by rw [h0];omega)
  rw [h0] at this
  omega
theorem b8.ev (q : Int) (l : List Int) (k j : Nat) (h : isComm q l = true) (hk : k < l.length) (hj : j < l.length) : Ev (fun K=>b8.f K (j : Int) q l (k : Int) (pv q l) (fac l.length : Int)) (kM (fE q l k j)):=by
  have hlen:=b6 h
  unfold b8.f
  rw [mn_nat,mx_nat]
  have i1:=aQ.ev q l (pr2 j k) (by omega) (by simp [pr2])
  rw [mM] at i1
  refine Ev.bind i1 ?_
  by_cases hjk : j = k
  · have c : (j : Int) = (k : Int):=by omega
    rw [show fE q l k j = none from if_neg (fun z=>z.1 hjk)]
    exact Ev.bn c Ev.some
  · have c : ¬ (j : Int) = (k : Int):=by omega
    refine Ev.b7 c ?_
    cases hm : fQ q l (pr2 j k) with
    | false=>rw [show fE q l k j = none from if_neg (fun z=>by rw [hm] at z;exact absurd z.2 (by decide))];exact Ev.some
    | true =>
      obtain ⟨_,hS,_,hc'⟩:=cm_at hm
      rw [show fE q l k j = some (kY q l k j) from if_pos ⟨hjk,hm⟩]
      simp only [↓reduceIte]
      refine Ev.bind (cV.ev q _ hc') ?_
      have f:=lB l j k hS
      have c1 : (0 : Int) ≤ ((min j k : Nat) : Int):=Int.natCast_nonneg _
      have c2 : ((min j k : Nat) : Int) < ((pv q (dm l (pr2 j k) 0)).length : Int):=by rw [iJ];exact f
      have c3 : (0 : Int) ≤ (j : Int):=Int.natCast_nonneg _
      have c4 : (j : Int) < ((pv q l).length : Int):=by rw [iJ];omega
      have c5 : (0 : Int) ≤ (k : Int):=Int.natCast_nonneg _
      have c6 : (k : Int) < ((pv q l).length : Int):=by rw [iJ];omega
      have g1:=jM q _ hc' (min j k)
      have g2:=jM q l h j
      have g3:=jM q l h k
      simp only [c1,c2,c3,c4,c5,c6,↓reduceIte,dD]
      refine Ev.eq Ev.some ?_
      unfold kM kY
      generalize (pv q (dm l (pr2 j k) 0)).getD (min j k) 0 = x at g1 ⊢
      have hx : 0 ≤ x * (l.length : Int) ∧ x * (l.length : Int) ≤ 3265920:=by
        refine ⟨Int.mul_nonneg g1.1 (by omega),?_⟩
        calc x * (l.length : Int) ≤ 362880 * 9 := Int.mul_le_mul g1.2 (by omega) (by omega) (by decide)
          _ ≤ _:=by decide
      generalize x * (l.length : Int) = y at hx ⊢
      rw [w64 (x:=y) (by omega) (by omega),w64 (x:=y - (pv q l).getD j 0) (by omega) (by omega),w64 (by omega) (by omega)]
theorem dA.ev (q : Int) (l : List Int) (k : Int) (hm : l.length ≤ 9223372036854775807) : Ev (fun K=>dA.f K q l k) (iT q l k):=by
  unfold dA.f iT
  refine Ev.bind (bu.ev q l k hm) ?_
  cases h : fW q l k with
  | false=>exact Ev.some
  | true =>
    obtain ⟨hc,a,rfl,ha⟩:=eR h
    have hlen:=b6 hc
    simp only [↓reduceIte,Int.toNat_natCast]
    refine Ev.bind (cV.ev q l hc) ?_
    refine Ev.bind (bD.ev l.length (by omega) (fun K y=>b8.f K y q l (a : Int) (pv q l) (fac l.length : Int)) (fE q l a) (fun b hb=>b8.ev q l a b hc ha hb)) ?_
    by_cases he : (fA (fE q l a) l.length).1 = []
    · simp only [he,ne_eq,not_true_eq_false,decide_false,Bool.false_eq_true,↓reduceIte]
      exact Ev.some
    · simp only [he,ne_eq,not_false_eq_true,decide_true,↓reduceIte]
      exact Ev.some
theorem osm_pr (p : List Int) (j k : Nat) : osm p (pr2 j k) = p.getD j 0 + p.getD k 0:=by
  simp only [osm,pr2,List.map_cons,List.map_nil,List.sum_cons,List.sum_nil,Int.toNat_natCast]
  rcases Nat.le_total j k with h|h
  · rw [Nat.min_eq_left h,Nat.max_eq_right h];omega
  · rw [Nat.min_eq_right h,Nat.max_eq_left h];omega
theorem az.ev (q : Int) (l : List Int) (k : Int) (hm : l.length ≤ 9223372036854775807) : Ev (fun K=>az.f K q l k) (iT q l k):=by
  have off : Ev (fun K=>az.j0 K k true q l) (([] : List Int),false):=by
    refine Ev.shift ?_
    simp only [az.j0,↓reduceIte]
    exact Ev.some
  unfold az.f iT
  refine Ev.bind (bM.ev q l k hm) ?_
  cases h : fW q l k with
  | false=>simp only [Bool.false_eq_true,↓reduceIte];exact off
  | true =>
    obtain ⟨hc,a,rfl,ha⟩:=eR h
    have hlen:=b6 hc
    simp only [↓reduceIte,Int.toNat_natCast]
    by_cases h2 : (l.length : Int) < 2
    · have hz : (fA (fE q l a) l.length).1 = []:=by
        have e1 : l.length = 1:=by omega
        obtain rfl : a = 0:=by omega
        rw [e1,fK,show fA (fE q l 0) 0 = ([],0) from rfl]
        unfold iw
        rw [show fE q l 0 0 = none from if_neg (fun z=>z.1 rfl)]
      simp only [h2,decide_true,hz,ne_eq,not_true_eq_false,↓reduceIte]
      exact off
    · simp only [h2,decide_false]
      refine Ev.shift ?_
      simp only [az.j0,Bool.false_eq_true,↓reduceIte]
      have key := Ev.down (G := fun j K => az.l0 K (a : Int) (fA (fE q l a) j).1 (fA (fE q l a) j).2 (l.length : Int) (j : Int) q l) (R := fun _ => if (fA (fE q l a) l.length).1 ≠ [] then ((fA (fE q l a) l.length).1, true) else ([], false)) l.length
        (by refine Ev.shift ?_
            simp only [az.l0,Int.lt_irrefl,↓reduceIte]
            by_cases he : (fA (fE q l a) l.length).1 = []
            · have ce : ((fA (fE q l a) l.length).1.length : Int) = 0:=by rw [he];rfl
              simp only [ce,↓reduceIte,he,ne_eq,not_true_eq_false]
              exact Ev.some
            · have ce : ¬ ((fA (fE q l a) l.length).1.length : Int) = 0:=by have:=List.length_pos_iff.2 he;omega
              simp only [ce,↓reduceIte,he,ne_eq,not_false_eq_true]
              exact Ev.some)
        (fun j hj ih=>by
          rw [fK] at ih
          have hbl:=gJ (fE q l a) j
          generalize fA (fE q l a) j = st at ih hbl ⊢
          obtain ⟨out,bst⟩:=st
          simp only at hbl
          have hw:=w1 hj (show l.length ≤ 9223372036854775807 by omega)
          have skip : fE q l a j = none → Ev (fun K=>az.j2 K (a : Int) out bst (j : Int) (pr2 j a) (l.length : Int) (j : Int) true q l) (if (fA (fE q l a) l.length).1 ≠ [] then ((fA (fE q l a) l.length).1,true) else ([],false)):=by
            intro hn
            unfold iw at ih
            rw [hn] at ih
            refine Ev.shift ?_
            simp only [az.j2,↓reduceIte,hw]
            exact ih
          refine Ev.shift ?_
          have c1 : (j : Int) < (l.length : Int):=by omega
          simp only [az.l0,c1,↓reduceIte]
          refine Ev.bind (Ev.one (eF.eq j a)) ?_
          refine Ev.bind (Ev.one (eQ.eq j a)) ?_
          refine Ev.bind (Ev.one rfl) ?_
          by_cases hja : j = a
          · have c : (j : Int) = (a : Int):=by omega
            refine Ev.bn c ?_
            exact skip (if_neg (fun z=>z.1 hja))
          · have c : ¬ (j : Int) = (a : Int):=by omega
            refine Ev.b7 c ?_
            refine Ev.bind (fb.ev q l (pr2 j a) (by omega) (by simp [pr2])) ?_
            cases hmg : fQ q l (pr2 j a) with
            | false=>simp only [Bool.not_false];exact skip (if_neg (fun z=>by rw [hmg] at z;exact absurd z.2 (by decide)))
            | true =>
              obtain ⟨_,hS,hne,hc'⟩:=cm_at hmg
              have hp : fE q l a j = some (kY q l a j):=if_pos ⟨hja,hmg⟩
              have hmem:=gj hS
              have f:=lB l j a hS
              refine Ev.shift ?_
              simp only [az.j2,Bool.not_true,Bool.false_eq_true,↓reduceIte]
              refine Ev.bind (bV.ev q l (pr2 j a) hc hmem (by simp [pr2])) ?_
              refine Ev.bind (bO.ev q l (pr2 j a) (by simp [pr2]) hc hS hne) ?_
              have c2 : (1 : Int) ≤ ((pr2 j a).length : Int):=by simp [pr2]
              have et : (pr2 j a).take 1 = [((min j a : Nat) : Int)]:=rfl
              simp only [c2,↓reduceIte,et]
              refine Ev.bind (bV.ev q _ [((min j a : Nat) : Int)] hc' (by intro x hx;rw [List.mem_singleton] at hx;subst hx;exact ⟨Int.natCast_nonneg _,f⟩) (by simp)) ?_
              have g1:=jM q _ hc' (min j a)
              have g2:=jM q l hc j
              have g3:=jM q l hc a
              have eo : osm (pv q (dm l (pr2 j a) 0)) [((min j a : Nat) : Int)] = (pv q (dm l (pr2 j a) 0)).getD (min j a) 0:=by simp [osm]
              have eg : wrap64 (wrap64 ((pv q (dm l (pr2 j a) 0)).getD (min j a) 0 * (l.length : Int)) - osm (pv q l) (pr2 j a)) = kY q l a j:=by
                rw [osm_pr]
                unfold kY
                generalize (pv q (dm l (pr2 j a) 0)).getD (min j a) 0 = x at g1 ⊢
                have hx : 0 ≤ x * (l.length : Int) ∧ x * (l.length : Int) ≤ 3265920:=by
                  refine ⟨Int.mul_nonneg g1.1 (by omega),?_⟩
                  calc x * (l.length : Int) ≤ 362880 * 9 := Int.mul_le_mul g1.2 (by omega) (by omega) (by decide)
                    _ ≤ _:=by decide
                generalize x * (l.length : Int) = y at hx ⊢
                rw [w64 (x:=y) (by omega) (by omega),w64 (by omega) (by omega)]
                omega
              simp only [eo,eg]
              have hf : (fac l.length : Int) > 0:=by have:=fac_pos l.length;omega
              unfold iw at ih
              rw [hp] at ih
              simp only at ih
              generalize kY q l a j = x at ih ⊢
              have c3 : out.length < 17592186044416:=by omega
              by_cases he : out = []
              · subst he
                simp only [↓reduceIte] at ih
                simp only [List.length_nil,Int.natCast_zero,↓reduceIte]
                refine Ev.shift ?_
                simp only [az.j3,↓reduceIte,hf,List.length_nil,List.nil_append,hw,show (0 : Nat) < 17592186044416 by decide]
                exact ih
              · have ce : ¬ (out.length : Int) = 0:=by have:=List.length_pos_iff.2 he;omega
                simp only [he,↓reduceIte] at ih
                simp only [ce,↓reduceIte]
                refine Ev.shift ?_
                by_cases hgt : x > bst
                · have hlt : ¬ x < bst:=by omega
                  simp only [hlt,hgt,↓reduceIte] at ih
                  simp only [az.j3,hgt,decide_true,↓reduceIte,hf,List.length_nil,List.nil_append,hw,show (0 : Nat) < 17592186044416 by decide]
                  exact ih
                · by_cases hlt : x < bst
                  · have hne2 : ¬ x = bst:=by omega
                    simp only [hlt,↓reduceIte] at ih
                    simp only [az.j3,hgt,decide_false,Bool.false_eq_true,↓reduceIte,hne2,hw]
                    exact ih
                  · have he2 : x = bst:=by omega
                    subst he2
                    simp only [hlt,hgt,↓reduceIte] at ih
                    simp only [az.j3,hgt,decide_false,Bool.false_eq_true,↓reduceIte,hf,c3,hw]
                    exact ih)
      exact key 0 (Nat.zero_le _)
def quG (l : List Int) (a i : Nat) : Option Int:=some ((pv ((i : Int) + 1) l).getD a 0)
def quP (q : Int) (l : List Int) (a : Int) : List Int × Bool:=if fW q l a = true ∧ l.sum ≤ 200 then ((fA (quG l a.toNat) l.sum.toNat).1.map (· + 1),true) else ([],false)
theorem mZ (q : Int) (l : List Int) (a : Int) : (quP q l a).1.length ≤ 200:=by
  unfold quP
  split
  · rename_i h
    have:=gJ (quG l a.toNat) l.sum.toNat
    rw [List.length_map]
    omega
  · simp
theorem iF {q q' : Int} {l : List Int} (h : isComm q l = true) (h1 : 1 ≤ q') (h2 : q' ≤ l.sum) : isComm q' l = true:=by
  simp only [isComm,inI,Bool.and_eq_true,decide_eq_true_eq] at h ⊢
  exact ⟨h.1,h1,h2⟩
theorem mO (g : Nat → Option Int) (st : List Int × Int) (i : Nat) (h : ∀ x ∈ st.1,0 ≤ x ∧ x ≤ (i : Int)) : ∀ x ∈ (iw g st i).1,0 ≤ x ∧ x ≤ (i : Int):=by
  intro x hx
  unfold iw at hx
  split at hx
  · exact h x hx
  · split at hx
    · simp only [List.mem_singleton] at hx;omega
    · split at hx
      · exact h x hx
      · split at hx
        · simp only [List.mem_singleton] at hx;omega
        · simp only [List.mem_append,List.mem_singleton] at hx
          rcases hx with hx|hx
          · exact h x hx
          · omega
theorem best_mem (g : Nat → Option Int) (n : Nat) : ∀ x ∈ (fA g n).1,0 ≤ x ∧ x ≤ (n : Int):=by
  induction n with
  | zero=>simp [fA]
  | succ n ih =>
    rw [fK]
    intro x hx
    have:=mO g (fA g n) n ih x hx
    omega
theorem best_ne (g : Nat → Option Int) (n : Nat) (y : Int) (h : g n = some y) : (fA g (n + 1)).1 ≠ []:=by
  rw [fK]
  unfold iw
  rw [h]
  simp only
  split
  · simp
  · rename_i h1
    split
    · exact h1
    · split <;> simp
theorem wS2 (n : Nat) (h : n ≤ 1000) : wrap64 ((n : Int) + 1 + 1) = ((n + 1 : Nat) : Int) + 1:=by rw [w64 (by omega) (by omega)];omega
theorem inc_get (L : List Int) (f : Int → Int) (j : Nat) (hj : j < L.length) : ((L.take j).map f ++ L.drop j).getD j 0 = L.getD j 0:=by
  have e : ((L.take j).map f).length = j:=by rw [List.length_map,List.length_take];omega
  rw [List.getD_eq_getElem?_getD,List.getElem?_append_right (by omega),e,Nat.sub_self,List.getElem?_drop,Nat.add_zero,← List.getD_eq_getElem?_getD]
theorem inc_set (L : List Int) (f : Int → Int) (j : Nat) (hj : j < L.length) : ((L.take j).map f ++ L.drop j).set j (f (L.getD j 0)) = (L.take (j + 1)).map f ++ L.drop (j + 1):=by
  have e : ((L.take j).map f).length = j:=by rw [List.length_map,List.length_take];omega
  rw [List.set_append_right _ _ (by omega),e,Nat.sub_self,List.drop_eq_getElem_cons hj,List.set_cons_zero,← List.take_append_getElem hj,List.map_append,List.append_assoc,List.getD_eq_getElem?_getD,List.getElem?_eq_getElem hj]
  rfl
theorem bq.ev (q : Int) (l : List Int) (a i : Nat) (h : isComm ((i : Int) + 1) l = true) (ha : a < l.length) (hi : i ≤ 1000) : Ev (fun k=>bq.f k (i : Int) q l (a : Int)) (kM (quG l a i)):=by
  have hlen:=b6 h
  have c1 : (0 : Int) ≤ (a : Int):=Int.natCast_nonneg _
  have c2 : (a : Int) < ((pv ((i : Int) + 1) l).length : Int):=by rw [iJ];omega
  unfold bq.f
  rw [w64 (by omega) (by omega)]
  refine Ev.bind (bb.ev _ l (dn h) (by omega)) ?_
  refine Ev.bind (aJ.ev l.length _ (eC _ _) (by omega) (by omega)) ?_
  refine Ev.bn c1 (Ev.bn c2 ?_)
  rw [dD]
  exact Ev.some
theorem bl.ev (q : Int) (l : List Int) (a : Int) (hm : l.length ≤ 9223372036854775807) : Ev (fun K=>bl.f K q l a) (quP q l a):=by
  have off : Ev (fun K=>bl.j0 K true q l a) (([] : List Int),false):=by
    refine Ev.shift ?_
    simp only [bl.j0,↓reduceIte]
    exact Ev.some
  unfold bl.f quP
  refine Ev.bind (bu.ev q l a hm) ?_
  cases h : fW q l a with
  | false=>rw [if_neg (fun z=>Bool.noConfusion z.1)];exact Ev.b7 (by decide) off
  | true =>
    obtain ⟨hc,i,rfl,hi⟩:=eR h
    have hlen:=b6 hc
    have hq:=gM hc
    have hmem:=dn hc
    refine Ev.bn rfl ?_
    have hsum : Ev (fun k=>cE.f k l) l.sum:=by
      refine Ev.eq (cE.ev l (by omega)) ?_
      rw [jf l hmem (by omega)]
    have hscan : Ev (fun k=>ei.f k q l 200) (decide (l.sum ≤ 200)):=by
      unfold ei.f
      refine Ev.bind (aW.ev q l hm) ?_
      rw [hc]
      exact Ev.bn rfl (Ev.bind hsum Ev.some)
    refine Ev.bind hscan ?_
    by_cases h2 : l.sum ≤ 200
    · rw [if_pos ⟨rfl,h2⟩,decide_eq_true h2]
      refine Ev.shift ?_
      simp only [bl.j0]
      refine Ev.b7 (by decide) ?_
      refine Ev.bind hsum ?_
      obtain ⟨S,hS⟩ : ∃ S : Nat,l.sum = S:=⟨l.sum.toNat,by omega⟩
      rw [hS,Int.toNat_natCast,Int.toNat_natCast]
      refine Ev.bind (bD.ev S (by omega) (fun K y=>bq.f K y q l (i : Int)) (quG l i) (fun b hb=>bq.ev q l i b (iF hc (by omega) (by omega)) hi (by omega))) ?_
      have hbm:=best_mem (quG l i) S
      have hbl:=gJ (quG l i) S
      generalize (fA (quG l i) S).1 = L at hbm hbl ⊢
      have key := Ev.down (G := fun j K => bl.l0 K ((L.take j).map (· + 1) ++ L.drop j) (L.length : Int) (j : Int)) (R := fun _ => (L.map (· + 1), true)) L.length
        (by refine Ev.shift ?_
            simp only [bl.l0,Int.lt_irrefl,↓reduceIte,List.take_length,List.drop_length,List.append_nil]
            exact Ev.some)
        (fun j hj ih=>by
          have c1 : (j : Int) < (L.length : Int):=by omega
          have c0 : (0 : Int) ≤ (j : Int):=by omega
          have hn : ((L.take j).map (· + 1) ++ L.drop j).length = L.length:=by rw [List.length_append,List.length_map,List.length_take,List.length_drop];omega
          have c2 : (j : Int) < ((((L.take j).map (· + 1) ++ L.drop j).length : Nat) : Int):=by rw [hn];exact c1
          have hb:=hbm (L.getD j 0) (by rw [List.getD_eq_getElem?_getD,List.getElem?_eq_getElem hj];exact List.getElem_mem hj)
          refine Ev.shift ?_
          simp only [bl.l0]
          refine Ev.bn c1 (Ev.bn c0 (Ev.bn c2 ?_))
          rw [dD,inc_get L _ j hj,w64 (x:=L.getD j 0 + 1) (by omega) (by omega),Int.toNat_natCast,inc_set L (· + 1) j hj,w64 (x:=(j : Int) + 1) (by omega) (by omega)]
          exact ih)
      exact key 0 (Nat.zero_le _)
    · rw [if_neg (fun z=>h2 z.2),decide_eq_false h2]
      exact off
theorem bc.ev (q : Int) (l : List Int) (a : Int) (hm : l.length ≤ 9223372036854775807) : Ev (fun K=>bc.f K q l a) (quP q l a):=by
  have off : Ev (fun K=>bc.j0 K a true q l) (([] : List Int),false):=by
    refine Ev.shift ?_
    simp only [bc.j0,↓reduceIte]
    exact Ev.some
  unfold bc.f quP
  refine Ev.bind (bM.ev q l a hm) ?_
  cases h : fW q l a with
  | false=>rw [if_neg (fun z=>Bool.noConfusion z.1)];exact Ev.b7 (by decide) off
  | true =>
    obtain ⟨hc,i,rfl,hi⟩:=eR h
    have hlen:=b6 hc
    have hq:=gM hc
    have hmem:=dn hc
    refine Ev.bn rfl ?_
    have hsum : Ev (fun k=>bz.f k l) l.sum:=by
      refine Ev.eq (bz.ev l (by omega)) ?_
      rw [jf l hmem (by omega)]
    refine Ev.bind hsum ?_
    by_cases h2 : l.sum ≤ 200
    · rw [if_pos ⟨rfl,h2⟩,decide_eq_false (by omega)]
      refine Ev.shift ?_
      simp only [bc.j0]
      refine Ev.b7 (by decide) ?_
      obtain ⟨S,hS⟩ : ∃ S : Nat,l.sum = S:=⟨l.sum.toNat,by omega⟩
      rw [hS,Int.toNat_natCast,Int.toNat_natCast]
      rw [hS] at hsum
      have key := Ev.down (G := fun j K => bc.l0 K (i : Int) ((fA (quG l i) j).1.map (· + 1)) (if j = 0 then -1 else (fA (quG l i) j).2) ((j : Int) + 1) q l) (R := fun _ => ((fA (quG l i) S).1.map (· + 1), true)) S
        (by refine Ev.shift ?_
            simp only [bc.l0]
            refine Ev.bind hsum ?_
            exact Ev.b7 (by omega) Ev.some)
        (fun j hj ih=>by
          have hcj : isComm ((j : Int) + 1) l = true:=iF hc (by omega) (by omega)
          have hbl:=gJ (quG l i) j
          have c3 : ((fA (quG l i) j).1.map (· + 1)).length < 17592186044416:=by rw [List.length_map];omega
          have c4 : ([] : List Int).length < 17592186044416:=by rw [List.length_nil];omega
          have hx : 0 ≤ (pv ((j : Int) + 1) l).getD i 0:=by
            refine (ml _ l hcj _ ?_).1
            rw [List.getD_eq_getElem?_getD,List.getElem?_eq_getElem (by rw [iJ];exact hi)]
            exact List.getElem_mem _
          have i2:=bV.ev ((j : Int) + 1) l [(i : Int)] hcj (by intro x hx;rw [List.mem_singleton] at hx;omega) (by simp)
          rw [show osm (pv ((j : Int) + 1) l) [(i : Int)] = (pv ((j : Int) + 1) l).getD i 0 by simp [osm]] at i2
          have hj9 : j ≤ 1000:=by omega
          rw [if_neg (by omega),fK] at ih
          unfold iw at ih
          rw [show quG l i j = some ((pv ((j : Int) + 1) l).getD i 0) from rfl] at ih
          simp only at ih
          have hne : j ≠ 0 → (fA (quG l i) j).1 ≠ []:=fun h0=>by
            obtain ⟨m,rfl⟩ : ∃ m,j = m + 1:=⟨j - 1,by omega⟩
            exact best_ne (quG l i) m _ rfl
          generalize (pv ((j : Int) + 1) l).getD i 0 = x at hx i2 ih
          refine Ev.shift ?_
          simp only [bc.l0]
          refine Ev.bind hsum ?_
          refine Ev.bn (by omega) ?_
          refine Ev.bind i2 ?_
          rw [wS2 j hj9]
          by_cases h0 : j = 0
          · subst h0
            rw [if_pos rfl]
            rw [if_pos (show (fA (quG l i) 0).1 = [] from rfl)] at ih
            refine Ev.bn (show x > -1 by omega) (Ev.bn c4 ?_)
            exact ih
          · rw [if_neg h0]
            rw [if_neg (hne h0)] at ih
            generalize fA (quG l i) j = st at ih c3 hbl ⊢
            obtain ⟨out,bst⟩:=st
            simp only at ih c3 ⊢
            by_cases hgt : x > bst
            · rw [if_neg (by omega),if_pos hgt] at ih
              exact Ev.bn hgt (Ev.bn c4 ih)
            · refine Ev.b7 hgt ?_
              by_cases heq : x = bst
              · rw [if_neg (by omega),if_neg (by omega),List.map_append] at ih
                refine Ev.bn heq (Ev.bn c3 ?_)
                rw [← heq]
                exact ih
              · rw [if_pos (by omega)] at ih
                exact Ev.b7 heq ih)
      exact key 0 (Nat.zero_le _)
    · rw [if_neg (fun z=>h2 z.2),decide_eq_true (by omega)]
      exact off
theorem jT (l : List Int) (v : Int) : kC l v = true ↔ v ∈ l:=by
  unfold kC
  rw [List.any_eq_true]
  constructor
  · rintro ⟨x,hx,e⟩
    rw [decide_eq_true_eq] at e
    exact e ▸ hx
  · intro h
    exact ⟨v,h,decide_eq_true rfl⟩
theorem zhas_sel (n : Nat) (Q : Nat → Bool) (k : Nat) : kC (sel n Q) (k : Int) = (decide (k < n) && Q k):=by
  rw [Bool.eq_iff_iff,jT,Bool.and_eq_true,decide_eq_true_eq]
  unfold sel
  rw [List.mem_map]
  constructor
  · rintro ⟨x,hx,e⟩
    obtain rfl : x = k:=by omega
    rw [List.mem_filter,List.mem_range] at hx
    exact hx
  · intro h
    exact ⟨k,List.mem_filter.2 ⟨List.mem_range.2 h.1,h.2⟩,rfl⟩
theorem lS (n : Nat) (P : Nat → Bool) : (tab n P).count true = (List.range (2 ^ n)).countP P:=by
  unfold tab
  rw [List.count,List.countP_map]
  apply List.countP_congr
  intro x _
  simp
theorem dX.ev (q : Int) (l : List Int) (h : isComm q l = true) : Ev (fun k=>dX.f k q l) (swl l.length (tab l.length (fL q l)),true):=by
  have hlen:=b6 h
  unfold dX.f
  have a:=aW.ev q l (by omega)
  rw [h] at a
  exact Ev.bind a (Ev.bn rfl (Ev.bind (bb.ev q l (dn h) (by omega)) (Ev.bind (aZ.ev l.length _ (eC _ _) (by omega)) Ev.some)))
theorem cG.ev (q : Int) (l : List Int) (h : isComm q l = true) : Ev (fun k=>cG.f k q l) (pv q l,true):=by
  have hlen:=b6 h
  unfold cG.f
  have a:=aW.ev q l (by omega)
  rw [h] at a
  exact Ev.bind a (Ev.bn rfl (Ev.bind (bb.ev q l (dn h) (by omega)) (Ev.bind (aJ.ev l.length _ (eC _ _) hlen.1 hlen.2) Ev.some)))
theorem k3 (q : Int) (l : List Int) (i j : Int) : eJ q l i j = eJ q l j i:=by
  unfold eJ
  rw [Bool.and_comm (fW q l i)]
  congr 1
  rw [decide_eq_decide]
  exact ne_comm
theorem kJ (q : Int) (l : List Int) (i j : Nat) : fP q l i j = fP q l j i:=by
  funext b
  unfold fP
  rw [Bool.and_comm (b.testBit i)]
theorem jJ (q : Int) (l : List Int) (i j : Nat) (hi : i < l.length) : (swl l.length (tab l.length (fP q l i j))).getD i 0 ≤ (swl l.length (tab l.length (fL q l))).getD i 0:=by
  rw [iB _ _ _ hi,iB _ _ _ hi]
  refine Int.ofNat_le.2 (List.countP_mono_left fun m hm h=>?_)
  rw [List.mem_range] at hm
  unfold d6 at h ⊢
  rw [Bool.and_eq_true,Bool.and_eq_true] at h
  obtain ⟨⟨h1,h2⟩,h3⟩:=h
  rw [Bool.not_eq_true'] at h1
  have hlt:=ja hm hi h1
  rw [fo _ _ _ hm] at h2 ⊢
  rw [fo _ _ _ hlt] at h3 ⊢
  unfold fP at h2 h3
  rw [h1,Bool.false_and,Bool.not_false,Bool.and_true] at h2
  rw [Bool.and_eq_true] at h3
  rw [h1,h2,h3.1]
  rfl
theorem kD (q : Int) (l : List Int) (i j : Nat) (hi : i < l.length) (hj : j < l.length) : (swl l.length (tab l.length (fP q l i j))).getD i 0 ≤ (swl l.length (tab l.length (fL q l))).getD i 0 ∧ (swl l.length (tab l.length (fP q l i j))).getD j 0 ≤ (swl l.length (tab l.length (fL q l))).getD j 0:=by
  refine ⟨jJ q l i j hi,?_⟩
  rw [kJ]
  exact jJ q l j i hj
theorem kQ {q : Int} {l : List Int} {a : Int} (h : (iT q l a).2 = true) : (iT q l a).1 ≠ [] ∧ (iT q l a).1.Pairwise (· < ·) ∧ kC (iT q l a).1 a = false:=by
  unfold iT at h ⊢
  split at h
  · rename_i hm
    rw [if_pos hm]
    obtain ⟨hc,i,rfl,hi⟩:=eR hm
    rw [Int.toNat_natCast] at h ⊢
    split at h
    · rename_i hn
      rw [if_pos hn]
      obtain ⟨_,g2,g3⟩:=lK (fE q l i) l.length
      refine ⟨hn,g3,?_⟩
      rw [Bool.eq_false_iff,ne_eq,jT]
      intro hin
      obtain ⟨m,hm,e,eg⟩:=g2 _ hin
      obtain rfl : i = m:=by omega
      unfold fE at eg
      rw [if_neg (by simp)] at eg
      cases eg
    · cases h
  · cases h
theorem mV {q : Int} {l : List Int} {a : Int} (h : (quP q l a).2 = true) : ∃ i : Nat,a = (i : Int) ∧ i < l.length ∧ isComm q l = true ∧ (quP q l a).1 ≠ [] ∧ (quP q l a).1.Pairwise (· < ·) ∧ isComm ((quP q l a).1.getD 0 0) l = true ∧ (pv q l).getD i 0 ≤ (pv ((quP q l a).1.getD 0 0) l).getD i 0 ∧ ((pv q l).getD i 0 = (pv ((quP q l a).1.getD 0 0) l).getD i 0 ↔ q ∈ (quP q l a).1):=by
  unfold quP at h ⊢
  split at h
  · rename_i hm
    rw [if_pos hm]
    obtain ⟨hc,i,rfl,hi⟩:=eR hm.1
    refine ⟨i,rfl,hi,hc,?_⟩
    simp only [Int.toNat_natCast]
    have hq:=gM hc
    obtain ⟨g1,g2,g3⟩:=lK (quG l i) l.sum.toNat
    obtain ⟨hn,hle,hiff⟩:=g1 (q - 1).toNat _ (by omega) rfl
    have eq1 : (((q - 1).toNat : Nat) : Int) = q - 1:=by omega
    rw [eq1] at hle hiff
    rw [show q - 1 + 1 = q by omega] at hle hiff
    generalize fA (quG l i) l.sum.toNat = st at hn hle hiff g2 g3 ⊢
    obtain ⟨L,v⟩:=st
    simp only at hn hle hiff g2 g3 ⊢
    have hpos:=List.length_pos_iff.2 hn
    have eh : (L.map (· + 1)).getD 0 0 = L.getD 0 0 + 1:=by
      rw [List.getD_eq_getElem?_getD,List.getElem?_map,List.getD_eq_getElem?_getD,List.getElem?_eq_getElem hpos];rfl
    obtain ⟨m,hm2,e,eg⟩:=g2 _ (dH L 0 0 hpos)
    have ev : (pv (L.getD 0 0 + 1) l).getD i 0 = v:=by
      rw [e];exact Option.some.inj eg
    refine ⟨by simpa using hn,?_,?_,?_,?_⟩
    · rw [List.pairwise_map]
      exact g3.imp (fun h=>by omega)
    · rw [eh]
      exact iF hc (by omega) (by omega)
    · rw [eh,ev];exact hle
    · rw [eh,ev,← hiff,List.mem_map]
      constructor
      · intro h;exact ⟨q - 1,h,by omega⟩
      · rintro ⟨y,hy,e⟩
        obtain rfl : y = q - 1:=by omega
        exact hy
  · cases h
theorem lR (x : Int) : 0 ≤ IntKind.u64.wrap x ∧ IntKind.u64.wrap x < 18446744073709551616:=by
  rw [IntKind.wrap_u64]
  omega
theorem and255 (x : Int) (h0 : 0 ≤ x) (h1 : x < 18446744073709551616) : 0 ≤ Go.bits .and .u64 x 255 ∧ Go.bits .and .u64 x 255 ≤ 255:=by
  obtain ⟨n,rfl⟩ : ∃ n : Nat,x = (n : Int):=⟨x.toNat,by omega⟩
  have e:=(bits_nat .u64 64 (by decide) (fun z h0 h1=>by rw [IntKind.wrap_u64];omega) n 255 (by omega) (by decide)).1
  have : Go.bits .and .u64 (n : Int) 255 = ((n &&& 255 : Nat) : Int):=e
  rw [this]
  have h2 : n &&& 255 ≤ 255:=Nat.and_le_right
  omega
def okC (l : List Int) : Prop:=l.length ≤ 1048576 ∧ ∀ x ∈ l,okU x
theorem okC_rd {l : List Int} (h : okC l) {i : Int} (h0 : 0 ≤ i) (h1 : i < l.length) : 0 ≤ rd l i ∧ rd l i ≤ 255:=by
  obtain ⟨n,rfl⟩ : ∃ n : Nat,i = (n : Int):=⟨i.toNat,by omega⟩
  rw [dD]
  exact h.2 _ (dH l 0 n (by omega))
theorem cW.ok {l : List Int} (h : okC l) (at_ seed : Int) (h0 : 0 ≤ at_) (h1 : at_ ≤ 1000000000000) : ∃ b s',cW.f l at_ seed = some (b,at_ + 1,s') ∧ 0 ≤ b ∧ b ≤ 255:=by
  have hl:=h.1
  have ea : wrap64 (at_ + 1) = at_ + 1:=w64 (by omega) (by omega)
  have hs : ∀ x : Int,0 ≤ wrap64 (Go.bits .and .u64 (IntKind.u64.wrap x / 1099511627776) 255) ∧ wrap64 (Go.bits .and .u64 (IntKind.u64.wrap x / 1099511627776) 255) ≤ 255:=fun x=>by
    have u:=lR x
    have a:=and255 (IntKind.u64.wrap x / 1099511627776) (by omega) (by omega)
    rw [w64 (by omega) (by omega)]
    exact a
  unfold cW.f
  rw [ea]
  by_cases c : at_ < (l.length : Int)
  · have r:=okC_rd h h0 c
    rw [if_pos c,if_pos h0]
    by_cases c2 : at_ + 1 ≤ (l.length : Int)
    · rw [if_pos c2]
      exact ⟨_,_,rfl,by rw [w64 (by omega) (by omega)];exact r⟩
    · rw [if_neg c2]
      exact ⟨_,_,rfl,hs _⟩
  · rw [if_neg c]
    by_cases c2 : at_ + 1 ≤ (l.length : Int)
    · rw [if_pos c2]
      exact ⟨_,_,rfl,by omega,by omega⟩
    · rw [if_neg c2]
      exact ⟨_,_,rfl,hs _⟩
theorem a8.ok {l : List Int} (h : okC l) (at_ seed n : Int) (h0 : 0 ≤ at_) (h1 : at_ ≤ 100000000000) : ∃ r a' s',a8.f l at_ seed n = some (r,a',s') ∧ 0 ≤ r ∧ (r < n ∨ r = 0) ∧ 0 ≤ r ∧ at_ ≤ a' ∧ a' ≤ at_ + 2:=by
  unfold a8.f
  by_cases c : n ≤ 1
  · rw [if_pos c]
    exact ⟨_,_,_,rfl,by omega,Or.inr rfl,by omega,by omega,by omega⟩
  · rw [if_neg c]
    obtain ⟨b,s1,e1,b0,b1⟩:=cW.ok h at_ seed h0 (by omega)
    rw [e1,Option.bind_some]
    have tm : ∀ x : Int,0 ≤ x → 0 ≤ Int.tmod x n ∧ Int.tmod x n < n:=fun x hx=>by
      rw [Int.tmod_eq_emod_of_nonneg hx]
      exact ⟨Int.emod_nonneg _ (by omega),Int.emod_lt_of_pos _ (by omega)⟩
    by_cases c2 : n > 200
    · rw [if_pos c2]
      obtain ⟨b',s2,e2,d0,d1⟩:=cW.ok h (at_ + 1) s1 (by omega) (by omega)
      simp only [e2,Option.bind_some]
      rw [if_neg (by omega),w64 (x:=b * 256) (by omega) (by omega),w64 (by omega) (by omega)]
      have t:=tm (b * 256 + b') (by omega)
      exact ⟨_,_,_,rfl,t.1,Or.inl t.2,t.1,by omega,by omega⟩
    · rw [if_neg c2]
      simp only
      rw [if_neg (by omega)]
      have t:=tm b b0
      exact ⟨_,_,_,rfl,t.1,Or.inl t.2,t.1,by omega,by omega⟩
theorem dK.ok {l : List Int} (h : okC l) (at_ seed n : Int) (h0 : 0 ≤ at_) (h1 : at_ ≤ 100000000000) : ∃ r a' s',dK.f l at_ seed n = some (r,a',s') ∧ at_ ≤ a' ∧ a' ≤ at_ + 2:=by
  obtain ⟨r,a',s',e,_,_,_,g1,g2⟩:=a8.ok h at_ seed n h0 h1
  unfold dK.f
  rw [e,Option.bind_some]
  exact ⟨_,_,_,rfl,g1,g2⟩
theorem cH.ok {l : List Int} (h : okC l) (at_ seed : Int) (L : List Int) (hL : 0 < L.length) (h0 : 0 ≤ at_) (h1 : at_ ≤ 100000000000) : ∃ r a' s',cH.f l at_ seed L = some (r,a',s') ∧ r ∈ L ∧ at_ ≤ a' ∧ a' ≤ at_ + 2:=by
  obtain ⟨r,a',s',e,r0,r1,_,g1,g2⟩:=a8.ok h at_ seed (L.length : Int) h0 h1
  unfold cH.f
  rw [e,Option.bind_some]
  simp only
  rw [if_pos r0,if_pos (by omega)]
  refine ⟨_,_,_,rfl,?_,g1,g2⟩
  obtain ⟨n,rfl⟩ : ∃ n : Nat,r = (n : Int):=⟨r.toNat,by omega⟩
  rw [dD]
  exact dH L 0 n (by omega)
def okK (at_ : Int) (most d : Nat) (v : Int × List Int × Int × Int) : Prop:=v.2.1.length ≤ most ∧ at_ ≤ v.2.2.1 ∧ v.2.2.1 ≤ at_ + d
theorem aA.ok {l : List Int} (h : okC l) (at_ seed : Int) (most : Nat) (hm : 1 ≤ most) (hm9 : most ≤ 9) (h0 : 0 ≤ at_) (h1 : at_ ≤ 10000000000) :
    ∃ v,Ev (fun k=>aA.f k l at_ seed (most : Int)) v ∧ okK at_ most 40 v ∧ 1 ≤ v.2.1.length:=by
  obtain ⟨r,a1,s1,e1,r0,r1,_,g1,g2⟩:=a8.ok h at_ seed (most : Int) h0 (by omega)
  have j1 : ∀ (w : List Int) (a s : Int),w.length ≤ most → 1 ≤ w.length → at_ ≤ a → a ≤ at_ + 2 + 2 * most → ∃ v,Ev (fun k=>aA.j1 k l a s 0 w) v ∧ okK at_ most 40 v ∧ 1 ≤ v.2.1.length:=by
    intro w a s hw hw1 ha hb
    obtain ⟨o,a2,s2,e2,p1,p2⟩:=dK.ok h a s 2 (by omega) (by omega)
    cases o with
    | true =>
      obtain ⟨r3,a3,s3,e3,_,_,_,p3,p4⟩:=a8.ok h a2 s2 (lx w) (by omega) (by omega)
      refine ⟨(wrap64 (1 + r3),w,a3,s3),Ev.shift ?_,⟨hw,by simp only;omega,by simp only;omega⟩,hw1⟩
      simp only [aA.j1]
      exact Ev.bind (bz.ev w (by omega)) (Ev.bind (Ev.one e2) (Ev.bn rfl (Ev.bind (Ev.one e3) Ev.some)))
    | false =>
      refine ⟨(wrap64 (wrap64 (Int.tdiv (lx w) 2) + 1),w,a2,s2),Ev.shift ?_,⟨hw,by simp only;omega,by simp only;omega⟩,hw1⟩
      simp only [aA.j1]
      exact Ev.bind (bz.ev w (by omega)) (Ev.bind (Ev.one e2) (Ev.b7 Bool.false_ne_true Ev.some))
  obtain ⟨n,rfl⟩ : ∃ n : Nat,r = (n : Int):=⟨r.toNat,by omega⟩
  have key : ∀ (d : Nat) (w : List Int) (a s : Int),w.length + d = n + 1 → at_ ≤ a → a ≤ at_ + 2 + 2 * (w.length : Int) → ∃ v,Ev (fun k=>aA.l0 k (d : Int) l a s 0 w) v ∧ okK at_ most 40 v ∧ 1 ≤ v.2.1.length:=by
    intro d
    induction d with
    | zero =>
      intro w a s hw ha hb
      by_cases hz : lx w = 0
      · obtain ⟨v,hv,ok⟩:=j1 (w.set (0 : Int).toNat 1) a s (by rw [List.length_set];omega) (by rw [List.length_set];omega) ha (by omega)
        refine ⟨v,Ev.shift ?_,ok⟩
        simp only [aA.l0]
        refine Ev.b7 (by omega) (Ev.bind (bz.ev w (by omega)) (Ev.bn hz (Ev.bn (by omega) hv)))
      · obtain ⟨v,hv,ok⟩:=j1 w a s (by omega) (by omega) ha (by omega)
        refine ⟨v,Ev.shift ?_,ok⟩
        simp only [aA.l0]
        exact Ev.b7 (by omega) (Ev.bind (bz.ev w (by omega)) (Ev.b7 hz hv))
    | succ d ih =>
      intro w a s hw ha hb
      obtain ⟨r2,a2,s2,e2,_,_,_,p1,p2⟩:=a8.ok h a s 7 (by omega) (by omega)
      obtain ⟨v,hv,ok⟩:=ih (w ++ [r2]) a2 s2 (by rw [List.length_append,List.length_singleton];omega) (by omega) (by rw [List.length_append,List.length_singleton];omega)
      refine ⟨v,Ev.shift ?_,ok⟩
      simp only [aA.l0]
      refine Ev.bn (by omega) (Ev.bind (Ev.one e2) (Ev.bn (by omega) ?_))
      rw [show wrap64 (((d + 1 : Nat) : Int) - 1) = (d : Int) by rw [w64 (by omega) (by omega)];omega]
      exact hv
  obtain ⟨v,hv,ok⟩:=key (n + 1) [] a1 s1 (by simp) g1 (by simp only [List.length_nil];omega)
  refine ⟨v,?_,ok⟩
  unfold aA.f
  refine Ev.bind (Ev.one e1) ?_
  rw [show wrap64 (1 + (n : Int)) = ((n + 1 : Nat) : Int) by rw [w64 (by omega) (by omega)];omega]
  exact hv
theorem a7.ok {l : List Int} (h : okC l) (at_ seed : Int) (most : Nat) (hm : 1 ≤ most) (hm9 : most ≤ 9) (h0 : 0 ≤ at_) (h1 : at_ ≤ 1000000000) :
    ∃ v,Ev (fun k=>a7.f k l at_ seed (most : Int)) v ∧ okK at_ 11 100 v:=by
  obtain ⟨⟨q,w,a1,s1⟩,e1,⟨hw,p1,p2⟩,hw1⟩:=aA.ok h at_ seed most hm hm9 h0 (by omega)
  simp only at hw p1 p2 hw1
  obtain ⟨r,a2,s2,e2,r0,r1,_,p3,p4⟩:=a8.ok h a1 s1 16 (by omega) (by omega)
  have hlen : w.length ≤ 9223372036854775807:=by omega
  unfold a7.f
  by_cases c0 : r = 0
  · obtain ⟨x,a3,s3,e3,_,p5,p6⟩:=cH.ok h a2 s2 (([(-1),0,1,lx w,wrap64 (lx w + 1),4611686018427387904] : List Int)) (by simp) (by omega) (by omega)
    refine ⟨(x,w,a3,s3),Ev.bind e1 (Ev.bind (Ev.one e2) (Ev.bn c0 (Ev.bind (bz.ev w hlen) (Ev.bind (bz.ev w hlen) (Ev.bind (Ev.one e3) Ev.some))))),?_,?_,?_⟩
    all_goals simp only
    all_goals omega
  by_cases c1 : r = 1
  · obtain ⟨x,a3,s3,e3,_,p5,p6⟩:=cH.ok h a2 s2 (([(-1),0,1000,1001,4611686018427387904] : List Int)) (by decide) (by omega) (by omega)
    refine ⟨(q,w.set (0 : Int).toNat x,a3,s3),Ev.bind e1 (Ev.bind (Ev.one e2) (Ev.b7 c0 (Ev.bn c1 (Ev.bind (Ev.one e3) (Ev.bn (by simp only;omega) Ev.some))))),?_,?_,?_⟩
    · simp only [List.length_set];omega
    · simp only;omega
    · simp only;omega
  by_cases c2 : r = 2
  · have key : ∀ (d : Nat) (w : List Int) (a s : Int),w.length ≤ 10 → 10 ≤ w.length + d → at_ ≤ a → a + 2 * d ≤ at_ + 90 → ∃ v,Ev (fun k=>a7.l0 k l a s q w) v ∧ okK at_ 11 100 v:=by
      intro d
      induction d with
      | zero =>
        intro w a s hw hd ha hb
        obtain ⟨x,a3,s3,e3,x0,x1,_,p5,p6⟩:=a8.ok h a s 2 (by omega) (by omega)
        refine ⟨(q,w,a3,s3),Ev.shift ?_,?_,?_,?_⟩
        · simp only [a7.l0]
          refine Ev.bind (Ev.one e3) (Ev.b7 ?_ Ev.some)
          simp only
          rw [w64 (by omega) (by omega)]
          omega
        · simp only;omega
        · simp only;omega
        · simp only;omega
      | succ d ih =>
        intro w a s hw hd ha hb
        obtain ⟨x,a3,s3,e3,x0,x1,_,p5,p6⟩:=a8.ok h a s 2 (by omega) (by omega)
        by_cases c : (w.length : Int) < 9 + x
        · obtain ⟨v,hv,ok⟩:=ih (w ++ [1]) a3 s3 (by rw [List.length_append,List.length_singleton];omega) (by rw [List.length_append,List.length_singleton];omega) (by omega) (by omega)
          refine ⟨v,Ev.shift ?_,ok⟩
          simp only [a7.l0]
          refine Ev.bind (Ev.one e3) ?_
          simp only
          rw [w64 (x:=9 + x) (by omega) (by omega)]
          exact Ev.bn c (Ev.bn (by omega) hv)
        · refine ⟨(q,w,a3,s3),Ev.shift ?_,?_,?_,?_⟩
          · simp only [a7.l0]
            refine Ev.bind (Ev.one e3) ?_
            simp only
            rw [w64 (x:=9 + x) (by omega) (by omega)]
            exact Ev.b7 c Ev.some
          · simp only;omega
          · simp only;omega
          · simp only;omega
    obtain ⟨v,hv,ok⟩:=key 10 w a2 s2 (by omega) (by omega) (by omega) (by omega)
    exact ⟨v,Ev.bind e1 (Ev.bind (Ev.one e2) (Ev.b7 c0 (Ev.b7 c1 (Ev.bn c2 hv)))),ok⟩
  by_cases c3 : r = 3
  · refine ⟨(1,[],a2,s2),Ev.bind e1 (Ev.bind (Ev.one e2) (Ev.b7 c0 (Ev.b7 c1 (Ev.b7 c2 (Ev.bn c3 Ev.some))))),?_,?_,?_⟩
    all_goals simp only [List.length_nil]
    all_goals omega
  · refine ⟨(q,w,a2,s2),Ev.bind e1 (Ev.bind (Ev.one e2) (Ev.b7 c0 (Ev.b7 c1 (Ev.b7 c2 (Ev.b7 c3 Ev.some))))),?_,?_,?_⟩
    all_goals simp only
    all_goals omega
theorem fI.ok (a b : List Int) (ha : okL okU a) (hb : okL okU b) : ∃ r,fI.f a b = some r ∧ (r = true ∨ okC a ∧ okC b):=by
  unfold fI.f
  by_cases c : (a.length : Int) > 1048576
  · rw [if_pos c];exact ⟨_,rfl,Or.inl rfl⟩
  · rw [if_neg c,w64 (by omega) (by omega)]
    refine ⟨_,rfl,?_⟩
    by_cases c2 : (b.length : Int) > 1048576 - (a.length : Int)
    · exact Or.inl (decide_eq_true c2)
    · exact Or.inr ⟨⟨by omega,ha.2⟩,⟨by omega,hb.2⟩⟩
theorem gr (q : Int) (l : List Int) (a : Int) (hm : l.length ≤ 9223372036854775807) : Ev (fun k=>ag.j3 k a (quP q l a).1 (quP q l a).2 q l) true:=by
  refine Ev.shift ?_
  simp only [ag.j3]
  cases h : (quP q l a).2 with
  | false=>exact Ev.b7 (by decide) Ev.some
  | true =>
    obtain ⟨i,rfl,hi,hc,hn,hp,hc0,hle,heq⟩:=mV h
    have hlen:=mZ q l i
    generalize (quP q l i).1 = L at hn hp hc0 hle heq hlen ⊢
    have hpos:=List.length_pos_iff.2 hn
    have e0 : rd L 0 = L.getD 0 0:=dD L 0
    refine Ev.bn rfl (Ev.b7 (by omega) (Ev.bind (cg.ev L (by omega) hp) (Ev.bn rfl (Ev.bn (by omega) ?_))))
    rw [e0]
    refine Ev.bind (cG.ev _ l hc0) (Ev.bind (cG.ev q l hc) (Ev.bn rfl (Ev.bn rfl ?_)))
    have p1:=iJ q l
    have p2:=iJ (L.getD 0 0) l
    simp only
    refine Ev.bn (by omega) (Ev.bn (by omega) (Ev.bn (by omega) ?_))
    rw [dD,dD]
    refine Ev.b7 (by omega) (Ev.bind (dc.ev L q (by omega)) ?_)
    have e : ((pv q l).getD i 0 == (pv (L.getD 0 0) l).getD i 0) = kC L q:=by
      rw [Bool.eq_iff_iff,jT,← heq,beq_iff_eq]
    rw [e,bne_self_eq_false]
    exact Ev.b7 (by decide) Ev.some
theorem iy (q : Int) (l : List Int) (a : Int) (hm : l.length ≤ 9223372036854775807) : Ev (fun k=>ag.j4 k a (quP q l a).1 (quP q l a).2 q l) true:=by
  have:=gr q l a hm
  refine Ev.shift ?_
  obtain ⟨K,h⟩:=this
  refine ⟨K,fun k hk=>?_⟩
  have:=h (k + 1) (by omega)
  simp only [ag.j3] at this
  simp only [ag.j4]
  exact this
theorem bQ.ok (c : List Int) (h : okC c) : ∃ q l a,Ev (fun k=>bQ.f k c) (q,l,a) ∧ l.length ≤ 11:=by
  obtain ⟨⟨q,w,a1,s1⟩,e1,hw,p1,p2⟩:=a7.ok h 0 0 5 (by omega) (by omega) (by omega) (by omega)
  simp only at hw p1 p2
  obtain ⟨r,a2,s2,e2,_⟩:=a8.ok h a1 s1 (wrap64 ((w.length : Int) + 2)) (by omega) (by omega)
  exact ⟨q,w,wrap64 (r - 1),Ev.bind e1 (Ev.bind (Ev.one e2) Ev.some),hw⟩
theorem cO.ok (c : List Int) (h : okC c) : ∃ q l i j,Ev (fun k=>cO.f k c) (q,l,i,j) ∧ l.length ≤ 11:=by
  obtain ⟨⟨q,w,a1,s1⟩,e1,hw,p1,p2⟩:=a7.ok h 0 0 5 (by omega) (by omega) (by omega) (by omega)
  simp only at hw p1 p2
  obtain ⟨r,a2,s2,e2,_,_,_,p3,p4⟩:=a8.ok h a1 s1 (wrap64 ((w.length : Int) + 1)) (by omega) (by omega)
  obtain ⟨r3,a3,s3,e3,_⟩:=a8.ok h a2 s2 (wrap64 ((w.length : Int) + 1)) (by omega) (by omega)
  exact ⟨q,w,r,r3,Ev.bind e1 (Ev.bind (Ev.one e2) (Ev.bind (Ev.one e3) Ev.some)),hw⟩
theorem iD (c : List Int) (hc : okC c) : Ev (fun k=>ag.j2 k c) true:=by
  obtain ⟨q,l,a,hd,hl11⟩:=bQ.ok c hc
  have hm : l.length ≤ 9223372036854775807:=by omega
  have j3:=gr q l a hm
  have j4:=iy q l a hm
  refine Ev.shift ?_
  simp only [ag.j2]
  refine Ev.bind hd ?_
  simp only
  refine Ev.bind (dA.ev q l a hm) (Ev.bind (az.ev q l a hm) (Ev.bind (aT.ev q l a hm) (Ev.bind (a6.ev q l a hm) (Ev.bind (bl.ev q l a hm) (Ev.bind (bc.ev q l a hm) ?_)))))
  have h1:=l6 q l a
  have h2:=lQ q l a
  have h3:=mZ q l a
  rw [bne_self_eq_false]
  refine Ev.b7 (by decide) (Ev.bind (cd.ev _ (by omega)) (Ev.bn rfl ?_))
  rw [bne_self_eq_false]
  refine Ev.b7 (by decide) (Ev.bind (cd.ev _ (by omega)) (Ev.bn rfl ?_))
  rw [bne_self_eq_false]
  refine Ev.b7 (by decide) (Ev.bind (cd.ev _ (by omega)) (Ev.bn rfl ?_))
  have sp : ∀ g : Nat → Option Bool,(eG q l a).2 = true → Ev g true → Ev (fun k=>if ((eG q l a).1.length : Int) < 1 then (some false) else ((cg.f k (eG q l a).1).bind fun t=>(if t = true then (if 0 ≤ (wrap64 (((eG q l a).1.length : Int) - 1)) then (if (wrap64 (((eG q l a).1.length : Int) - 1)) < ((eG q l a).1.length : Int) then (if 0 ≤ a then (if a < (l.length : Int) then (if 0 < ((eG q l a).1.length : Int) then (if (rd (eG q l a).1 (wrap64 (((eG q l a).1.length : Int) - 1))) = (wrap64 ((rd l a) - (rd (eG q l a).1 0))) then (g k) else (some false)) else (none)) else (none)) else (none)) else (none)) else (none)) else (some false)))) true:=by
    intro g hb hg
    obtain ⟨⟨i,rfl,hi⟩,h20,hn,hp,hr,hs⟩:=kp hb
    generalize (eG q l i).1 = L at hn hp hr hs h2 ⊢
    have hpos:=List.length_pos_iff.2 hn
    have e1 : wrap64 ((L.length : Int) - 1) = ((L.length - 1 : Nat) : Int):=by rw [w64 (by omega) (by omega)];omega
    have e0 : rd L 0 = L.getD 0 0:=dD L 0
    have b0:=hr _ (dH L 0 0 hpos)
    have pe:=lW _ hp hn hs
    rw [e1,e0,dD L,w64 (x:=rd l (i : Int) - L.getD 0 0) (by omega) (by omega)]
    exact Ev.b7 (by omega) (Ev.bind (cg.ev L (by omega) hp) (Ev.bn rfl (Ev.bn (by omega) (Ev.bn (by omega) (Ev.bn (by omega) (Ev.bn (by omega) (Ev.bn (by omega) (Ev.bn pe hg))))))))
  cases hb : (iT q l a).2 with
  | true =>
    obtain ⟨hn,hp,hk⟩:=kQ hb
    have hpos:=List.length_pos_iff.2 hn
    refine Ev.bn rfl (Ev.b7 (by omega) (Ev.bind (cg.ev _ (by omega) hp) (Ev.bn rfl (Ev.bind (dc.ev _ a (by omega)) ?_))))
    rw [hk]
    refine Ev.b7 (by decide) ?_
    cases hs : (eG q l a).2 with
    | true=>exact Ev.bn rfl (sp _ hs j3)
    | false=>exact Ev.b7 (by decide) j3
  | false =>
    refine Ev.b7 (by decide) ?_
    cases hs : (eG q l a).2 with
    | true=>exact Ev.bn rfl (sp _ hs j4)
    | false=>exact Ev.b7 (by decide) j4
theorem iE (q : Int) (l : List Int) (a b : Nat) (c : List Int) (hc : isComm q l = true) (ha : a < l.length) (hb : b < l.length) (j2 : Ev (fun k => ag.j2 k c) true) :
    Ev (fun k=>ag.l1 k c (a : Int) (b : Int) (sel l.length (gq q l a b)) (swl l.length (tab l.length (fL q l))) (swl l.length (tab l.length (fP q l a b))) (l.length : Int) 0) true:=by
  have h9:=b6 hc
  have hs0:=gY l.length (gq q l a b)
  have s1:=fY l.length (tab l.length (fP q l a b))
  have s2:=fY l.length (tab l.length (fL q l))
  have key := Ev.down (G := fun m k => ag.l1 k c (a : Int) (b : Int) (sel l.length (gq q l a b)) (swl l.length (tab l.length (fL q l))) (swl l.length (tab l.length (fP q l a b))) (l.length : Int) (m : Int)) (R := fun _ => true) l.length
    (by refine Ev.shift ?_
        simp only [ag.l1,Int.lt_irrefl,↓reduceIte]
        exact j2)
    (fun m hm ih=>by
      refine Ev.shift ?_
      simp only [ag.l1]
      refine Ev.bn (by omega) (Ev.bn (by omega) (Ev.bn (by omega) (Ev.bn (by omega) (Ev.bind (dc.ev _ (m : Int) (by omega)) ?_))))
      rw [zhas_sel,decide_eq_true hm,Bool.true_and,dD,dD,w1 hm (show l.length ≤ 9223372036854775807 by omega)]
      have e : gq q l a b m = decide ((swl l.length (tab l.length (fP q l a b))).getD m 0 > (swl l.length (tab l.length (fL q l))).getD m 0):=rfl
      rw [e,bne_self_eq_false]
      refine Ev.b7 (by decide) ?_
      by_cases c1 : (m : Int) = (a : Int)
      · obtain rfl : m = a:=by omega
        exact Ev.bn rfl (Ev.b7 (by have:=(kD q l m b hm hb).1;omega) ih)
      · refine Ev.b7 c1 ?_
        by_cases c2 : (m : Int) = (b : Int)
        · obtain rfl : m = b:=by omega
          exact Ev.bn rfl (Ev.b7 (by have:=(kD q l a m ha hm).2;omega) ih)
        · exact Ev.b7 c2 ih)
  exact key 0 (Nat.zero_le _)
theorem iG (q : Int) (l : List Int) (a b : Nat) (c : List Int) (hc : isComm q l = true) (ha : a < l.length) (hb : b < l.length) (j2 : Ev (fun k => ag.j2 k c) true) :
    Ev (fun k=>ag.l0 k c (a : Int) (b : Int) ((tab l.length (fP q l a b)).count true : Int) (swl l.length (tab l.length (fP q l a b))) (sel l.length (gq q l a b)) (l.length : Int) (swl l.length (tab l.length (fL q l))) 0 0 q l) true:=by
  have h9:=b6 hc
  have p9 : 2 ^ l.length ≤ 512:=dU (m:=9) h9.2
  have l1:=iE q l a b c hc ha hb j2
  have s1:=fY l.length (tab l.length (fP q l a b))
  have key := Ev.down (G := fun m k => ag.l0 k c (a : Int) (b : Int) ((tab l.length (fP q l a b)).count true : Int) (swl l.length (tab l.length (fP q l a b))) (sel l.length (gq q l a b)) (l.length : Int) (swl l.length (tab l.length (fL q l))) (((List.range m).countP (fP q l a b) : Nat) : Int) (m : Int) q l) (R := fun _ => true) (2 ^ l.length)
    (by refine Ev.shift ?_
        simp only [ag.l0,gG l.length (by omega),Int.lt_irrefl,↓reduceIte]
        refine Ev.bn (by omega) (Ev.bn (by rw [lS]) ?_)
        rw [s1]
        exact l1)
    (fun m hm ih=>by
      refine Ev.shift ?_
      simp only [ag.l0,gG l.length (by omega)]
      have hle:=List.countP_le_length (p:=fP q l a b) (l:=List.range m)
      rw [List.length_range] at hle
      have hw:=w1 hm (show 2 ^ l.length ≤ 9223372036854775807 by omega)
      have hz:=dq.ev m (by omega)
      have hi:=cb.bits q l hc m hm
      rw [List.range_succ,List.countP_append,List.countP_singleton] at ih
      rw [fZ m a (by omega),fZ m b (by omega),gv,gv,hw]
      have hwin : (m.testBit a && m.testBit b) = false → Ev (fun k=>(dq.f k (m : Int)).bind fun t=>((cb.f k q l t).bind fun bt=>(if bt.2 = true then (if bt.1 = true then (ag.l0 k c (a : Int) (b : Int) ((tab l.length (fP q l a b)).count true : Int) (swl l.length (tab l.length (fP q l a b))) (sel l.length (gq q l a b)) (l.length : Int) (swl l.length (tab l.length (fL q l))) (wrap64 ((((List.range m).countP (fP q l a b) : Nat) : Int) + 1)) ((m + 1 : Nat) : Int) q l) else (ag.l0 k c (a : Int) (b : Int) ((tab l.length (fP q l a b)).count true : Int) (swl l.length (tab l.length (fP q l a b))) (sel l.length (gq q l a b)) (l.length : Int) (swl l.length (tab l.length (fL q l))) (((List.range m).countP (fP q l a b) : Nat) : Int) ((m + 1 : Nat) : Int) q l)) else (some false)))) true:=by
        intro hv
        refine Ev.bind hz (Ev.bind hi (Ev.bn rfl ?_))
        have e : fP q l a b m = fL q l m:=by unfold fP;rw [hv,Bool.not_false,Bool.and_true]
        rw [e] at ih
        cases hcw : fL q l m with
        | true =>
          rw [hcw,if_pos rfl] at ih
          refine Ev.bn rfl ?_
          rw [w64 (by omega) (by omega)]
          exact ih
        | false =>
          rw [hcw,if_neg (by decide),Nat.add_zero] at ih
          exact Ev.b7 (by decide) ih
      refine Ev.bn (by omega) (Ev.bn (by omega) (Ev.bn (by omega) ?_))
      cases hba : m.testBit a with
      | false =>
        have : ¬ ((m / 2 ^ a % 2 : Nat) : Int) = 1:=by rw [eH,decide_eq_false_iff_not] at hba;omega
        exact Ev.b7 this (hwin (by rw [hba];rfl))
      | true =>
        have : ((m / 2 ^ a % 2 : Nat) : Int) = 1:=by rw [eH,decide_eq_true_eq] at hba;omega
        refine Ev.bn this (Ev.bn (by omega) ?_)
        cases hbb : m.testBit b with
        | false =>
          have : ¬ ((m / 2 ^ b % 2 : Nat) : Int) = 1:=by rw [eH,decide_eq_false_iff_not] at hbb;omega
          exact Ev.b7 this (hwin (by rw [hba,hbb];rfl))
        | true =>
          have : ((m / 2 ^ b % 2 : Nat) : Int) = 1:=by rw [eH,decide_eq_true_eq] at hbb;omega
          have e : fP q l a b m = false:=by unfold fP;rw [hba,hbb];simp
          rw [e,if_neg (by decide),Nat.add_zero] at ih
          exact Ev.bn this ih)
  exact key 0 (Nat.zero_le _)
theorem gl : ag.Pure:=by
  intro c1 c2 h1 h2
  apply Ev.rounds (r:=true)
  unfold ag.f
  obtain ⟨b,hb,hor⟩:=fI.ok c1 c2 h1 h2
  refine Ev.bind (Ev.one hb) ?_
  cases b with
  | true=>exact Ev.bn rfl Ev.some
  | false =>
  refine Ev.b7 (by decide) ?_
  obtain ⟨o1,o2⟩:=hor.resolve_left (by decide)
  obtain ⟨q,l,i,j,hd,hl11⟩:=cO.ok c1 o1
  have hm : l.length ≤ 9223372036854775807:=by omega
  have j2:=iD c2 o2
  refine Ev.bind hd ?_
  simp only
  refine Ev.bind (cf.ev q l i j hm) (Ev.bind (cX.ev q l i j hm) (Ev.bind (cy.ev q l i j hm) (Ev.bind (bZ.ev q l i j hm) (Ev.bind (dy.ev q l i j hm) (Ev.bind (ba.ev q l i j hm) ?_)))))
  have h1:=jA q l i j
  have h2:=j7 q l i j
  rw [bne_self_eq_false]
  refine Ev.b7 (by decide) (Ev.bn rfl ?_)
  rw [bne_self_eq_false]
  refine Ev.b7 (by decide) (Ev.bind (cd.ev _ (by omega)) (Ev.bn rfl ?_))
  rw [bne_self_eq_false]
  refine Ev.b7 (by decide) (Ev.bind (cd.ev _ (by omega)) (Ev.bn rfl ?_))
  have e1 : (eB q l i j).2 = (d5 q l i j).2:=by unfold eB d5;cases eJ q l i j <;> rfl
  have e2 : (fl q l i j).2 = (d5 q l i j).2:=by unfold fl d5;cases eJ q l i j <;> rfl
  rw [e1,bne_self_eq_false]
  refine Ev.b7 (by decide) ?_
  rw [e2,bne_self_eq_false]
  refine Ev.b7 (by decide) ?_
  cases hp : eJ q l i j with
  | false =>
    have : (d5 q l i j).2 = false:=by unfold d5;rw [hp];rfl
    rw [this]
    exact Ev.b7 (by decide) j2
  | true =>
    obtain ⟨hc,hne,a,b,rfl,rfl,ha,hb⟩:=fh hp
    have e3 : d5 q l a b = (((tab l.length (fP q l a b)).count true : Int),true):=by unfold d5;rw [hp,if_pos rfl];rfl
    have e4 : eB q l a b = (swl l.length (tab l.length (fP q l a b)),true):=by unfold eB;rw [hp,if_pos rfl];rfl
    have e5 : fl q l a b = (sel l.length (gq q l a b),true):=by unfold fl;rw [hp,if_pos rfl];rfl
    have e6 : d5 q l b a = d5 q l a b:=by rw [e3];unfold d5;rw [k3,hp,if_pos rfl];simp only [Int.toNat_natCast,kJ q l b a]
    have s1:=fY l.length (tab l.length (fP q l a b))
    have cw:=cf.ev q l b a hm
    rw [e6,e3] at cw
    rw [e3,e4,e5]
    refine Ev.bn rfl (Ev.bind (dX.ev q l hc) (Ev.bind cw (Ev.bn rfl (Ev.bn rfl (Ev.bn rfl (Ev.bn (by rw [s1]) ?_))))))
    exact iG q l a b c2 hc ha hb j2
end Go.Proofs.YtjeneincnndcoaaGreat.P
