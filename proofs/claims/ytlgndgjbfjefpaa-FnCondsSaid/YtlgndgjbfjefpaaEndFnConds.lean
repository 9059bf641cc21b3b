/- FnConds: a condition holds just when its argument, masked, is so beside the value: of each pair that are unlike one holds. No conditions. -/
import Derived.Test.YtlgndgjbfjefpaaVWMore
import Derived.Test.YtlgndgjbfjefpaaPFnCondsy10
import Derived.Test.YtlgndgjbfjefpaaRows
import Derived.WalkKit
import Derived.ProofKit
import Derived.OpenShut
import Derived.ShutString
import Derived.ChangeOld
import Derived.Below
import Derived.SizedLaws
import Derived.Test.YtlgndgjbfjefpaaVWSized
section
/- Plain lemmas on numbers and lists for the pure statements: no program, no memory. -/
namespace Go.Proofs.YtlgndgjbfjefpaaW.PK
open Go Go.RowKit Go.Proofs.YtlgndgjbfjefpaaW.PrintWords
theorem w64 {x : Int} (h1 : -9223372036854775808 ≤ x) (h2 : x ≤ 9223372036854775807) : wrap64 x = x := by unfold wrap64; omega
theorem wsucc {i n : Nat} (h : i < n) (hn : n ≤ 9223372036854775807) : wrap64 ((i : Int) + 1) = ((i + 1 : Nat) : Int) := by unfold wrap64; omega
theorem getD_lt {α : Type} {xs : List α} {i : Nat} (z : α) (h : i < xs.length) : xs.getD ((i : Int)).toNat z = xs[i] := by
 rw [Int.toNat_natCast, List.getD_eq_getElem?_getD, List.getElem?_eq_getElem h]
 rfl
theorem take_succ_eq {α : Type} {xs ys : List α} {i : Nat} (hx : i < xs.length) (hy : i < ys.length) (h : xs.take i = ys.take i) (e : xs[i] = ys[i]) : xs.take (i + 1) = ys.take (i + 1) := by
 rw [List.take_succ_eq_append_getElem hx, List.take_succ_eq_append_getElem hy, h, e]
theorem take_set {α : Type} {xs : List α} {i : Nat} (v : α) : (xs.set i v).take i = xs.take i := by
 rw [List.take_set_of_le (Nat.le_refl _)]
/-- Rounds: a thing that is so from K rounds on. -/
theorem ev_of {α : Type} {g : Nat → Option α} {r : α} (K : Nat) (h : ∀ k, K ≤ k → g k = some r) : ∃ K, ∀ k, K ≤ k → g k = some r := ⟨K, h⟩
end Go.Proofs.YtlgndgjbfjefpaaW.PK
end
section
/- Values that a function comes to from some number of rounds on, and the loops over lists: plain lemmas. -/
namespace Go.Proofs.YtlgndgjbfjefpaaW.PK
open Go Go.RowKit Go.Proofs.YtlgndgjbfjefpaaW.PrintWords
def Evt {α : Type} (g : Nat → Option α) (v : α) : Prop := ∃ K, ∀ k, K ≤ k → g k = some v
theorem Evt.const {α : Type} {g : Nat → Option α} {v : α} (h : ∀ k, g k = some v) : Evt g v := ⟨0, fun k _ => h k⟩
theorem Evt.succ {α : Type} {g : Nat → Option α} {v : α} (h : Evt (fun k => g (k + 1)) v) : Evt g v := by
  obtain ⟨K, h⟩ := h
  refine ⟨K + 1, fun k hk => ?_⟩
  obtain ⟨k, rfl⟩ : ∃ m, k = m + 1 := ⟨k - 1, by omega⟩
  exact h k (by omega)
theorem Evt.bind {α β : Type} {g : Nat → Option α} {h : α → Nat → Option β} {a : α} {b : β} (h1 : Evt g a) (h2 : Evt (h a) b) : Evt (fun k => (g k).bind fun x => h x k) b := by
  obtain ⟨K1, h1⟩ := h1
  obtain ⟨K2, h2⟩ := h2
  refine ⟨K1 + K2, fun k hk => ?_⟩
  show (g k).bind _ = _
  rw [h1 k (by omega)]
  exact h2 k (by omega)
theorem Evt.congr {α : Type} {g g' : Nat → Option α} {v : α} (h : Evt g v) (e : ∀ k, g' k = g k) : Evt g' v := by
  obtain ⟨K, h⟩ := h
  exact ⟨K, fun k hk => (e k).trans (h k hk)⟩
theorem Evt.uniq {α : Type} {g : Nat → Option α} {v u : α} (h : Evt g v) (h' : Evt g u) : v = u := by
  obtain ⟨K, h⟩ := h
  obtain ⟨K', h'⟩ := h'
  exact Option.some.inj ((h (K + K') (by omega)).symm.trans (h' (K + K') (by omega)))
/-- There is a value. -/
def Tot {α : Type} (g : Nat → Option α) : Prop := ∃ v, Evt g v
theorem Tot.const {α : Type} {g : Nat → Option α} {v : α} (h : ∀ k, g k = some v) : Tot g := ⟨v, .const h⟩
theorem Tot.some {α : Type} {v : α} : Tot (fun _ => some v) := ⟨v, .const fun _ => rfl⟩
theorem Tot.succ {α : Type} {g : Nat → Option α} (h : Tot (fun k => g (k + 1))) : Tot g := by
  obtain ⟨v, h⟩ := h
  exact ⟨v, h.succ⟩
theorem Tot.bind {α β : Type} {g : Nat → Option α} {h : α → Nat → Option β} (h1 : Tot g) (h2 : ∀ a, Evt g a → Tot (h a)) : Tot (fun k => (g k).bind fun x => h x k) := by
  obtain ⟨a, h1⟩ := h1
  obtain ⟨b, h2⟩ := h2 a h1
  exact ⟨b, h1.bind h2⟩
theorem Tot.ite {α : Type} {c : Prop} [Decidable c] {g h : Nat → Option α} (h1 : c → Tot g) (h2 : ¬ c → Tot h) : Tot (fun k => if c then g k else h k) := by
  by_cases hc : c
  · simp only [if_pos hc]
    exact h1 hc
  · simp only [if_neg hc]
    exact h2 hc
theorem Tot.congr {α : Type} {g g' : Nat → Option α} (h : Tot g) (e : ∀ k, g' k = g k) : Tot g' := by
  obtain ⟨v, h⟩ := h
  exact ⟨v, h.congr e⟩
/-- Down from a list's end. -/
theorem down {T : Nat → Prop} {n : Nat} (h0 : T n) (h1 : ∀ i, i < n → T (i + 1) → T i) : ∀ d i, i + d = n → T i
  | 0, i, h => by
    have : i = n := by omega
    subst this
    exact h0
  | d + 1, i, h => h1 i (by omega) (down h0 h1 d (i + 1) (by omega))
/-- A loop that goes through. -/
theorem Evt.pass {β : Type} {F : Nat → Int → Option β} {n : Nat} {r : β} (h0 : Evt (fun k => F (k + 1) (n : Int)) r) (h1 : ∀ i : Nat, i < n → ∃ K, ∀ k, K ≤ k → F (k + 1) (i : Int) = F k ((i + 1 : Nat) : Int)) : Evt (fun k => F k 0) r :=
  down (T := fun i => Evt (fun k => F k (i : Int)) r) (n := n) (.succ h0) (fun i hi ih => by
    obtain ⟨K1, h1⟩ := h1 i hi
    obtain ⟨K2, h2⟩ := ih
    refine Evt.succ ⟨K1 + K2, fun k hk => ?_⟩
    show F (k + 1) (i : Int) = _
    rw [h1 k (by omega)]
    exact h2 k (by omega)) n 0 (by omega)
/-- A list copied, member by member. -/
theorem Evt.to {A B : Type} {F : Nat → List B → Int → Option (List B)} {x : List A} {conv : A → B} (h0 : ∀ k y, F (k + 1) y (x.length : Int) = some y)
    (h1 : ∀ (i : Nat) (h : i < x.length), ∃ K, ∀ k, K ≤ k → ∀ y : List B, y.length = x.length → F (k + 1) y (i : Int) = F k (y.set i (conv x[i])) ((i + 1 : Nat) : Int)) (y0 : List B) (hy0 : y0.length = x.length) : Evt (fun k => F k y0 0) (x.map conv) := by
  have key : ∀ y : List B, y.length = x.length → (∀ j, j < 0 → y[j]? = (x.map conv)[j]?) → Evt (fun k => F k y ((0 : Nat) : Int)) (x.map conv) := by
    have h := down (T := fun i => ∀ y : List B, y.length = x.length → (∀ j, j < i → y[j]? = (x.map conv)[j]?) → Evt (fun k => F k y (i : Int)) (x.map conv)) (n := x.length) ?_ ?_
    · exact h x.length 0 (by omega)
    · intro y hy hj
      refine .succ (.const fun k => (h0 k y).trans (congrArg some (List.ext_getElem? fun j => ?_)))
      rcases Nat.lt_or_ge j x.length with h | h
      · exact hj j h
      · rw [List.getElem?_eq_none (by omega), List.getElem?_eq_none (by rw [List.length_map]; omega)]
    · intro i hi ih y hy hj
      obtain ⟨K1, h1⟩ := h1 i hi
      obtain ⟨K2, h2⟩ := ih (y.set i (conv x[i])) (by rw [List.length_set]; exact hy) (fun j h => by
        rcases Nat.lt_or_ge j i with h3 | h3
        · rw [List.getElem?_set_ne (by omega)]
          exact hj j h3
        · have : j = i := by omega
          subst this
          rw [List.getElem?_set_self (by omega), List.getElem?_map, List.getElem?_eq_getElem hi]
          rfl)
      refine .succ ⟨K1 + K2, fun k hk => ?_⟩
      show F (k + 1) y (i : Int) = _
      rw [h1 k (by omega) y hy]
      exact h2 k (by omega)
  exact key y0 hy0 (fun j h => by omega)
/-- A measure that goes down a list. -/
theorem Evt.sz {F : Nat → Int → Int → Option Int} {n : Nat} {P : Nat → Prop} (h0 : ∀ k q, F (k + 1) q (n : Int) = some q)
    (h1 : ∀ i : Nat, i < n → ∀ q : Int, 0 ≤ q → q ≤ 1048576 → ∃ s : Int, s ≤ q ∧ (0 ≤ s → P i) ∧ ∃ K, ∀ k, K ≤ k → F (k + 1) q (i : Int) = if s < 0 then some (-1) else F k s ((i + 1 : Nat) : Int)) (q : Int) (hq : 0 ≤ q) (hq' : q ≤ 1048576) :
    ∃ s : Int, s ≤ q ∧ (0 ≤ s → ∀ i, i < n → P i) ∧ Evt (fun k => F k q 0) s := by
  have h := down (T := fun i => ∀ q : Int, 0 ≤ q → q ≤ 1048576 → ∃ s : Int, s ≤ q ∧ (0 ≤ s → ∀ j, i ≤ j → j < n → P j) ∧ Evt (fun k => F k q (i : Int)) s) (n := n) ?_ ?_ n 0 (by omega) q hq hq'
  · obtain ⟨s, a, b, c⟩ := h
    exact ⟨s, a, fun hs i hi => b hs i (by omega) hi, c⟩
  · intro q _ _
    exact ⟨q, Int.le_refl _, fun _ j h2 h3 => by omega, .succ (.const fun k => h0 k q)⟩
  · intro i hi ih q hq hq'
    obtain ⟨s, hs, hP, K, hK⟩ := h1 i hi q hq hq'
    by_cases hn : s < 0
    · refine ⟨-1, by omega, fun h => by omega, .succ ⟨K, fun k hk => ?_⟩⟩
      show F (k + 1) q (i : Int) = _
      rw [hK k hk, if_pos hn]
    · obtain ⟨u, hu, hU, K2, hK2⟩ := ih s (by omega) (by omega)
      refine ⟨u, by omega, fun h j h2 h3 => ?_, .succ ⟨K + K2, fun k hk => ?_⟩⟩
      · rcases Nat.lt_or_ge i j with h4 | h4
        · exact hU h j (by omega) h3
        · have : i = j := by omega
          subst this
          exact hP (by omega)
      · show F (k + 1) q (i : Int) = _
        rw [hK k (by omega), if_neg hn]
        exact hK2 k (by omega)
end Go.Proofs.YtlgndgjbfjefpaaW.PK
end
section
/- The pure law of FnConds: a condition holds just when its argument, masked, is so beside the value: of each pair that are unlike one holds. No conditions. -/
set_option linter.unusedSimpArgs false
set_option linter.unusedVariables false
set_option linter.unusedSectionVars false
namespace Go.Proofs.Ytlgndgjbfjefpaa.PFnConds
open Go Go.RowKit Go.Proofs.YtlgndgjbfjefpaaW.PrintWords Go.Proofs.YtlgndgjbfjefpaaW.PrintLast Go.Proofs.YtlgndgjbfjefpaaW.PK
theorem rd_nat48 (l:List S48) (i:Nat) (h:i<l.length):rd_T48 l (i:Int)=l[i]:=getD_lt _ h
theorem inS (a b c:Int):spec_l01In.f a b c=some (decide (b≤a∧a≤c)):=by
  unfold spec_l01In.f
  by_cases h:a≥b
  · rw[if_pos h]
    exact congrArg some (by rw[Bool.eq_iff_iff];simp;omega)
  · rw[if_neg h]
    exact congrArg some (by rw[Bool.eq_iff_iff];simp;omega)
theorem inI (a b c:Int):impl_within.f a b c=some (decide (b≤a∧a≤c)):=inS a b c
theorem halfS (a:Int):spec_HalfOk.f a=some (decide (0≤a∧a≤4294967295)):=by
  unfold spec_HalfOk.f
  rw[inS]
  rfl
theorem halfI (a:Int):impl_HalfOk.f a=some (decide (0≤a∧a≤4294967295)):=halfS a
theorem wideS (a b:Int):spec_WideOk.f a b=some (decide ((0≤a∧a≤4294967295)∧(0≤b∧b≤4294967295))):=by
  unfold spec_WideOk.f
  simp only[halfS,Option.bind_some,decide_eq_true_eq]
  split
  · rename_i h
    exact congrArg some (by rw[Bool.eq_iff_iff];simp[h])
  · rename_i h
    exact congrArg some (by rw[Bool.eq_iff_iff];simp[h])
theorem wideI (a b:Int):impl_WideOk.f a b=some (decide ((0≤a∧a≤4294967295)∧(0≤b∧b≤4294967295))):=wideS a b
theorem condS (a b c d e f:Int):spec_CondOk.f a b c d e f=some (decide ((0≤a∧a≤2)∧((0≤b∧b≤4294967295)∧(0≤c∧c≤4294967295))∧((0≤e∧e≤4294967295)∧(0≤f∧f≤4294967295))∧1≤d∧d≤6)):=by
  unfold spec_CondOk.f
  simp only[inS,wideS,Option.bind_some,decide_eq_true_eq]
  repeat' split
  all_goals (refine congrArg some ?_;rw[Bool.eq_iff_iff];simp only[Bool.false_eq_true,decide_eq_true_eq,false_iff])
  all_goals omega
theorem condI (a b c d e f:Int):impl_CondOk.f a b c d e f=some (decide ((0≤a∧a≤2)∧((0≤b∧b≤4294967295)∧(0≤c∧c≤4294967295))∧((0≤e∧e≤4294967295)∧(0≤f∧f≤4294967295))∧1≤d∧d≤6)):=condS a b c d e f
/-- A right call: halves, and three words. -/
theorem call_l0 (a b:Int) (l:List S48) (hn:l.length≤4611686018427387904): ∀ (d i:Nat),i+d=l.length→∃ r,(∀ k,d<k→spec_CallOk.l0 k (i:Int) a b l=some r)∧(∀ k,d<k→impl_CallOk.l0 k l (l.length:Int) (i:Int) a b l=some r)∧(r=true→l.length=3)
  | 0,i,hi=>by
    refine⟨decide ((0≤a∧a≤4294967295)∧(0≤b∧b≤4294967295)∧l.length=3),fun k hk=>?_,fun k hk=>?_,fun h=>(by simp at h;omega)⟩
    · obtain⟨k,rfl⟩ : ∃ m,k=m+1:=⟨k - 1,by omega⟩
      simp only[spec_CallOk.l0]
      rw[if_neg (by omega)]
      simp only[halfS,Option.bind_some,decide_eq_true_eq]
      repeat' split
      all_goals (refine congrArg some ?_;rw[Bool.eq_iff_iff];simp only[Bool.false_eq_true,decide_eq_true_eq,false_iff,beq_iff_eq])
      all_goals omega
    · obtain⟨k,rfl⟩ : ∃ m,k=m+1:=⟨k - 1,by omega⟩
      simp only[impl_CallOk.l0]
      rw[if_neg (by omega)]
      simp only[halfI,Option.bind_some,decide_eq_true_eq]
      repeat' split
      all_goals (refine congrArg some ?_;rw[Bool.eq_iff_iff];simp only[Bool.false_eq_true,decide_eq_true_eq,false_iff,beq_iff_eq])
      all_goals omega
  | d+1,i,hi=>by
    have hlt:i<l.length:=by omega
    obtain⟨r,hS,hI,hr⟩:=call_l0 a b l hn d (i+1) (by omega)
    by_cases hw:(0≤l[i].f0∧l[i].f0≤4294967295)∧(0≤l[i].f1∧l[i].f1≤4294967295)
    · refine⟨r,fun k hk=>?_,fun k hk=>?_,hr⟩
      · obtain⟨k,rfl⟩ : ∃ m,k=m+1:=⟨k - 1,by omega⟩
        simp only[spec_CallOk.l0]
        rw[if_pos (by omega),if_pos (by omega),rd_nat48 l i hlt,wsucc hlt (by omega),wideS]
        simp only[Option.bind_some,decide_eq_true_eq]
        rw[if_pos hw]
        exact hS k (by omega)
      · obtain⟨k,rfl⟩ : ∃ m,k=m+1:=⟨k - 1,by omega⟩
        simp only[impl_CallOk.l0]
        rw[if_pos (by omega),if_pos (by omega),if_pos (by omega),rd_nat48 l i hlt,wsucc hlt (by omega),wideI]
        simp only[Option.bind_some,decide_eq_true_eq]
        rw[if_pos hw]
        exact hI k (by omega)
    · refine⟨false,fun k hk=>?_,fun k hk=>?_,fun h=>by cases h⟩
      · obtain⟨k,rfl⟩ : ∃ m,k=m+1:=⟨k - 1,by omega⟩
        simp only[spec_CallOk.l0]
        rw[if_pos (by omega),if_pos (by omega),rd_nat48 l i hlt,wideS]
        simp only[Option.bind_some,decide_eq_true_eq]
        rw[if_neg hw]
      · obtain⟨k,rfl⟩ : ∃ m,k=m+1:=⟨k - 1,by omega⟩
        simp only[impl_CallOk.l0]
        rw[if_pos (by omega),if_pos (by omega),if_pos (by omega),rd_nat48 l i hlt,wideI]
        simp only[Option.bind_some,decide_eq_true_eq]
        rw[if_neg hw]
theorem call (a b:Int) (l:List S48) (hn:l.length≤4611686018427387904): ∃ r,(∀ k,l.length<k→spec_CallOk.f k a b l=some r)∧(∀ k,l.length<k→impl_CallOk.f k a b l=some r)∧(r=true→l.length=3):=call_l0 a b l hn l.length 0 (by omega)
theorem wcmp (a b c d:Int): ∃ t,spec_WideCmp.f a b c d=some t∧impl_WideCmp.f a b c d=some t:=by
  unfold spec_WideCmp.f impl_WideCmp.f spec_l04Cmp.f impl_compare.f
  by_cases h1:a<c
  · exact⟨-1,by simp[h1],by rw[if_neg (by omega)];simp[h1]⟩
  · by_cases h2:a>c
    · exact⟨1,by simp[h1,h2],by rw[if_neg (by omega)];simp[h1,h2]⟩
    · have h3:a=c:=by omega
      subst h3
      by_cases h4:b<d
      · exact⟨-1,by simp[h4],by simp[h4]⟩
      · by_cases h5:b>d
        · exact⟨1,by simp[h4,h5],by simp[h4,h5]⟩
        · exact⟨0,by simp[h4,h5],by simp[h4,h5]⟩
theorem wand (a b c d:Int): ∃ p,spec_WideAnd.f a b c d=some p∧impl_WideAnd.f a b c d=some p:=by
  have e:impl_WideAnd.f a b c d=spec_WideAnd.f a b c d:=rfl
  rw[e]
  unfold spec_WideAnd.f
  simp only[wideS,Option.bind_some]
  split
  · split
    · exact⟨_,rfl,rfl⟩
    · exact⟨_,rfl,rfl⟩
  · exact⟨_,rfl,rfl⟩
theorem holds (a0 a1 a2 a3 a4 a5 b0 b1:Int) (l:List S48) (hn:l.length≤4611686018427387904): ∃ r,(∀ k,l.length+1<k→spec_CondHolds.f k a0 a1 a2 a3 a4 a5 b0 b1 l=some r)∧(∀ k,l.length+1<k→impl_CondHolds.f k a0 a1 a2 a3 a4 a5 b0 b1 l=some r):=by
  obtain⟨q,qS,qI,hq⟩:=call b0 b1 l hn
  unfold spec_CondHolds.f impl_CondHolds.f
  simp only[condS,condI,Option.bind_some,decide_eq_true_eq]
  split
  · rename_i hc
    cases q with
    | false=>
      refine⟨false,fun k hk=>?_,fun k hk=>?_⟩
      · rw[qS k (by omega)]
        obtain⟨k,rfl⟩ : ∃ m,k=m+1:=⟨k - 1,by omega⟩
        simp[spec_CondHolds.j0]
      · rw[qI k (by omega)]
        obtain⟨k,rfl⟩ : ∃ m,k=m+1:=⟨k - 1,by omega⟩
        simp[impl_CondHolds.j0]
    | true=>
      have h3:=hq rfl
      obtain⟨p,pS,pI⟩:=wand (rd_T48 l a0).f0 (rd_T48 l a0).f1 a1 a2
      obtain⟨t,tS,tI⟩:=wcmp p.1 p.2 a4 a5
      have key: ∃ r,(if a3=1 then(some (t == 0))else(if a3=2 then(some (t !=0))else(if a3=3 then(some (decide (t<0)))else(if a3=4 then(some (decide (t≤0)))else(if a3=5 then(some (decide (t>0)))else(some (decide (t≥0))))))))=some r:=by
        repeat' split
        all_goals exact⟨_,rfl⟩
      obtain⟨r,hr⟩:=key
      refine⟨r,fun k hk=>?_,fun k hk=>?_⟩
      · rw[qS k (by omega)]
        obtain⟨k,rfl⟩ : ∃ m,k=m+1:=⟨k - 1,by omega⟩
        simp only[Option.bind_some,spec_CondHolds.j0,Bool.not_true,Bool.false_eq_true,if_false]
        rw[if_pos (by omega),if_pos (by omega),pS]
        simp only[Option.bind_some]
        rw[tS]
        exact hr
      · rw[qI k (by omega)]
        obtain⟨k,rfl⟩ : ∃ m,k=m+1:=⟨k - 1,by omega⟩
        simp only[Option.bind_some,impl_CondHolds.j0,Bool.not_true,Bool.false_eq_true,if_false]
        rw[if_pos (by omega),if_pos (by omega),pI]
        simp only[Option.bind_some]
        rw[tI]
        exact hr
  · refine⟨false,fun k hk=>?_,fun k hk=>?_⟩
    · obtain⟨k,rfl⟩ : ∃ m,k=m+1:=⟨k - 1,by omega⟩
      simp[spec_CondHolds.j0]
    · obtain⟨k,rfl⟩ : ∃ m,k=m+1:=⟨k - 1,by omega⟩
      simp[impl_CondHolds.j0]
theorem nrd_T50 (l:List (S50)) (i:Nat) (h:i<l.length):rd_T50 l (i:Int)=l[i]:=getD_lt _ h
theorem nrd (l:List Int) (i:Nat) (h:i<l.length):rd l (i:Int)=l[i]:=getD_lt _ h
theorem nums_in (x:List Int) (a:Int) (hn:x.length≤4611686018427387904): ∃ q:Int,True∧Evt (fun k=>slices_Index_int_int.f k x a) q:=by
  have h: ∀ (d i:Nat),i+d=x.length→∃ q:Int,Evt (fun k=>slices_Index_int_int.l0 k x a (x.length:Int) (i:Int)) q:=by
    intro d
    induction d with
    | zero=>
      intro i hi
      exact⟨-1,.succ (.const fun k=>by simp only[slices_Index_int_int.l0];rw[if_neg (by omega)])⟩
    | succ d ih=>
      intro i hi
      have hlt:i<x.length:=by omega
      by_cases h:a=x[i]
      · refine⟨(i:Int),.succ (.const fun k=>?_)⟩
        simp only[slices_Index_int_int.l0]
        rw[if_pos (by omega),if_pos (by omega),if_pos (by omega),nrd x i hlt,if_pos h]
      · obtain⟨q,K,hK⟩:=ih (i+1) (by omega)
        refine⟨q,.succ ⟨K,fun k hk=>?_⟩⟩
        have g:=hK k hk
        simp only[slices_Index_int_int.l0]
        rw[if_pos (by omega),if_pos (by omega),if_pos (by omega),nrd x i hlt,if_neg h,wsucc hlt (by omega)]
        exact g
  obtain⟨q,K,hK⟩:=h x.length 0 (by omega)
  exact⟨q,trivial,K,fun k hk=>hK k hk⟩
theorem and255 (x:Int):0≤Go.bits .and .i64 x 255∧Go.bits .and .i64 x 255≤255:=by
  have h:((BitVec.ofInt IntKind.i64.bits x) &&& (BitVec.ofInt IntKind.i64.bits 255)).toNat≤255:=by
    rw[BitVec.toNat_and]
    exact Nat.le_trans Nat.and_le_right (by decide)
  have e:Go.bits .and .i64 x 255=IntKind.i64.wrap ((((BitVec.ofInt IntKind.i64.bits x) &&& (BitVec.ofInt IntKind.i64.bits 255)).toNat:Nat):Int):=rfl
  rw[e,IntKind.wrap_i64]
  omega
theorem byte {s:List Int} (hs:s.length≤1048576) (p e:Int) (hp:0≤p): ∃ b p' e',spec_l01Byte.f s p e=some (b,p',e')∧(0≤b∧b≤255)∧0≤p':=by
  unfold spec_l01Byte.f
  by_cases h:p<(s.length:Int)
  · rw[if_pos h,if_pos hp]
    exact⟨_,_,_,rfl,and255 _,by rw[w64 (by omega) (by omega)];omega⟩
  · rw[if_neg h]
    exact⟨_,_,_,rfl,and255 _,hp⟩
theorem below {s:List Int} (hs:s.length≤1048576) (p e:Int) (hp:0≤p) (n:Int) (h1:1≤n) (h2:n≤256): ∃ r p' e',spec_l01Below.f s p e n=some (r,p',e')∧(0≤r∧r<n)∧0≤p':=by
  obtain⟨b,p',e',hb,hr,hp'⟩:=byte hs p e hp
  unfold spec_l01Below.f
  rw[if_neg (by omega),if_pos h2,hb]
  simp only[Option.bind_some]
  rw[if_neg (by omega)]
  refine⟨_,_,_,rfl,?_,hp'⟩
  rw[Int.tmod_eq_emod_of_nonneg hr.1]
  exact⟨Int.emod_nonneg _ (by omega),Int.emod_lt_of_pos _ (by omega)⟩
theorem once {s:List Int} (hs:s.length≤1048576) (p e:Int) (hp:0≤p) (n:Int) (h1:1≤n) (h2:n≤256): ∃ r p' e',spec_l01Once.f s p e n=some (r,p',e')∧0≤p':=by
  obtain⟨r,p',e',h,_,hp'⟩:=below hs p e hp n h1 h2
  exact⟨_,p',e',by unfold spec_l01Once.f;rw[h];rfl,hp'⟩
theorem pick {s:List Int} (hs:s.length≤1048576) (p e:Int) (hp:0≤p) (l:List Int) (h1:1≤(l.length:Int)) (h2:(l.length:Int)≤256): ∃ v p' e',spec_l01PickInt.f s p e l=some (v,p',e')∧v ∈ l∧0≤p':=by
  obtain⟨r,p',e',h,hr,hp'⟩:=below hs p e hp _ h1 h2
  refine⟨rd l r,p',e',by unfold spec_l01PickInt.f;rw[h];simp only[Option.bind_some];rw[if_pos hr.1,if_pos hr.2],?_,hp'⟩
  obtain⟨i,rfl⟩:=Int.eq_ofNat_of_zero_le hr.1
  have hi:i<l.length:=by omega
  have e:rd l (i:Int)=l[i]:=getD_lt _ hi
  rw[e]
  exact List.getElem_mem hi
theorem half {s:List Int} (hs:s.length≤1048576) (p e:Int) (hp:0≤p): ∃ v p' e',spec_l04Half.f s p e=some (v,p',e')∧(0≤v∧v≤4294967295)∧0≤p':=by
  obtain⟨r,p1,e1,h,hr,hp1⟩:=below hs p e hp 12 (by omega) (by omega)
  obtain⟨v,p2,e2,g,hv,hp2⟩:=pick hs p1 e1 hp1 [0,1,2,3,5,7,255,4294967295,2147483648,r] (by simp) (by simp)
  refine⟨v,p2,e2,by unfold spec_l04Half.f;rw[h];simp only[Option.bind_some];rw[g];rfl,?_,hp2⟩
  simp only[List.mem_cons,List.not_mem_nil,or_false]at hv
  omega
theorem wide {s:List Int} (hs:s.length≤1048576) (p e:Int) (hp:0≤p): ∃ a b p' e',spec_l04Wide.f s p e=some (a,b,p',e')∧((0≤a∧a≤4294967295)∧(0≤b∧b≤4294967295))∧0≤p':=by
  obtain⟨r,p1,e1,h,hr,hp1⟩:=half hs p e hp
  obtain⟨b,p2,e2,g,hp2⟩:=once hs p1 e1 hp1 3 (by omega) (by omega)
  unfold spec_l04Wide.f
  rw[h]
  simp only[Option.bind_some]
  rw[g]
  simp only[Option.bind_some]
  cases b with
  | true=>
    obtain⟨q,p3,e3,f,hq,hp3⟩:=half hs p2 e2 hp2
    rw[if_pos rfl,f]
    exact⟨_,_,_,_,rfl,⟨hq,hr⟩,hp3⟩
  | false=>
    rw[if_neg (by simp)]
    exact⟨_,_,_,_,rfl,⟨by omega,hr⟩,hp2⟩
theorem drawCond {s:List Int} (hs:s.length≤1048576) (p e:Int) (hp:0≤p): ∃ a b c d f g p' e',spec_l09Cond.f s p e=some (a,b,c,d,f,g,p',e')∧((0≤a∧a≤2)∧((0≤b∧b≤4294967295)∧(0≤c∧c≤4294967295))∧((0≤f∧f≤4294967295)∧(0≤g∧g≤4294967295))∧1≤d∧d≤6)∧0≤p':=by
  obtain⟨a,p1,e1,h1,ha,hp1⟩:=below hs p e hp 3 (by omega) (by omega)
  obtain⟨d,p2,e2,h2,hd,hp2⟩:=below hs p1 e1 hp1 6 (by omega) (by omega)
  obtain⟨f,g,p3,e3,h3,hf,hp3⟩:=wide hs p2 e2 hp2
  obtain⟨o,p4,e4,h4,hp4⟩:=once hs p3 e3 hp3 3 (by omega) (by omega)
  have ed:wrap64 (1+d)=1+d:=w64 (by omega) (by omega)
  unfold spec_l09Cond.f
  rw[h1]
  simp only[Option.bind_some]
  rw[h2]
  simp only[Option.bind_some]
  rw[h3]
  simp only[Option.bind_some]
  rw[h4]
  simp only[Option.bind_some,ed]
  cases o with
  | true=>
    obtain⟨b,c,p5,e5,h5,hb,hp5⟩:=wide hs p4 e4 hp4
    rw[if_pos rfl,h5]
    exact⟨_,_,_,_,_,_,_,_,rfl,⟨by omega,hb,hf,by omega⟩,hp5⟩
  | false=>
    rw[if_neg (by simp)]
    exact⟨_,_,_,_,_,_,_,_,rfl,⟨by omega,⟨by omega,by omega⟩,hf,by omega⟩,hp4⟩
theorem newC (l:List Int) (hl:l.length≤1048576): ∃ e,Evt (fun k=>spec_l01New.f k l) (l,0,e):=by
  have key: ∀ (d i:Nat) (e:Int),i+d=l.length→∃ e',Evt (fun k=>spec_l01New.l0 k l e (i:Int)) (l,0,e'):=by
    intro d
    induction d with
    | zero=>
      intro i e h
      exact⟨e,.succ (.const fun k=>by simp only[spec_l01New.l0];rw[if_neg (by omega)])⟩
    | succ d ih=>
      intro i e h
      by_cases h4:(i:Int)<4000
      · obtain⟨e',K,hK⟩:=ih (i+1) (Go.bits .and .i64 (wrap64 ((wrap64 ((wrap64 (e*131))+(wrap64 (rd l (i:Int)))))+7)) 1073741823) (by omega)
        refine⟨e',.succ ⟨K,fun k hk=>?_⟩⟩
        simp only[spec_l01New.l0]
        rw[if_pos (by omega),if_pos h4,if_pos (by omega),wsucc (show i<l.length by omega) (by omega)]
        exact hK k hk
      · exact⟨e,.succ (.const fun k=>by simp only[spec_l01New.l0];rw[if_pos (by omega),if_neg h4])⟩
  exact key l.length 0 _ (by omega)
theorem drawCondOk (l:List Int) (hl:l.length≤1048576): ∃ a b c d e f,Evt (fun k=>spec_DrawCondOk.f k l) (a,b,c,d,e,f):=by
  obtain⟨e0,K,h0⟩:=newC l hl
  dsimp only at h0
  obtain⟨t,p1,e1,h1,ht,hp1⟩:=below hl 0 e0 (by omega) 8 (by omega) (by omega)
  obtain⟨a,b,c,d,f,g,p2,e2,h2,_,hp2⟩:=drawCond hl p1 e1 hp1
  obtain⟨u,p3,e3,h3,_,_⟩:=below hl p2 e2 hp2 5 (by omega) (by omega)
  obtain⟨v,p4,e4,h4,_,_⟩:=below hl p2 e2 hp2 9 (by omega) (by omega)
  have key: ∀ k,K≤k→spec_DrawCondOk.f k l=(if t=0 then some (wrap64 (u - 1),b,c,d,f,g)else if t=1 then some (a,b,c,v,f,g)else if t=2 then some (a,-1,c,d,f,g)else if t=3 then some (a,b,c,d,f,4294967296)else some (a,b,c,d,f,g)):=fun k hk=>by
    simp only[spec_DrawCondOk.f,h0 k hk,Option.bind_some,h1,h2,h3,h4]
  by_cases c0:t=0
  · exact⟨_,_,_,_,_,_,K,fun k hk=>(key k hk).trans (by rw[if_pos c0])⟩
  by_cases c1:t=1
  · exact⟨_,_,_,_,_,_,K,fun k hk=>(key k hk).trans (by rw[if_neg c0,if_pos c1])⟩
  by_cases c2:t=2
  · exact⟨_,_,_,_,_,_,K,fun k hk=>(key k hk).trans (by rw[if_neg c0,if_neg c1,if_pos c2])⟩
  by_cases c3:t=3
  · exact⟨_,_,_,_,_,_,K,fun k hk=>(key k hk).trans (by rw[if_neg c0,if_neg c1,if_neg c2,if_pos c3])⟩
  exact⟨_,_,_,_,_,_,K,fun k hk=>(key k hk).trans (by rw[if_neg c0,if_neg c1,if_neg c2,if_neg c3])⟩
/-- A right condition. -/
def CondR (y:S50):Prop:=(0≤y.f0∧y.f0≤2)∧((0≤y.f1.f0∧y.f1.f0≤4294967295)∧(0≤y.f1.f1∧y.f1.f1≤4294967295))∧((0≤y.f3.f0∧y.f3.f0≤4294967295)∧(0≤y.f3.f1∧y.f3.f1≤4294967295))∧1≤y.f2∧y.f2≤6
/-- Numbers that go up, each a half. -/
def NumsR (x:List Int):Prop:=(∀ i (h:i<x.length),0≤x[i]∧x[i]≤4294967295)∧∀ i (h:i+1<x.length),x[i]<x[i+1]
/-- A right rule. -/
def RuleR (x:List Int) (l:List S50) (a b:Int):Prop:=NumsR x∧(∀ y ∈ l,CondR y)∧x.length≤4∧l.length≤3∧(0≤a∧a≤5)∧(0≤b∧b≤65535)
theorem nums_up {x:List Int} {t v:Int} (h:NumsR x) (ht: ∀ i (hi:i<x.length),x[i]<t) (hv:t≤v) (h0:0≤v) (h1:v≤4294967295):NumsR (x ++ [v]):=by
  refine⟨fun i hi=>?_,fun i hi=>?_⟩
  · rw[List.getElem_append]
    split
    · exact h.1 i _
    · simp only[List.getElem_singleton]
      exact⟨h0,h1⟩
  · rw[List.getElem_append,List.getElem_append]
    rw[List.length_append,List.length_singleton]at hi
    have h2:i<x.length:=by omega
    rw[dif_pos h2]
    split
    · rename_i h3
      exact h.2 i h3
    · simp only[List.getElem_singleton]
      have:=ht i h2
      omega
theorem madeR_l1 {s:List Int} (hs:s.length≤1048576) (nums:List Int) (a b:Int): ∀ (d i:Nat) (p e:Int) (l:List S50),i+d=3→0≤p→l.length=i→i≤2→(∀ y ∈ l,CondR y)→∃ R p' e',Evt (fun k=>spec_l09Made.l1 k (i:Int) s p e nums l a b) (nums,R,a,b,p',e')∧R.length≤2∧(∀ y ∈ R,CondR y)∧0≤p':=by
  intro d
  induction d with
  | zero=>
    intro i p e l hi hp hl hi2
    omega
  | succ d ih=>
    intro i p e l hi hp hl hi2 hc
    obtain⟨r,p1,e1,h1,hr,hp1⟩:=below hs p e hp 3 (by omega) (by omega)
    by_cases hlt:(i:Int)<r
    · obtain⟨a1,b1,c1,d1,f1,g1,p2,e2,h2,hw,hp2⟩:=drawCond hs p1 e1 hp1
      obtain⟨R,p',e',⟨K,h⟩,hR,hcR,hp'⟩:=ih (i+1) p2 e2 (l ++ [⟨a1,⟨b1,c1⟩,d1,⟨f1,g1⟩⟩]) (by omega) hp2 (by simp;omega) (by omega) (fun y hy=>by
        rcases List.mem_append.1 hy with hy|hy
        · exact hc y hy
        · rw[List.mem_singleton]at hy
          subst hy
          exact hw)
      refine⟨R,p',e',.succ ⟨K,fun k hk=>?_⟩,hR,hcR,hp'⟩
      have q:=h k hk
      simp only[spec_l09Made.l1,h1,Option.bind_some]
      rw[if_pos hlt]
      simp only[h2,Option.bind_some]
      rw[if_pos (by omega),wsucc (show i<3 by omega) (by omega)]
      exact q
    · refine⟨l,p1,e1,.succ (.const fun k=>?_),by omega,hc,hp1⟩
      simp only[spec_l09Made.l1,h1,Option.bind_some]
      rw[if_neg hlt]
theorem madeR_l0 {s:List Int} (hs:s.length≤1048576) (n:Int) (hn:n≤2) (a b:Int): ∀ (d i:Nat) (t p e:Int) (nums:List Int),i+d=3→0≤p→nums.length=i→NumsR nums→(∀ j (hj:j<nums.length),nums[j]<t)→0≤t→t≤3*i→∃ N R p' e',Evt (fun k=>spec_l09Made.l0 k n t (i:Int) s p e nums a b) (N,R,a,b,p',e')∧NumsR N∧N.length≤3∧R.length≤2∧(∀ y ∈ R,CondR y)∧0≤p':=by
  have fin: ∀ (t p e:Int) (i:Nat) (nums:List Int),¬ (i:Int)<n→0≤p→nums.length≤3→NumsR nums→∃ N R p' e',Evt (fun k=>spec_l09Made.l0 k n t (i:Int) s p e nums a b) (N,R,a,b,p',e')∧NumsR N∧N.length≤3∧R.length≤2∧(∀ y ∈ R,CondR y)∧0≤p':=fun t p e i nums hi hp hm hN=>by
    obtain⟨R,p',e',⟨K,h⟩,hR,hc,hp'⟩:=madeR_l1 hs nums a b 3 0 p e [] (by omega) hp rfl (by omega) (fun y hy=>by simp at hy)
    refine⟨nums,R,p',e',.succ ⟨K,fun k hk=>?_⟩,hN,hm,hR,hc,hp'⟩
    have q:=h k hk
    simp only[spec_l09Made.l0]
    rw[if_neg hi]
    exact q
  intro d
  induction d with
  | zero=>
    intro i t p e nums hi hp hm hN ht h0 h3
    exact fin t p e i nums (by omega) hp (by omega) hN
  | succ d ih=>
    intro i t p e nums hi hp hm hN ht h0 h3
    by_cases hc:(i:Int)<n
    · obtain⟨r,p1,e1,h1,hr,hp1⟩:=below hs p e hp 3 (by omega) (by omega)
      have et:Aside0 (wrap64 ((wrap64 (t+1))+r)=t+1+r):=⟨by rw[w64 (x:=t+1) (by omega) (by omega),w64 (by omega) (by omega)]⟩
      have ev:Aside0 (wrap64 (t+1+r - 1)=t+r):=⟨by rw[w64 (by omega) (by omega)];omega⟩
      obtain⟨N,R,p',e',⟨K,h⟩,hN'⟩:=ih (i+1) (t+1+r) p1 e1 (nums ++ [t+r]) (by omega) hp1 (by simp;omega) (nums_up hN ht (by omega) (by omega) (by omega)) (fun j hj=>by
        rw[List.getElem_append]
        split
        · have:=ht j ‹_›
          omega
        · simp only[List.getElem_singleton]
          omega) (by omega) (by omega)
      refine⟨N,R,p',e',.succ ⟨K,fun k hk=>?_⟩,hN'⟩
      have q:=h k hk
      simp only[spec_l09Made.l0]
      rw[if_pos hc]
      simp only[h1,Option.bind_some]
      rw[if_pos (by omega),et.out,ev.out,wsucc (show i<3 by omega) (by omega)]
      exact q
    · exact fin t p e i nums hc hp (by omega) hN
theorem madeR_j0 {s:List Int} (hs:s.length≤1048576) (p e a b:Int) (hp:0≤p): ∃ N R p' e',Evt (fun k=>spec_l09Made.j0 k s p e a b) (N,R,a,b,p',e')∧NumsR N∧N.length≤3∧R.length≤2∧(∀ y ∈ R,CondR y)∧0≤p':=by
  obtain⟨r,p1,e1,h1,hr,hp1⟩:=below hs p e hp 4 (by omega) (by omega)
  have er:wrap64 (r - 1)=r - 1:=w64 (by omega) (by omega)
  obtain⟨N,R,p',e',⟨K,h⟩,hN⟩:=madeR_l0 hs (r - 1) (by omega) a b 3 0 0 p1 e1 [] (by omega) hp1 rfl ⟨fun i hi=>absurd hi (by simp),fun i hi=>absurd hi (by simp)⟩ (fun j hj=>absurd hj (by simp)) (by omega) (by omega)
  refine⟨N,R,p',e',.succ ⟨K,fun k hk=>?_⟩,hN⟩
  have q:=h k hk
  simp only[spec_l09Made.j0,h1,Option.bind_some,er]
  exact q
/-- A drawn rule is right. -/
theorem madeR {s:List Int} (hs:s.length≤1048576) (p e:Int) (hp:0≤p): ∃ N R a b p' e',Evt (fun k=>spec_l09Made.f k s p e) (N,R,a,b,p',e')∧RuleR N R a b∧N.length≤3∧R.length≤2∧0≤p':=by
  obtain⟨a,p1,e1,h1,ha,hp1⟩:=pick hs p e hp [0,1,2,3,4,4,5] (by simp) (by simp)
  simp only[List.mem_cons,List.not_mem_nil,or_false]at ha
  by_cases h2:a=2
  · obtain⟨b,p2,e2,g1,hb,hp2⟩:=pick hs p1 e1 hp1 [1,13,65535] (by simp) (by simp)
    simp only[List.mem_cons,List.not_mem_nil,or_false]at hb
    obtain⟨N,R,p',e',⟨K,h⟩,hN,hN3,hR,hc,hp'⟩:=madeR_j0 hs p2 e2 a b hp2
    refine⟨N,R,a,b,p',e',⟨K,fun k hk=>?_⟩,⟨hN,hc,by omega,by omega,by omega,by omega⟩,hN3,hR,hp'⟩
    have q:=h k hk
    simp only[spec_l09Made.f,h1,Option.bind_some]
    rw[if_pos h2]
    simp only[g1,Option.bind_some]
    exact q
  · obtain⟨N,R,p',e',⟨K,h⟩,hN,hN3,hR,hc,hp'⟩:=madeR_j0 hs p1 e1 a 0 hp1
    refine⟨N,R,a,0,p',e',⟨K,fun k hk=>?_⟩,⟨hN,hc,by omega,by omega,by omega,by omega⟩,hN3,hR,hp'⟩
    have q:=h k hk
    simp only[spec_l09Made.f,h1,Option.bind_some]
    rw[if_neg h2]
    exact q
/-- A drawn call is right. -/
def WideR (y:S48):Prop:=(0≤y.f0∧y.f0≤4294967295)∧(0≤y.f1∧y.f1≤4294967295)
theorem callR_l0 {s:List Int} (hs:s.length≤1048576) (a b:Int): ∀ (d i:Nat) (p e:Int) (w:List S48),i+d=3→0≤p→w.length=i→(∀ y ∈ w,WideR y)→∃ W p' e',Evt (fun k=>spec_l04Call.l0 k (i:Int) s p e a b w) (a,b,W,p',e')∧W.length=3∧(∀ y ∈ W,WideR y)∧0≤p':=by
  intro d
  induction d with
  | zero=>
    intro i p e w hi hp hw hc
    refine⟨w,p,e,.succ (.const fun k=>?_),by omega,hc,hp⟩
    simp only[spec_l04Call.l0]
    rw[if_neg (by omega)]
  | succ d ih=>
    intro i p e w hi hp hw hc
    obtain⟨x,y,p1,e1,h1,hx,hp1⟩:=wide hs p e hp
    obtain⟨W,p',e',⟨K,h⟩,hW⟩:=ih (i+1) p1 e1 (w ++ [⟨x,y⟩]) (by omega) hp1 (by simp;omega) (fun z hz=>by
      rcases List.mem_append.1 hz with hz|hz
      · exact hc z hz
      · rw[List.mem_singleton]at hz
        subst hz
        exact hx)
    refine⟨W,p',e',.succ ⟨K,fun k hk=>?_⟩,hW⟩
    have q:=h k hk
    simp only[spec_l04Call.l0,h1,Option.bind_some]
    rw[if_pos (by omega),if_pos (by omega),wsucc (show i<3 by omega) (by omega)]
    exact q
theorem callR {s:List Int} (hs:s.length≤1048576) (p e:Int) (hp:0≤p): ∃ a b W p' e',Evt (fun k=>spec_l04Call.f k s p e) (a,b,W,p',e')∧((0≤a∧a≤4294967295)∧(0≤b∧b≤4294967295)∧W.length=3∧∀ y ∈ W,WideR y)∧0≤p':=by
  obtain⟨a,p1,e1,h1,ha,hp1⟩:=pick hs p e hp [62,62,62,62,3] (by simp) (by simp)
  obtain⟨b,p2,e2,h2,hb,hp2⟩:=pick hs p1 e1 hp1 [0,1,2,3,4,6,9,11,4294967295,77] (by simp) (by simp)
  simp only[List.mem_cons,List.not_mem_nil,or_false]at ha hb
  obtain⟨W,p',e',⟨K,h⟩,hW3,hW,hp'⟩:=callR_l0 hs a b 3 0 p2 e2 [] (by omega) hp2 rfl (fun y hy=>by simp at hy)
  refine⟨a,b,W,p',e',⟨K,fun k hk=>?_⟩,⟨by omega,by omega,hW3,hW⟩,hp'⟩
  have q:=h k hk
  simp only[spec_l04Call.f,h1,h2,Option.bind_some]
  exact q
/-- A drawn call, right or not. -/
theorem anyC {s:List Int} (hs:s.length≤1048576) (p e:Int) (hp:0≤p): ∃ a b W p' e',Evt (fun k=>spec_l04Any.f k s p e) (a,b,W,p',e')∧W.length≤3∧0≤p':=by
  obtain⟨t,p1,e1,h1,ht,hp1⟩:=below hs p e hp 10 (by omega) (by omega)
  obtain⟨a,b,W,p2,e2,⟨K,h2⟩,⟨ha,hb,hW,_⟩,hp2⟩:=callR hs p1 e1 hp1
  obtain⟨v,p3,e3,h3,hv,hp3⟩:=pick hs p2 e2 hp2 [(-1),4294967296] (by simp) (by simp)
  by_cases c0:t=0
  · refine⟨a,v,W,p3,e3,⟨K,fun k hk=>?_⟩,by omega,hp3⟩
    have g2:=h2 k hk
    simp only[spec_l04Any.f,h1,g2,Option.bind_some,h3]
    rw[if_pos c0]
  by_cases c1:t=1
  · refine⟨a,b,W.drop (1:Int).toNat,p2,e2,⟨K,fun k hk=>?_⟩,by rw[List.length_drop];omega,hp2⟩
    have g2:=h2 k hk
    simp only[spec_l04Any.f,h1,g2,Option.bind_some]
    rw[if_neg c0,if_pos c1,if_pos (by omega)]
  by_cases c2:t=2
  · refine⟨a,b,W.set (1:Int).toNat ⟨-1,(rd_T48 W 1).f1⟩,p2,e2,⟨K,fun k hk=>?_⟩,by rw[List.length_set];omega,hp2⟩
    have g2:=h2 k hk
    simp only[spec_l04Any.f,h1,g2,Option.bind_some]
    rw[if_neg c0,if_neg c1,if_pos c2,if_pos (by omega)]
  by_cases c3:t=3
  · refine⟨4294967296,b,W,p2,e2,⟨K,fun k hk=>?_⟩,by omega,hp2⟩
    have g2:=h2 k hk
    simp only[spec_l04Any.f,h1,g2,Option.bind_some]
    rw[if_neg c0,if_neg c1,if_neg c2,if_pos c3]
  · refine⟨a,b,W,p2,e2,⟨K,fun k hk=>?_⟩,by omega,hp2⟩
    have g2:=h2 k hk
    simp only[spec_l04Any.f,h1,g2,Option.bind_some]
    rw[if_neg c0,if_neg c1,if_neg c2,if_neg c3]
theorem callT (a b:Int) (l:List S48) (ha:0≤a∧a≤4294967295) (hb:0≤b∧b≤4294967295) (hl:l.length=3) (hw: ∀ y ∈ l,WideR y): ∀ k,4≤k→impl_CallOk.f k a b l=some true:=by
  have key: ∀ (d i:Nat),i+d=3→∀ k,d<k→impl_CallOk.l0 k l (l.length:Int) (i:Int) a b l=some true:=by
    intro d
    induction d with
    | zero=>
      intro i hi k hk
      obtain⟨k,rfl⟩ : ∃ m,k=m+1:=⟨k - 1,by omega⟩
      simp only[impl_CallOk.l0]
      rw[if_neg (by omega)]
      simp only[halfI,Option.bind_some]
      rw[decide_eq_true ha,if_pos rfl,decide_eq_true hb,if_pos rfl,hl]
      rfl
    | succ d ih=>
      intro i hi k hk
      obtain⟨k,rfl⟩ : ∃ m,k=m+1:=⟨k - 1,by omega⟩
      have hlt:i<l.length:=by omega
      have h:(0≤l[i].f0∧l[i].f0≤4294967295)∧(0≤l[i].f1∧l[i].f1≤4294967295):=hw l[i] (List.getElem_mem hlt)
      have q:=ih (i+1) (by omega) k (by omega)
      simp only[impl_CallOk.l0]
      rw[if_pos (by omega),if_pos (by omega),if_pos (by omega),rd_nat48 l i hlt,wsucc hlt (by omega),wideI]
      simp only[Option.bind_some,decide_eq_true_eq]
      rw[if_pos h]
      exact q
  intro k hk
  exact key 3 0 (by omega) k (by omega)
theorem and_r (a b:Int) (hb:0≤b∧b≤4294967295):0≤Go.bits .and .i64 a b∧Go.bits .and .i64 a b≤4294967295:=by
  have h:((BitVec.ofInt IntKind.i64.bits a) &&& (BitVec.ofInt IntKind.i64.bits b)).toNat≤4294967295:=by
    rw[BitVec.toNat_and]
    refine Nat.le_trans Nat.and_le_right ?_
    obtain⟨n,rfl⟩:=Int.eq_ofNat_of_zero_le hb.1
    rw[BitVec.ofInt_natCast,BitVec.toNat_ofNat]
    exact Nat.le_trans (Nat.mod_le _ _) (by omega)
  have e:Go.bits .and .i64 a b=IntKind.i64.wrap ((((BitVec.ofInt IntKind.i64.bits a) &&& (BitVec.ofInt IntKind.i64.bits b)).toNat:Nat):Int):=rfl
  rw[e,IntKind.wrap_i64]
  omega
theorem wandR (a b c d:Int) (hc:0≤c∧c≤4294967295) (hd:0≤d∧d≤4294967295): ∃ p:Int×Int,spec_WideAnd.f a b c d=some p∧impl_WideAnd.f a b c d=some p∧((0≤p.1∧p.1≤4294967295)∧(0≤p.2∧p.2≤4294967295)):=by
  have e:impl_WideAnd.f a b c d=spec_WideAnd.f a b c d:=rfl
  rw[e]
  unfold spec_WideAnd.f
  simp only[wideS,Option.bind_some]
  split
  · split
    · exact⟨_,rfl,rfl,and_r a c hc,and_r b d hd⟩
    · exact⟨_,rfl,rfl,by simp⟩
  · exact⟨_,rfl,rfl,by simp⟩
/-- What a right condition tells of a right call. -/
def tells (m t:Int):Bool:=if m=1 then t == 0 else if m=2 then t !=0 else if m=3 then decide (t<0)else if m=4 then decide (t≤0)else if m=5 then decide (t>0)else decide (t≥0)
theorem holdsT (a0 a1 a2 a3 a4 a5 b0 b1:Int) (w:List S48) (hc:(0≤a0∧a0≤2)∧((0≤a1∧a1≤4294967295)∧(0≤a2∧a2≤4294967295))∧((0≤a4∧a4≤4294967295)∧(0≤a5∧a5≤4294967295))∧1≤a3∧a3≤6) (hcall: ∀ k,4≤k→impl_CallOk.f k b0 b1 w=some true) (hw:w.length=3) (p:Int×Int) (t:Int)
    (hp:impl_WideAnd.f (rd_T48 w a0).f0 (rd_T48 w a0).f1 a1 a2=some p) (ht:impl_WideCmp.f p.1 p.2 a4 a5=some t): ∀ k,5≤k→impl_CondHolds.f k a0 a1 a2 a3 a4 a5 b0 b1 w=some (tells a3 t):=fun k hk=>by
  obtain⟨k,rfl⟩ : ∃ m,k=m+1:=⟨k - 1,by omega⟩
  simp only[impl_CondHolds.f,condI,Option.bind_some,decide_eq_true_eq]
  rw[if_pos hc,hcall (k+1) (by omega)]
  simp only[Option.bind_some,impl_CondHolds.j0,Bool.not_true,Bool.false_eq_true,if_false]
  rw[if_pos (by omega),if_pos (by omega),hp]
  simp only[Option.bind_some,ht]
  unfold tells
  repeat' split
  all_goals rfl
theorem drawCondHolds (l:List Int) (hl:l.length≤1048576): ∃ a0 a1 a2 a3 a4 a5 b0 b1 w,Evt (fun k=>spec_DrawCondHolds.f k l) (a0,a1,a2,a3,a4,a5,b0,b1,w)∧w.length≤3:=by
  obtain⟨e0,K0,h0⟩:=newC l hl
  obtain⟨b0,b1,w,p1,e1,⟨K1,h1⟩,hw,hp1⟩:=anyC hl 0 e0 (by omega)
  obtain⟨a0,a1,a2,a3,a4,a5,K2,h2⟩:=drawCondOk l hl
  obtain⟨o,p2,e2,h3,_⟩:=once hl p1 e1 hp1 3 (by omega) (by omega)
  obtain⟨q,q1,_,q3⟩:=call b0 b1 w (by omega)
  dsimp only at h0 h1 h2
  have plain:(∀ k,K0+K1+K2+10≤k→spec_DrawCondHolds.f k l=some (a0,a1,a2,a3,a4,a5,b0,b1,w))→∃ a0 a1 a2 a3 a4 a5 b0 b1 w,Evt (fun k=>spec_DrawCondHolds.f k l) (a0,a1,a2,a3,a4,a5,b0,b1,w)∧w.length≤3:=fun h=>⟨a0,a1,a2,a3,a4,a5,b0,b1,w,⟨_,h⟩,hw⟩
  have head: ∀ k,K0+K1+K2+10≤k→spec_l01New.f k l=some (l,0,e0)∧spec_l04Any.f k l 0 e0=some (b0,b1,w,p1,e1)∧spec_DrawCondOk.f k l=some (a0,a1,a2,a3,a4,a5)∧spec_CallOk.f k b0 b1 w=some q:=fun k hk=>⟨h0 k (by omega),h1 k (by omega),h2 k (by omega),q1 k (by omega)⟩
  by_cases c1:(w.length:Int)>0
  · cases o with
    | true=>
      by_cases c2:(0≤a0∧a0≤2)∧((0≤a1∧a1≤4294967295)∧(0≤a2∧a2≤4294967295))∧((0≤a4∧a4≤4294967295)∧(0≤a5∧a5≤4294967295))∧1≤a3∧a3≤6
      · cases q with
        | true=>
          have hw3:=q3 rfl
          obtain⟨p,gp,_⟩:=wand (rd_T48 w a0).f0 (rd_T48 w a0).f1 a1 a2
          refine⟨a0,a1,a2,a3,p.1,p.2,b0,b1,w,⟨K0+K1+K2+10,fun k hk=>?_⟩,hw⟩
          obtain⟨g0,g1,g2,g3⟩:=head k hk
          simp only[spec_DrawCondHolds.f,g0,g1,g2,g3,h3,Option.bind_some,if_true,condS,decide_eq_true_eq]
          rw[if_pos c1,if_pos c2,if_pos (by omega),if_pos (by omega),gp]
          rfl
        | false=>
          refine plain fun k hk=>?_
          obtain⟨g0,g1,g2,g3⟩:=head k hk
          simp only[spec_DrawCondHolds.f,g0,g1,g2,g3,h3,Option.bind_some,if_true,condS,decide_eq_true_eq,Bool.false_eq_true,if_false]
          rw[if_pos c1,if_pos c2]
      · refine plain fun k hk=>?_
        obtain⟨g0,g1,g2,g3⟩:=head k hk
        simp only[spec_DrawCondHolds.f,g0,g1,g2,h3,Option.bind_some,if_true,condS,decide_eq_true_eq]
        rw[if_pos c1,if_neg c2]
    | false=>
      refine plain fun k hk=>?_
      obtain⟨g0,g1,g2,g3⟩:=head k hk
      simp only[spec_DrawCondHolds.f,g0,g1,g2,h3,Option.bind_some,Bool.false_eq_true,if_false]
      rw[if_pos c1]
  · refine plain fun k hk=>?_
    obtain⟨g0,g1,g2,g3⟩:=head k hk
    simp only[spec_DrawCondHolds.f,g0,g1,g2,Option.bind_some]
    rw[if_neg c1]
/-- A right condition, and a right call. -/
theorem drawCondC (l:List Int) (hl:l.length≤1048576): ∃ a0 a1 a2 a3 a4 a5 b0 b1 w,Evt (fun k=>spec_DrawCond.f k l) (a0,a1,a2,a3,a4,a5,b0,b1,w)∧((0≤a0∧a0≤2)∧((0≤a1∧a1≤4294967295)∧(0≤a2∧a2≤4294967295))∧((0≤a4∧a4≤4294967295)∧(0≤a5∧a5≤4294967295))∧1≤a3∧a3≤6)∧(0≤b0∧b0≤4294967295)∧(0≤b1∧b1≤4294967295)∧w.length=3∧∀ y ∈ w,WideR y:=by
  obtain⟨e0,K0,h0⟩:=newC l hl
  obtain⟨a0,a1,a2,a3,a4,a5,p1,e1,h1,hc,hp1⟩:=drawCond hl 0 e0 (by omega)
  obtain⟨b0,b1,w,p2,e2,⟨K2,h2⟩,⟨hb0,hb1,hw,hww⟩,hp2⟩:=callR hl p1 e1 hp1
  obtain⟨o,p3,e3,h3,_⟩:=once hl p2 e2 hp2 3 (by omega) (by omega)
  dsimp only at h0 h2
  cases o with
  | true=>
    obtain⟨p,gp,_,gr⟩:=wandR (rd_T48 w a0).f0 (rd_T48 w a0).f1 a1 a2 hc.2.1.1 hc.2.1.2
    refine⟨a0,a1,a2,a3,p.1,p.2,b0,b1,w,⟨K0+K2,fun k hk=>?_⟩,⟨hc.1,hc.2.1,gr,hc.2.2.2⟩,hb0,hb1,hw,hww⟩
    simp only[spec_DrawCond.f,h0 k (by omega),h1,h2 k (by omega),h3,Option.bind_some,if_true]
    rw[if_pos (by omega),if_pos (by omega),gp]
    rfl
  | false=>
    refine⟨a0,a1,a2,a3,a4,a5,b0,b1,w,⟨K0+K2,fun k hk=>?_⟩,hc,hb0,hb1,hw,hww⟩
    simp only[spec_DrawCond.f,h0 k (by omega),h1,h2 k (by omega),h3,Option.bind_some,Bool.false_eq_true,if_false]
/-- Does a rule hold? Its numbers, and each of its conditions. -/
theorem ruleConds (l:List S50) (b0 b1:Int) (w:List S48) (hw:w.length≤3) (hl:l.length≤3): ∃ c:Nat→Bool,(∀ j (h:j<l.length),∀ k,5≤k→impl_CondHolds.f k l[j].f0 l[j].f1.f0 l[j].f1.f1 l[j].f2 l[j].f3.f0 l[j].f3.f1 b0 b1 w=some (c j)):=by
  have each: ∀ j,∃ b:Bool,∀ (h:j<l.length),∀ k,5≤k→impl_CondHolds.f k l[j].f0 l[j].f1.f0 l[j].f1.f1 l[j].f2 l[j].f3.f0 l[j].f3.f1 b0 b1 w=some b:=fun j=>by
    by_cases h:j<l.length
    · obtain⟨r,_,hr⟩:=holds l[j].f0 l[j].f1.f0 l[j].f1.f1 l[j].f2 l[j].f3.f0 l[j].f3.f1 b0 b1 w (by omega)
      exact⟨r,fun _ k hk=>hr k (by omega)⟩
    · exact⟨true,fun h'=>absurd h' h⟩
  exact⟨fun j=>Classical.choose (each j),fun j h=>Classical.choose_spec (each j) h⟩
/-- All from a place on. -/
def allC (c:Nat→Bool) (n:Nat):Nat→Bool
  | 0=>true
  | d+1=>c (n - (d+1)) && allC c n d
theorem main (l:List Int): ∃ k,laws_FnConds.f k l=some true:=by
  by_cases hb:(l.length:Int)>1048576
  · refine⟨0,?_⟩
    simp only[laws_FnConds.f,laws_big.f,Option.bind_some,decide_eq_true hb,if_true]
  have hs:l.length≤1048576:=by omega
  obtain⟨a0,a1,a2,a3,a4,a5,b0,b1,w,⟨K1,h1⟩,hc,hb0,hb1,hw,hww⟩:=drawCondC l hs
  obtain⟨e0,K0,h0⟩:=newC l hs
  obtain⟨N,R,x,y,p1,e1,⟨K2,h2⟩,hR,_,_,hp1⟩:=madeR hs 0 e0 (by omega)
  obtain⟨b2,b3,w2,p2,e2,⟨K3,h3⟩,⟨hb2,hb3,hw2,hww2⟩,_⟩:=callR hs p1 e1 hp1
  obtain⟨u0,u1,u2,u3,u4,u5,v0,v1,vw,⟨K4,h4⟩,hvw⟩:=drawCondHolds l hs
  obtain⟨r,rS,rI⟩:=holds u0 u1 u2 u3 u4 u5 v0 v1 vw (by omega)
  obtain⟨c0,c1,c2,c3,c4,c5,K5,h5⟩:=drawCondOk l hs
  obtain⟨p,pS,pI,_⟩:=wandR (rd_T48 w a0).f0 (rd_T48 w a0).f1 a1 a2 hc.2.1.1 hc.2.1.2
  obtain⟨t,tS,tI⟩:=wcmp p.1 p.2 a4 a5
  have hcall:=callT b0 b1 w hb0 hb1 hw hww
  have hR4:=hR.2.2.1
  have hR3:=hR.2.2.2.1
  obtain⟨c,cI⟩:=ruleConds R b2 b3 w2 (by omega) (by omega)
  obtain⟨q,_,⟨K6,h6⟩⟩:=nums_in N b3 (by omega)
  dsimp only at h0 h1 h2 h3 h4 h5 h6
  have okS: ∃ z,spec_CondOk.f c0 c1 c2 c3 c4 c5=some z∧impl_CondOk.f c0 c1 c2 c3 c4 c5=some z:=⟨_,condS _ _ _ _ _ _,condI _ _ _ _ _ _⟩
  obtain⟨z,zS,zI⟩:=okS
  have dr: ∀ k,K0+K2+K3≤k→spec_DrawRule.f k l=some (N,R,x,y,b2,b3,w2):=fun k hk=>by
    simp only[spec_DrawRule.f,h0 k (by omega),Option.bind_some,h2 k (by omega),h3 k (by omega)]
  -- does its number fit?
  obtain⟨e,he⟩ : ∃ e:Bool,e=if N.length=0 then true else decide (q≥0):=⟨_,rfl⟩
  -- what the program says of the rule
  have rule: ∀ (d j:Nat),j+d=R.length→Evt (fun k=>impl_RuleHolds.l0 k R (R.length:Int) (j:Int) N R x y b2 b3 w2) (e && allC c R.length d):=by
    intro d
    induction d with
    | zero=>
      intro j hj
      refine .succ ⟨K6,fun k hk=>?_⟩
      have q6:=h6 k hk
      simp only[impl_RuleHolds.l0]
      rw[if_neg (by omega)]
      by_cases hN:N.length=0
      · rw[if_pos hN]at he
        subst he
        rw[if_pos (by omega)]
        rfl
      · rw[if_neg hN]at he
        subst he
        rw[if_neg (by omega)]
        simp only[slices_Contains_int_int.f,q6,Option.bind_some,allC,Bool.and_true]
    | succ d ih=>
      intro j hj
      have hlt:j<R.length:=by omega
      obtain⟨K,hK⟩:=ih (j+1) (by omega)
      refine .succ ⟨K+5,fun k hk=>?_⟩
      have g:=hK k (by omega)
      have gc:=cI j hlt k (by omega)
      simp only[impl_RuleHolds.l0]
      rw[if_pos (by omega),if_pos (by omega),if_pos (by omega),nrd_T50 R j hlt,gc,wsucc hlt (by omega)]
      simp only[Option.bind_some,allC]
      rw[show R.length - (d+1)=j by omega]
      cases hcj:c j with
      | true=>rw[if_pos rfl,Bool.true_and];exact g
      | false=>rw[if_neg (by simp)];simp
  -- the law's end
  have fin: ∀ (x7:List Bool),x7= [tells 1 t,tells 2 t,tells 3 t,tells 4 t,tells 5 t,tells 6 t]→∀ (d j:Nat) (g:Bool),j+d=R.length→(g && allC c R.length d)=(e && allC c R.length R.length)→Evt (fun k=>laws_FnConds.l2 k l t x7 g (j:Int) N R x y b2 b3 w2) true:=fun x7 hx7=>by
    intro d
    induction d with
    | zero=>
      intro j g hj hg
      obtain⟨K,hK⟩:=rule R.length 0 (by omega)
      refine .succ ⟨K+K4+K5+vw.length+5,fun k hk=>?_⟩
      have g1:=hK k (by omega)
      have g4:=h4 k (by omega)
      have g5:=h5 k (by omega)
      have gS:=rS k (by omega)
      have gI:=rI k (by omega)
      have hg':g=(e && allC c R.length R.length):=by simpa [allC] using hg
      have gR:impl_RuleHolds.f k N R x y b2 b3 w2=some g:=by rw[hg'];exact g1
      have T1:((rdOf false x7 0) == (t == 0))=true:=by rw[hx7];show(tells 1 t == (t == 0))=true;simp[tells]
      have T2:((rdOf false x7 1) == (t !=0))=true:=by rw[hx7];show(tells 2 t == (t !=0))=true;simp[tells]
      have T3:((rdOf false x7 2) == (decide (t<0)))=true:=by rw[hx7];show(tells 3 t == (decide (t<0)))=true;simp[tells]
      have T4:((rdOf false x7 3) == (decide (t≤0)))=true:=by rw[hx7];show(tells 4 t == (decide (t≤0)))=true;simp[tells]
      have T5:((rdOf false x7 4) == (decide (t>0)))=true:=by rw[hx7];show(tells 5 t == (decide (t>0)))=true;simp[tells]
      have T6:((rdOf false x7 5) == (decide (t≥0)))=true:=by rw[hx7];show(tells 6 t == (decide (t≥0)))=true;simp[tells]
      have L:(x7.length:Int)=6:=by rw[hx7];rfl
      simp only[laws_FnConds.l2]
      rw[if_neg (by omega)]
      simp only[g4,g5,Option.bind_some,T1,T2,T3,T4,T5,T6,if_true,gR,beq_self_eq_true,gS,gI,zS,zI]
      rw[if_pos (by omega),if_pos (by omega),if_pos (by omega),if_pos (by omega),if_pos (by omega),if_pos (by omega)]
    | succ d ih=>
      intro j g hj hg
      have hlt:j<R.length:=by omega
      cases hgv:g with
      | true=>
        obtain⟨K,hK⟩:=ih (j+1) (c j) (by omega) (by
          rw[← hg,hgv]
          simp only[allC,Bool.true_and]
          rw[show R.length - (d+1)=j by omega])
        refine .succ ⟨K+5,fun k hk=>?_⟩
        have gc:=cI j hlt k (by omega)
        have gk:=hK k (by omega)
        simp only[laws_FnConds.l2]
        rw[if_pos (by omega),if_pos trivial,if_pos (by omega),nrd_T50 R j hlt,gc,wsucc hlt (by omega)]
        exact gk
      | false=>
        obtain⟨K,hK⟩:=ih (j+1) false (by omega) (by rw[← hg,hgv];simp)
        refine .succ ⟨K,fun k hk=>?_⟩
        have gk:=hK k (by omega)
        simp only[laws_FnConds.l2]
        rw[if_pos (by omega),if_neg (by simp),wsucc hlt (by omega)]
        exact gk
  -- the numbers, one by one
  have nums: ∀ (x7:List Bool),x7= [tells 1 t,tells 2 t,tells 3 t,tells 4 t,tells 5 t,tells 6 t]→∀ (d j:Nat) (g:Bool),j+d=N.length→(g=true→e=true)→(g=false→N.length≠0∧∀ k',Evt (fun k=>slices_Index_int_int.l0 k N b3 (N.length:Int) (j:Int)) k'→k'=q)→Evt (fun k=>laws_FnConds.l1 k l t x7 g (j:Int) N R x y b2 b3 w2) true:=fun x7 hx7=>by
    intro d
    induction d with
    | zero=>
      intro j g hj hg1 hg2
      have hge:g=e:=by
        cases hgv:g with
        | true=>exact(hg1 hgv).symm
        | false=>
          obtain⟨hN,hq⟩:=hg2 hgv
          have:(-1:Int)=q:=hq (-1) (.succ (.const fun k=>by simp only[slices_Index_int_int.l0];rw[if_neg (by omega)]))
          rw[he,if_neg hN,← this]
          rfl
      obtain⟨K,hK⟩:=fin x7 hx7 R.length 0 g (by omega) (by rw[hge])
      refine .succ ⟨K,fun k hk=>?_⟩
      have gk:=hK k hk
      simp only[laws_FnConds.l1]
      rw[if_neg (by omega)]
      exact gk
    | succ d ih=>
      intro j g hj hg1 hg2
      have hlt:j<N.length:=by omega
      cases hgv:g with
      | true=>
        obtain⟨K,hK⟩:=ih (j+1) true (by omega) (fun _=>hg1 hgv) (fun h=>by cases h)
        refine .succ ⟨K,fun k hk=>?_⟩
        have gk:=hK k hk
        simp only[laws_FnConds.l1]
        rw[if_pos (by omega),if_pos trivial,wsucc hlt (by omega)]
        exact gk
      | false=>
        obtain⟨hN,hq⟩:=hg2 hgv
        have hrd:rd N (j:Int)=N[j]:=nrd N j hlt
        obtain⟨K,hK⟩:=ih (j+1) (N[j] == b3) (by omega) (fun h=>by
          have h1:N[j]=b3:=by simpa using h
          have:(j:Int)=q:=hq j (.succ (.const fun k=>by
            simp only[slices_Index_int_int.l0]
            rw[if_pos (by omega),if_pos (by omega),if_pos (by omega),hrd,if_pos h1.symm]))
          rw[he,if_neg hN,← this]
          exact decide_eq_true (by omega)) (fun h=>⟨hN,fun k' ⟨K',hK'⟩=>hq k' (.succ ⟨K',fun k hk=>by
            have g:=hK' k hk
            have h1: ¬ b3=N[j]:=fun h2=>by rw[h2]at h;simp at h
            simp only[slices_Index_int_int.l0]
            rw[if_pos (by omega),if_pos (by omega),if_pos (by omega),hrd,if_neg h1,wsucc hlt (by omega)]
            exact g⟩)⟩)
        refine .succ ⟨K,fun k hk=>?_⟩
        have gk:=hK k hk
        simp only[laws_FnConds.l1,hrd]
        rw[if_pos (by omega),if_neg (by simp),if_pos (by omega),wsucc hlt (by omega)]
        exact gk
  have six: ∀ (x7:List Bool),x7= [tells 1 t,tells 2 t,tells 3 t,tells 4 t,tells 5 t,tells 6 t]→Evt (fun k=>laws_FnConds.l0 k l t x7 7 a0 a1 a2 a3 a4 a5 b0 b1 w) true:=fun x7 hx7=>by
    obtain⟨K,hK⟩:=nums x7 hx7 N.length 0 (((N.length:Int)) == 0) (by omega) (fun h=>by
      have:(N.length:Int)=0:=by simpa using h
      rw[he,if_pos (by omega)]) (fun h=>⟨fun h2=>by rw[h2]at h;simp at h,fun k' hk'=>hk'.uniq ⟨K6,h6⟩⟩)
    refine .succ ⟨K+K0+K2+K3,fun k hk=>?_⟩
    have gk:=hK k (by omega)
    simp only[laws_FnConds.l0]
    rw[if_neg (by omega),dr k (by omega)]
    exact gk
  have step: ∀ (m:Nat) (x7:List Bool),1≤m→m≤6→x7.length=m - 1→Evt (fun k=>laws_FnConds.l0 k l t (x7 ++ [tells m t]) ((m+1:Nat):Int) a0 a1 a2 a3 a4 a5 b0 b1 w) true→Evt (fun k=>laws_FnConds.l0 k l t x7 (m:Int) a0 a1 a2 a3 a4 a5 b0 b1 w) true:=fun m x7 h1 h6 hx ⟨K,hK⟩=>by
    refine .succ ⟨K+5,fun k hk=>?_⟩
    have gk:=hK k (by omega)
    have gc:=holdsT a0 a1 a2 (m:Int) a4 a5 b0 b1 w ⟨hc.1,hc.2.1,hc.2.2.1,by omega,by omega⟩ hcall hw p t pI tI k (by omega)
    simp only[laws_FnConds.l0]
    rw[if_pos (by omega),gc]
    simp only[Option.bind_some]
    rw[if_pos (by omega),wsucc (show m<7 by omega) (by omega)]
    exact gk
  obtain⟨K,hK⟩:=step 1 [] (by omega) (by omega) rfl (step 2 [_] (by omega) (by omega) rfl (step 3 [_,_] (by omega) (by omega) rfl (step 4 [_,_,_] (by omega) (by omega) rfl (step 5 [_,_,_,_] (by omega) (by omega) rfl (step 6 [_,_,_,_,_] (by omega) (by omega) rfl (six _ rfl))))))
  refine⟨K+K1,?_⟩
  have gk:=hK (K+K1) (by omega)
  have g1:=h1 (K+K1) (by omega)
  simp only[laws_FnConds.f,laws_big.f,Option.bind_some,decide_eq_false hb,Bool.false_eq_true,if_false,g1]
  rw[if_pos (by omega),if_pos (by omega),pS]
  simp only[Option.bind_some,tS]
  exact gk

end Go.Proofs.Ytlgndgjbfjefpaa.PFnConds
end
section
/- FnConds: a condition holds just when its argument, masked, is so beside the value: of each pair that are unlike one holds. No conditions. -/
namespace Go.Proofs.Ytlgndgjbfjefpaa.Pure
open Go Go.RowKit Go.Proofs.Ytlgndgjbfjefpaa.PFnConds Go.Proofs.YtlgndgjbfjefpaaW.PrintWords Go.Proofs.YtlgndgjbfjefpaaW.PrintLast
theorem FnConds : laws_FnConds.Pure := by
 intro l _ _ _; exact main l
end Go.Proofs.Ytlgndgjbfjefpaa.Pure
end
section
/- FnConds: the row. No conditions. -/
namespace Go.Proofs.Ytlgndgjbfjefpaa.fnConds
open Go.ChangeShapes Go.WideShapes Go.ChangeAt Go.RowKit
open Go.ChangeMaps (open_string shut_string)
set_option linter.unusedVariables false
theorem own : ownKnob Try.prog.godebug = none := by kernel_rfl
theorem laidOut : laidOutB Try.prog = true := by kernel_rfl
def IsRow (k : IntKind) (w : World) (a : Option Addr) (len cap : Nat) (zs : List Int) : Prop :=
  (a = none ∧ len = 0 ∧ cap = 0 ∧ zs = []) ∨
  ∃ x, a = some x ∧ len ≤ cap ∧ cap ≤ maxLen ∧ zs.length = cap ∧ (∀ i, i < zs.length → w.cell? (x.add i) = some (.int k (zs.getD i 0))) ∧ ∀ n ∈ zs, (Lit.int k n).wf = true
set_option maxRecDepth 100000 in
theorem lifted (os : Os) (started : os.Started) (H : Type) (enc : TypeId × Value → H) :
    ReturnsInHanded {} Try.checked os 5 .any (Rows.fnCondsSpec.pre6 enc Try.prog Try.f5 Rows.fnCondsRow.domain false) (Rows.fnCondsSpec.post enc Try.prog Try.f5 false true false false) := by
  refine returnsInHanded_of_change_sized (C := Try.checked) own started (by kernel_rfl) Try.func5
    (ChangeSpec.witness6 (enc := enc) (C := Try.checked) false ⟨#[], #[.slice none 0 0], []⟩ 8 (by kernel_rfl) (by kernel_rfl) (by kernel_rfl) (by kernel_rfl)) ?_
  intro W base args ds gs before hval0 hW hcnd hsz0 _
  have hsz : (DataW.weightsEach Try.prog (Try.f5.params.toList ++ Rows.fnCondsSpec.plain.varTypes Try.prog) (ds ++ gs)).all (· ≤ reachBytes) = true := hsz0
  have hval : ∀ (j : Nat) t v, Try.f5.params[j]? = some t → args[j]? = some v → Value.okWide Try.prog W .any base t v := hval0
  have hW' := hW
  obtain ⟨p, q, hA0, hV, rfl, hfz, hnd⟩ := hW
  have hA : DataW.TrodAll enc Try.prog W 0 (fun _ => true) true Try.f5.params.toList args.toList ds p := hA0
  rw [Try.params5] at hA hval hsz
  obtain ⟨v0, vs0, d0, ds0, p0, q0, hargs, rfl, rfl, h0, r0⟩ := trodAll_cons hA
  obtain ⟨rfl, rfl, rfl⟩ := trodAll_nil r0
  obtain rfl : args = #[v0] := by cases args; simp_all
  obtain ⟨rfl, rfl⟩ := trodVars_none hV
  obtain ⟨a0, len0, cap0, rfl⟩ := okWide_slice Try.underlying22 (hval 0 22 v0 rfl rfl)
  have k0 := h0
  have lt0 : ∀ x ∈ p0, x.block < W.heap.size := by obtain ⟨m, hm⟩ := k0; exact DataW.trod_lt m _ _ _ hm
  obtain ⟨z0, w0⟩ : ∃ zs, IsRow .u8 W a0 len0 cap0 zs := by
    obtain ⟨fuel, hf⟩ := h0
    rcases open_ints Try.underlying22 Try.underlying5 (by kernel_rfl) hf with ⟨hcs, _⟩ | ⟨x, l, c, zs, hcs, _, hl, hm, hz, _, hcell, hwz⟩
    · simp [Value.cells] at hcs
      obtain ⟨rfl, rfl, rfl⟩ := hcs
      exact ⟨[], .inl ⟨rfl, rfl, rfl, rfl⟩⟩
    · simp [Value.cells] at hcs
      obtain ⟨rfl, rfl, rfl⟩ := hcs
      exact ⟨zs, .inr ⟨_, rfl, hl, hm, by simpa using hz, hcell, hwz⟩⟩
  have y0 : len0 * 1 ≤ 140737488351232 := Go.Proofs.YtlgndgjbfjefpaaW.PrintWords.sized_ints hsz (j := 0) (t := 22) rfl rfl Try.underlying22 Try.underlying5 (by kernel_rfl) (by kernel_rfl) h0
  clear hA0 hval0 hsz0 hsz
  refine (PFnConds.laws_FnConds.walk Pure.FnConds a0 len0 cap0 z0 W w0 y0).mono fun e W' ⟨he, bel⟩ => ?_
  subst he
  exact ⟨_, rfl, _, _, _, [], _, [], hW', trodAll_mk1 (shut_bool Try.underlying4 _), (trodAll_cons_mk (Below.trod laidOut (by kernel_rfl) (of_decide_eq_true (by kernel_rfl)) k0 bel lt0) trodAll_mk0), rfl, bel.frame _, fun h => by cases h⟩
theorem over : Rows.fnCondsRow.holds Try.pinned (OpenSpec.ofChange Rows.fnCondsSpec) :=
  OpenClaim.holds_of_wide 5 Try.f5 rfl rfl rfl rfl rfl rfl rfl ⟨rfl, rfl, rfl, rfl, rfl⟩ rfl rfl rfl rfl rfl (by kernel_rfl) Try.func5 (by kernel_rfl)
    (of_decide_eq_true (by kernel_rfl)) (by unfold Func.isWrapper; first | (rw [if_pos (by decide +kernel)]; kernel_rfl) | (rw [if_neg (by decide +kernel)]; exact ⟨rfl, rfl⟩))
    (fun os started H enc _ => lifted os started H enc)
theorem proved : Rows.FnCondsSaid := over
#print axioms proved
end Go.Proofs.Ytlgndgjbfjefpaa.fnConds
namespace Go.Proofs.Ytlgndgjbfjefpaa
/-- The row, under a short name, for the claim. -/
theorem fnConds_holds : Rows.FnCondsSaid := fnConds.proved
end Go.Proofs.Ytlgndgjbfjefpaa
end
