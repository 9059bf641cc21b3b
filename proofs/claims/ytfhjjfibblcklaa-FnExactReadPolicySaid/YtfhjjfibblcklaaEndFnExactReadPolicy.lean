/- FnExactReadPolicy: The program's ReadPolicy returns what the reference's returns, in memory of its own, for all texts. No conditions. -/
import Derived.Test.YtfhjjfibblcklaaVWMore
import Derived.Test.YtfhjjfibblcklaaPFnExactReadPolicyy20
import Derived.Test.YtfhjjfibblcklaaRows
import Derived.WalkKit
import Derived.ProofKit
import Derived.OpenShut
import Derived.ShutString
import Derived.ChangeOld
import Derived.Below
import Derived.SizedLaws
section
/- Plain lemmas on numbers and lists for the pure statements: no program, no memory. -/
namespace Go.Proofs.YtfhjjfibblcklaaW.PK
open Go Go.RowKit Go.Proofs.YtfhjjfibblcklaaW.PrintWords
theorem w64 {x : Int} (h1 : -9223372036854775808 ≤ x) (h2 : x ≤ 9223372036854775807) : wrap64 x = x := by unfold wrap64; omega
theorem wsucc {i n : Nat} (h : i < n) (hn : n ≤ 9223372036854775807) : wrap64 ((i : Int) + 1) = ((i + 1 : Nat) : Int) := by unfold wrap64; omega
theorem getD_lt {α : Type} {xs : List α} {i : Nat} (z : α) (h : i < xs.length) : xs.getD ((i : Int)).toNat z = xs[i] := by
 rw [Int.toNat_natCast, List.getD_eq_getElem?_getD, List.getElem?_eq_getElem h]
 rfl
theorem take_succ_eq {α : Type} {xs ys : List α} {i : Nat} (hx : i < xs.length) (hy : i < ys.length) (h : xs.take i = ys.take i) (e : xs[i] = ys[i]) : xs.take (i + 1) = ys.take (i + 1) := by
 rw [List.take_succ_eq_append_getElem hx, List.take_succ_eq_append_getElem hy, h, e]
theorem take_set {α : Type} {xs : List α} {i : Nat} (v : α) : (xs.set i v).take i = xs.take i := by
 rw [List.take_set_of_le (Nat.le_refl _)]
/-- Rounds: a thing that is so from K rounds on. -/
theorem ev_of {α : Type} {g : Nat → Option α} {r : α} (K : Nat) (h : ∀ k, K ≤ k → g k = some r) : ∃ K, ∀ k, K ≤ k → g k = some r := ⟨K, h⟩
end Go.Proofs.YtfhjjfibblcklaaW.PK
end
section
/- Values that a function comes to from some number of rounds on, and the loops over lists: plain lemmas. -/
namespace Go.Proofs.YtfhjjfibblcklaaW.PK
open Go Go.RowKit Go.Proofs.YtfhjjfibblcklaaW.PrintWords
def Evt {α : Type} (g : Nat → Option α) (v : α) : Prop := ∃ K, ∀ k, K ≤ k → g k = some v
theorem Evt.const {α : Type} {g : Nat → Option α} {v : α} (h : ∀ k, g k = some v) : Evt g v := ⟨0, fun k _ => h k⟩
theorem Evt.succ {α : Type} {g : Nat → Option α} {v : α} (h : Evt (fun k => g (k + 1)) v) : Evt g v := by
  obtain ⟨K, h⟩ := h
  refine ⟨K + 1, fun k hk => ?_⟩
  obtain ⟨k, rfl⟩ : ∃ m, k = m + 1 := ⟨k - 1, by omega⟩
  exact h k (by omega)
theorem Evt.bind {α β : Type} {g : Nat → Option α} {h : α → Nat → Option β} {a : α} {b : β} (h1 : Evt g a) (h2 : Evt (h a) b) : Evt (fun k => (g k).bind fun x => h x k) b := by
  obtain ⟨K1, h1⟩ := h1
  obtain ⟨K2, h2⟩ := h2
  refine ⟨K1 + K2, fun k hk => ?_⟩
  show (g k).bind _ = _
  rw [h1 k (by omega)]
  exact h2 k (by omega)
theorem Evt.congr {α : Type} {g g' : Nat → Option α} {v : α} (h : Evt g v) (e : ∀ k, g' k = g k) : Evt g' v := by
  obtain ⟨K, h⟩ := h
  exact ⟨K, fun k hk => (e k).trans (h k hk)⟩
theorem Evt.uniq {α : Type} {g : Nat → Option α} {v u : α} (h : Evt g v) (h' : Evt g u) : v = u := by
  obtain ⟨K, h⟩ := h
  obtain ⟨K', h'⟩ := h'
  exact Option.some.inj ((h (K + K') (by omega)).symm.trans (h' (K + K') (by omega)))
/-- There is a value. -/
def Tot {α : Type} (g : Nat → Option α) : Prop := ∃ v, Evt g v
theorem Tot.const {α : Type} {g : Nat → Option α} {v : α} (h : ∀ k, g k = some v) : Tot g := ⟨v, .const h⟩
theorem Tot.some {α : Type} {v : α} : Tot (fun _ => some v) := ⟨v, .const fun _ => rfl⟩
theorem Tot.succ {α : Type} {g : Nat → Option α} (h : Tot (fun k => g (k + 1))) : Tot g := by
  obtain ⟨v, h⟩ := h
  exact ⟨v, h.succ⟩
theorem Tot.bind {α β : Type} {g : Nat → Option α} {h : α → Nat → Option β} (h1 : Tot g) (h2 : ∀ a, Evt g a → Tot (h a)) : Tot (fun k => (g k).bind fun x => h x k) := by
  obtain ⟨a, h1⟩ := h1
  obtain ⟨b, h2⟩ := h2 a h1
  exact ⟨b, h1.bind h2⟩
theorem Tot.ite {α : Type} {c : Prop} [Decidable c] {g h : Nat → Option α} (h1 : c → Tot g) (h2 : ¬ c → Tot h) : Tot (fun k => if c then g k else h k) := by
  by_cases hc : c
  · simp only [if_pos hc]
    exact h1 hc
  · simp only [if_neg hc]
    exact h2 hc
theorem Tot.congr {α : Type} {g g' : Nat → Option α} (h : Tot g) (e : ∀ k, g' k = g k) : Tot g' := by
  obtain ⟨v, h⟩ := h
  exact ⟨v, h.congr e⟩
/-- Down from a list's end. -/
theorem down {T : Nat → Prop} {n : Nat} (h0 : T n) (h1 : ∀ i, i < n → T (i + 1) → T i) : ∀ d i, i + d = n → T i
  | 0, i, h => by
    have : i = n := by omega
    subst this
    exact h0
  | d + 1, i, h => h1 i (by omega) (down h0 h1 d (i + 1) (by omega))
/-- A loop that goes through. -/
theorem Evt.pass {β : Type} {F : Nat → Int → Option β} {n : Nat} {r : β} (h0 : Evt (fun k => F (k + 1) (n : Int)) r) (h1 : ∀ i : Nat, i < n → ∃ K, ∀ k, K ≤ k → F (k + 1) (i : Int) = F k ((i + 1 : Nat) : Int)) : Evt (fun k => F k 0) r :=
  down (T := fun i => Evt (fun k => F k (i : Int)) r) (n := n) (.succ h0) (fun i hi ih => by
    obtain ⟨K1, h1⟩ := h1 i hi
    obtain ⟨K2, h2⟩ := ih
    refine Evt.succ ⟨K1 + K2, fun k hk => ?_⟩
    show F (k + 1) (i : Int) = _
    rw [h1 k (by omega)]
    exact h2 k (by omega)) n 0 (by omega)
/-- A list copied, member by member. -/
theorem Evt.to {A B : Type} {F : Nat → List B → Int → Option (List B)} {x : List A} {conv : A → B} (h0 : ∀ k y, F (k + 1) y (x.length : Int) = some y)
    (h1 : ∀ (i : Nat) (h : i < x.length), ∃ K, ∀ k, K ≤ k → ∀ y : List B, y.length = x.length → F (k + 1) y (i : Int) = F k (y.set i (conv x[i])) ((i + 1 : Nat) : Int)) (y0 : List B) (hy0 : y0.length = x.length) : Evt (fun k => F k y0 0) (x.map conv) := by
  have key : ∀ y : List B, y.length = x.length → (∀ j, j < 0 → y[j]? = (x.map conv)[j]?) → Evt (fun k => F k y ((0 : Nat) : Int)) (x.map conv) := by
    have h := down (T := fun i => ∀ y : List B, y.length = x.length → (∀ j, j < i → y[j]? = (x.map conv)[j]?) → Evt (fun k => F k y (i : Int)) (x.map conv)) (n := x.length) ?_ ?_
    · exact h x.length 0 (by omega)
    · intro y hy hj
      refine .succ (.const fun k => (h0 k y).trans (congrArg some (List.ext_getElem? fun j => ?_)))
      rcases Nat.lt_or_ge j x.length with h | h
      · exact hj j h
      · rw [List.getElem?_eq_none (by omega), List.getElem?_eq_none (by rw [List.length_map]; omega)]
    · intro i hi ih y hy hj
      obtain ⟨K1, h1⟩ := h1 i hi
      obtain ⟨K2, h2⟩ := ih (y.set i (conv x[i])) (by rw [List.length_set]; exact hy) (fun j h => by
        rcases Nat.lt_or_ge j i with h3 | h3
        · rw [List.getElem?_set_ne (by omega)]
          exact hj j h3
        · have : j = i := by omega
          subst this
          rw [List.getElem?_set_self (by omega), List.getElem?_map, List.getElem?_eq_getElem hi]
          rfl)
      refine .succ ⟨K1 + K2, fun k hk => ?_⟩
      show F (k + 1) y (i : Int) = _
      rw [h1 k (by omega) y hy]
      exact h2 k (by omega)
  exact key y0 hy0 (fun j h => by omega)
/-- A measure that goes down a list. -/
theorem Evt.sz {F : Nat → Int → Int → Option Int} {n : Nat} {P : Nat → Prop} (h0 : ∀ k q, F (k + 1) q (n : Int) = some q)
    (h1 : ∀ i : Nat, i < n → ∀ q : Int, 0 ≤ q → q ≤ 1048576 → ∃ s : Int, s ≤ q ∧ (0 ≤ s → P i) ∧ ∃ K, ∀ k, K ≤ k → F (k + 1) q (i : Int) = if s < 0 then some (-1) else F k s ((i + 1 : Nat) : Int)) (q : Int) (hq : 0 ≤ q) (hq' : q ≤ 1048576) :
    ∃ s : Int, s ≤ q ∧ (0 ≤ s → ∀ i, i < n → P i) ∧ Evt (fun k => F k q 0) s := by
  have h := down (T := fun i => ∀ q : Int, 0 ≤ q → q ≤ 1048576 → ∃ s : Int, s ≤ q ∧ (0 ≤ s → ∀ j, i ≤ j → j < n → P j) ∧ Evt (fun k => F k q (i : Int)) s) (n := n) ?_ ?_ n 0 (by omega) q hq hq'
  · obtain ⟨s, a, b, c⟩ := h
    exact ⟨s, a, fun hs i hi => b hs i (by omega) hi, c⟩
  · intro q _ _
    exact ⟨q, Int.le_refl _, fun _ j h2 h3 => by omega, .succ (.const fun k => h0 k q)⟩
  · intro i hi ih q hq hq'
    obtain ⟨s, hs, hP, K, hK⟩ := h1 i hi q hq hq'
    by_cases hn : s < 0
    · refine ⟨-1, by omega, fun h => by omega, .succ ⟨K, fun k hk => ?_⟩⟩
      show F (k + 1) q (i : Int) = _
      rw [hK k hk, if_pos hn]
    · obtain ⟨u, hu, hU, K2, hK2⟩ := ih s (by omega) (by omega)
      refine ⟨u, by omega, fun h j h2 h3 => ?_, .succ ⟨K + K2, fun k hk => ?_⟩⟩
      · rcases Nat.lt_or_ge i j with h4 | h4
        · exact hU h j (by omega) h3
        · have : i = j := by omega
          subst this
          exact hP (by omega)
      · show F (k + 1) q (i : Int) = _
        rw [hK k (by omega), if_neg hn]
        exact hK2 k (by omega)
end Go.Proofs.YtfhjjfibblcklaaW.PK
end
section
/- The pure law of FnExactReadPolicy: The program's ReadPolicy returns what the reference's returns, in memory of its own, for all texts. No conditions. -/
set_option linter.unusedSimpArgs false
set_option linter.unusedVariables false
set_option linter.unusedSectionVars false
namespace Go.Proofs.Ytfhjjfibblcklaa.PFnExactReadPolicy
open Go Go.RowKit Go.Proofs.YtfhjjfibblcklaaW.PrintWords Go.Proofs.YtfhjjfibblcklaaW.PrintLast Go.Proofs.YtfhjjfibblcklaaW.PK
theorem nrd (l:List (Int)) (i:Nat) (h:i<l.length):rd l (i:Int)=l[i]:=getD_lt _ h
theorem Elaws_eqIntS (l:List (Int)) (hn:l.length≤4611686018427387904):Evt (fun k=>laws_eqIntS.f k l l) true:=by
  have h:=Evt.pass (F:=fun k i=>laws_eqIntS.l0 k l l i) (n:=l.length) (r:=true) ?_ ?_
  · refine h.congr fun k=>?_
    unfold laws_eqIntS.f
    rw[if_pos rfl]
  · refine .const fun k=>?_
    simp only[laws_eqIntS.l0]
    rw[if_neg (by omega)]
  · intro i hi
    refine⟨0,fun k hk=>?_⟩
    simp only[laws_eqIntS.l0]
    rw[if_pos (by omega),if_pos (by omega),if_pos (by omega)]
    simp only[if_true]
    rw[wsucc hi (by omega)]
theorem Elaws_eqWide (a0_0:Int) (a0_1:Int):Evt (fun k=>laws_eqWide.f a0_0 a0_1 a0_0 a0_1) true:=by
  refine⟨0,fun k hk=>?_⟩
  simp only[laws_eqWide.f,Option.bind_some,if_true]
theorem Elaws_eqCond (a0_0:Int) (a0_1:Int) (a0_2:Int) (a0_3:Int) (a0_4:Int) (a0_5:Int):Evt (fun k=>laws_eqCond.f a0_0 a0_1 a0_2 a0_3 a0_4 a0_5 a0_0 a0_1 a0_2 a0_3 a0_4 a0_5) true:=by
  refine⟨0,fun k hk=>?_⟩
  simp only[laws_eqCond.f,laws_eqWide.f,Option.bind_some,if_true]
theorem nrd_T66 (l:List (S66)) (i:Nat) (h:i<l.length):rd_T66 l (i:Int)=l[i]:=getD_lt _ h
theorem Elaws_eqCondS (l:List (S66)) (hn:l.length≤4611686018427387904):Evt (fun k=>laws_eqCondS.f k l l) true:=by
  have h:=Evt.pass (F:=fun k i=>laws_eqCondS.l0 k l l i) (n:=l.length) (r:=true) ?_ ?_
  · refine h.congr fun k=>?_
    unfold laws_eqCondS.f
    rw[if_pos rfl]
  · refine .const fun k=>?_
    simp only[laws_eqCondS.l0]
    rw[if_neg (by omega)]
  · intro i hi
    obtain⟨K,hK⟩:=Elaws_eqCond l[i].f0 l[i].f1.f0 l[i].f1.f1 l[i].f2 l[i].f3.f0 l[i].f3.f1
    dsimp only at hK
    refine⟨K,fun k hk=>?_⟩
    simp only[laws_eqCondS.l0]
    rw[if_pos (by omega),if_pos (by omega),if_pos (by omega),nrd_T66 l i hi,hK k hk]
    simp only[Option.bind_some,if_true]
    rw[wsucc hi (by omega)]
theorem Elaws_eqRule (l0_0:List Int) (l0_1:List (S66)) (a0_2:Int) (a0_3:Int) (hl0_0:l0_0.length≤4611686018427387904) (hl0_1:l0_1.length≤4611686018427387904):Evt (fun k=>laws_eqRule.f k l0_0 l0_1 a0_2 a0_3 l0_0 l0_1 a0_2 a0_3) true:=by
  obtain⟨K0,h0⟩:=Elaws_eqIntS l0_0 hl0_0
  obtain⟨K1,h1⟩:=Elaws_eqCondS l0_1 hl0_1
  refine⟨K0+K1,fun k hk=>?_⟩
  simp only[laws_eqRule.f,h0 k (by omega),h1 k (by omega),Option.bind_some,if_true]
theorem nrd_T43 (l:List (S43)) (i:Nat) (h:i<l.length):rd_T43 l (i:Int)=l[i]:=getD_lt _ h
theorem Elaws_eqRuleS (l:List (S43)) (hn:l.length≤4611686018427387904) (hB: ∀ y ∈ l,(y.f0.length≤4611686018427387904∧y.f1.length≤4611686018427387904)):Evt (fun k=>laws_eqRuleS.f k l l) true:=by
  have h:=Evt.pass (F:=fun k i=>laws_eqRuleS.l0 k l l i) (n:=l.length) (r:=true) ?_ ?_
  · refine h.congr fun k=>?_
    unfold laws_eqRuleS.f
    rw[if_pos rfl]
  · refine .const fun k=>?_
    simp only[laws_eqRuleS.l0]
    rw[if_neg (by omega)]
  · intro i hi
    obtain⟨K,hK⟩:=Elaws_eqRule l[i].f0 l[i].f1 l[i].f2 l[i].f3 ((hB _ (List.getElem_mem hi)).1) ((hB _ (List.getElem_mem hi)).2)
    dsimp only at hK
    refine⟨K,fun k hk=>?_⟩
    simp only[laws_eqRuleS.l0]
    rw[if_pos (by omega),if_pos (by omega),if_pos (by omega),nrd_T43 l i hi,hK k hk]
    simp only[Option.bind_some,if_true]
    rw[wsucc hi (by omega)]
theorem Elaws_eqPolicy (a0_0:Int) (a0_1:Int) (a0_2:Int) (l0_3:List (S43)) (hl0_3:(l0_3.length≤4611686018427387904∧∀ v4 ∈ l0_3,(v4.f0.length≤4611686018427387904∧v4.f1.length≤4611686018427387904))):Evt (fun k=>laws_eqPolicy.f k a0_0 a0_1 a0_2 l0_3 a0_0 a0_1 a0_2 l0_3) true:=by
  obtain⟨K0,h0⟩:=Elaws_eqRuleS l0_3 hl0_3.1 hl0_3.2
  refine⟨K0,fun k hk=>?_⟩
  simp only[laws_eqPolicy.f,h0 k (by omega),Option.bind_some,if_true]
theorem inS (a b c:Int):spec_l01In.f a b c=some (decide (b≤a∧a≤c)):=by
  unfold spec_l01In.f
  by_cases h:a≥b
  · rw[if_pos h]
    exact congrArg some (by rw[Bool.eq_iff_iff];simp;omega)
  · rw[if_neg h]
    exact congrArg some (by rw[Bool.eq_iff_iff];simp;omega)
theorem inI (a b c:Int):impl_within.f a b c=some (decide (b≤a∧a≤c)):=inS a b c
theorem halfS (a:Int):spec_HalfOk.f a=some (decide (0≤a∧a≤4294967295)):=by
  unfold spec_HalfOk.f
  rw[inS]
  rfl
theorem halfI (a:Int):impl_HalfOk.f a=some (decide (0≤a∧a≤4294967295)):=halfS a
theorem wideS (a b:Int):spec_WideOk.f a b=some (decide ((0≤a∧a≤4294967295)∧(0≤b∧b≤4294967295))):=by
  unfold spec_WideOk.f
  simp only[halfS,Option.bind_some,decide_eq_true_eq]
  split
  · rename_i h
    exact congrArg some (by rw[Bool.eq_iff_iff];simp[h])
  · rename_i h
    exact congrArg some (by rw[Bool.eq_iff_iff];simp[h])
theorem wideI (a b:Int):impl_WideOk.f a b=some (decide ((0≤a∧a≤4294967295)∧(0≤b∧b≤4294967295))):=wideS a b
theorem condS (a b c d e f:Int):spec_CondOk.f a b c d e f=some (decide ((0≤a∧a≤2)∧((0≤b∧b≤4294967295)∧(0≤c∧c≤4294967295))∧((0≤e∧e≤4294967295)∧(0≤f∧f≤4294967295))∧1≤d∧d≤6)):=by
  unfold spec_CondOk.f
  simp only[inS,wideS,Option.bind_some,decide_eq_true_eq]
  repeat' split
  all_goals (refine congrArg some ?_;rw[Bool.eq_iff_iff];simp only[Bool.false_eq_true,decide_eq_true_eq,false_iff])
  all_goals omega
theorem condI (a b c d e f:Int):impl_CondOk.f a b c d e f=some (decide ((0≤a∧a≤2)∧((0≤b∧b≤4294967295)∧(0≤c∧c≤4294967295))∧((0≤e∧e≤4294967295)∧(0≤f∧f≤4294967295))∧1≤d∧d≤6)):=condS a b c d e f
/-- Where the bytes from a to b end. -/
def runTo (s:ByteArray) (a b:Int):Nat→Nat→Nat
  | 0,i=>i
  | d+1,i=>if a≤bt s (i:Int)∧bt s (i:Int)≤b then runTo s a b d (i+1)else i
theorem runTo_le (s:ByteArray) (a b:Int): ∀ d i,i≤runTo s a b d i∧runTo s a b d i≤i+d
  | 0,i=>by simp[runTo]
  | d+1,i=>by
    have:=runTo_le s a b d (i+1)
    simp only[runTo]
    split <;> omega
theorem runTo_in (s:ByteArray) (a b:Int): ∀ d i m,i≤m→m<runTo s a b d i→a≤bt s (m:Int)∧bt s (m:Int)≤b
  | 0,i,m,h1,h2=>by simp[runTo]at h2;omega
  | d+1,i,m,h1,h2=>by
    simp only[runTo]at h2
    split at h2
    · rename_i h
      by_cases hm:m=i
      · subst hm;exact h
      · exact runTo_in s a b d (i+1) m (by omega) h2
    · omega
theorem word_l0 (s:ByteArray) (hs:s.size≤100000) (a b:Int) (j:Nat): ∀ d i,i+d=s.size→j≤i→Evt (fun k=>spec_l08Word.l0 k s (j:Int) a b (i:Int)) ((runTo s a b d i:Int) - j)
  | 0,i,hi,hj=> .succ (.const fun k=>by
      simp only[spec_l08Word.l0,runTo]
      rw[if_neg (by omega),w64 (by omega) (by omega)])
  | d+1,i,hi,hj=>by
    by_cases h:a≤bt s (i:Int)∧bt s (i:Int)≤b
    · obtain⟨K,hK⟩:=word_l0 s hs a b j d (i+1) (by omega) (by omega)
      refine .succ ⟨K,fun k hk=>?_⟩
      simp only[spec_l08Word.l0,runTo]
      rw[if_pos (by omega),if_pos (by omega),if_pos h.1,if_pos h.2,wsucc (show i<100000 by omega) (by omega),if_pos h]
      exact hK k hk
    · refine .succ (.const fun k=>?_)
      simp only[spec_l08Word.l0,runTo]
      rw[if_pos (by omega),if_pos (by omega),if_neg h,w64 (x:=(i:Int) - j) (by omega) (by omega)]
      split
      · rw[if_neg (by omega)]
      · rfl
theorem word (s:ByteArray) (hs:s.size≤100000) (a b:Int) (i:Nat) (hi:i≤s.size):Evt (fun k=>spec_l08Word.f k s (i:Int) a b) ((runTo s a b (s.size - i) i:Int) - i):=word_l0 s hs a b i (s.size - i) i (by omega) (Nat.le_refl _)
theorem let_ (x:Int):impl_isLetter.f x=some (decide (97≤x∧x≤122)):=by
  unfold impl_isLetter.f
  split
  · exact congrArg some (by rw[Bool.eq_iff_iff];simp;omega)
  · exact congrArg some (by rw[Bool.eq_iff_iff];simp;omega)
theorem fig_ (x:Int):impl_isFigure.f x=some (decide (48≤x∧x≤57)):=by
  unfold impl_isFigure.f
  split
  · exact congrArg some (by rw[Bool.eq_iff_iff];simp;omega)
  · exact congrArg some (by rw[Bool.eq_iff_iff];simp;omega)
theorem run_l (s:ByteArray) (hs:s.size≤100000): ∀ d i,i+d=s.size→Evt (fun k=>impl_runOf_35.l0 k s (i:Int)) (runTo s 97 122 d i:Int)
  | 0,i,hi=> .succ (.const fun k=>by
      simp only[impl_runOf_35.l0,runTo]
      rw[if_neg (by omega)])
  | d+1,i,hi=>by
    by_cases h:97≤bt s (i:Int)∧bt s (i:Int)≤122
    · obtain⟨K,hK⟩:=run_l s hs d (i+1) (by omega)
      refine .succ ⟨K,fun k hk=>?_⟩
      simp only[impl_runOf_35.l0,runTo,let_,Option.bind_some]
      rw[if_pos (by omega),if_pos (by omega),decide_eq_true h,if_pos rfl,wsucc (show i<100000 by omega) (by omega),if_pos h]
      exact hK k hk
    · refine .succ (.const fun k=>?_)
      simp only[impl_runOf_35.l0,runTo,let_,Option.bind_some]
      rw[if_pos (by omega),if_pos (by omega),decide_eq_false h,if_neg (by decide),if_neg h]
theorem run_f (s:ByteArray) (hs:s.size≤100000): ∀ d i,i+d=s.size→Evt (fun k=>impl_runOf_37.l0 k s (i:Int)) (runTo s 48 57 d i:Int)
  | 0,i,hi=> .succ (.const fun k=>by
      simp only[impl_runOf_37.l0,runTo]
      rw[if_neg (by omega)])
  | d+1,i,hi=>by
    by_cases h:48≤bt s (i:Int)∧bt s (i:Int)≤57
    · obtain⟨K,hK⟩:=run_f s hs d (i+1) (by omega)
      refine .succ ⟨K,fun k hk=>?_⟩
      simp only[impl_runOf_37.l0,runTo,fig_,Option.bind_some]
      rw[if_pos (by omega),if_pos (by omega),decide_eq_true h,if_pos rfl,wsucc (show i<100000 by omega) (by omega),if_pos h]
      exact hK k hk
    · refine .succ (.const fun k=>?_)
      simp only[impl_runOf_37.l0,runTo,fig_,Option.bind_some]
      rw[if_pos (by omega),if_pos (by omega),decide_eq_false h,if_neg (by decide),if_neg h]
/-- What figures come to. -/
def valF (s:ByteArray):Nat→Nat→Int→Int
  | 0,_,v=>v
  | d+1,i,v=>valF s d (i+1) (10*v+(bt s (i:Int) - 48))
def marks:List ByteArray:=[(⟨#[61,61]⟩ :ByteArray),(⟨#[33,61]⟩ :ByteArray),(⟨#[60,61]⟩ :ByteArray),(⟨#[62,61]⟩ :ByteArray),(⟨#[60]⟩ :ByteArray),(⟨#[62]⟩ :ByteArray),(⟨#[38]⟩ :ByteArray),(⟨#[58]⟩ :ByteArray),(⟨#[59]⟩ :ByteArray),(⟨#[44]⟩ :ByteArray)]
/-- The first mark that stands there. -/
def findM (s:ByteArray) (i:Nat):List ByteArray→ByteArray
  | []=>⟨#[]⟩
  | m :: r=>if i+m.size≤s.size∧(s.extract i (i+m.size)).toList=m.toList then m else findM s i r
theorem marks_sz: ∀ m ∈ marks,m.size≤2:=by decide
theorem findM_sz (s:ByteArray) (i:Nat): ∀ l:List ByteArray,(∀ m ∈ l,m.size≤2)→(findM s i l).size≤2∧((findM s i l).toList= []∨i+(findM s i l).size≤s.size)
  | [],_=>⟨by show 0≤2;omega,.inl (by show(⟨#[]⟩ :ByteArray).toList= [];rw[ByteArray.toList_eq])⟩
  | m :: r,h=>by
    simp only[findM]
    split
    · rename_i hc
      exact⟨h m List.mem_cons_self,.inr hc.1⟩
    · exact findM_sz s i r (fun x hx=>h x (List.mem_cons_of_mem _ hx))
theorem rdm (j:Nat) (h:j<marks.length):rdOf ByteArray.empty marks (j:Int)=marks[j]:=getD_lt _ h
theorem mark_S (s:ByteArray) (hs:s.size≤100000) (i:Nat) (hi:i≤s.size):Evt (fun k=>spec_l08Mark.f k s (i:Int)) (findM s i marks):=by
  have key:=down (T:=fun j=>Evt (fun k=>spec_l08Mark.l0 k s (i:Int) marks (j:Int)) (findM s i (marks.drop j))) (n:=marks.length) ?_ ?_ marks.length 0 (by omega)
  · obtain⟨K,h⟩:=key
    exact⟨K,fun k hk=>by simp only[spec_l08Mark.f,spec_l08Marks.f,Option.bind_some];exact h k hk⟩
  · refine .succ (.const fun k=>?_)
    simp only[spec_l08Mark.l0]
    rw[if_neg (by omega),List.drop_length]
    rfl
  · intro j hj ⟨K,h⟩
    have hz:=marks_sz marks[j] (List.getElem_mem hj)
    have e1:wrap64 ((i:Int)+(marks[j].size:Int))=((i+marks[j].size:Nat):Int):=by rw[w64 (by omega) (by omega)];omega
    have e2:((i+marks[j].size:Nat):Int).toNat=i+marks[j].size:=by omega
    dsimp only at h
    rw[List.drop_eq_getElem_cons hj]
    simp only[findM]
    by_cases c1:i+marks[j].size≤s.size
    · by_cases c2:(s.extract i (i+marks[j].size)).toList=marks[j].toList
      · refine .succ (.const fun k=>?_)
        simp only[spec_l08Mark.l0]
        rw[if_pos (by omega),if_pos (by omega),rdm j hj,e1,if_pos (by omega),if_pos (by omega),if_pos (by omega),e2,Int.toNat_natCast,if_pos c2,if_pos ⟨c1,c2⟩]
      · refine .succ ⟨K,fun k hk=>?_⟩
        simp only[spec_l08Mark.l0]
        rw[if_pos (by omega),if_pos (by omega),rdm j hj,e1,if_pos (by omega),if_pos (by omega),if_pos (by omega),e2,Int.toNat_natCast,if_neg c2,if_neg (fun h=>c2 h.2),wsucc hj (by decide)]
        exact h k hk
    · refine .succ ⟨K,fun k hk=>?_⟩
      simp only[spec_l08Mark.l0]
      rw[if_pos (by omega),if_pos (by omega),rdm j hj,e1,if_neg (by omega),if_neg (fun h=>c1 h.1),wsucc hj (by decide)]
      exact h k hk
theorem mark_I (s:ByteArray) (hs:s.size≤100000) (i:Nat) (hi:i≤s.size):Evt (fun k=>impl_markAt.f k s (i:Int)) (findM s i marks):=by
  have key:=down (T:=fun j=>Evt (fun k=>impl_markAt.l0 k s (i:Int) marks (marks.length:Int) (j:Int)) (findM s i (marks.drop j))) (n:=marks.length) ?_ ?_ marks.length 0 (by omega)
  · obtain⟨K,h⟩:=key
    exact⟨K,fun k hk=>by simp only[impl_markAt.f,Option.bind_some];exact h k hk⟩
  · refine .succ (.const fun k=>?_)
    simp only[impl_markAt.l0]
    rw[if_neg (by omega),List.drop_length]
    rfl
  · intro j hj ⟨K,h⟩
    have hz:=marks_sz marks[j] (List.getElem_mem hj)
    have e0:wrap64 ((s.size:Int) - (i:Int))=(s.size:Int) - i:=w64 (by omega) (by omega)
    have e1:wrap64 ((i:Int)+(marks[j].size:Int))=((i+marks[j].size:Nat):Int):=by rw[w64 (by omega) (by omega)];omega
    have e2:((i+marks[j].size:Nat):Int).toNat=i+marks[j].size:=by omega
    dsimp only at h
    rw[List.drop_eq_getElem_cons hj]
    simp only[findM]
    by_cases c1:i+marks[j].size≤s.size
    · by_cases c2:(s.extract i (i+marks[j].size)).toList=marks[j].toList
      · refine .succ (.const fun k=>?_)
        simp only[impl_markAt.l0]
        rw[if_pos (by omega),if_pos (by omega),if_pos (by omega),rdm j hj,e0,e1,if_pos (by omega),if_pos (by omega),if_pos (by omega),if_pos (by omega),e2,Int.toNat_natCast,if_pos c2,if_pos ⟨c1,c2⟩]
      · refine .succ ⟨K,fun k hk=>?_⟩
        simp only[impl_markAt.l0]
        rw[if_pos (by omega),if_pos (by omega),if_pos (by omega),rdm j hj,e0,e1,if_pos (by omega),if_pos (by omega),if_pos (by omega),if_pos (by omega),e2,Int.toNat_natCast,if_neg c2,if_neg (fun h=>c2 h.2),wsucc hj (by decide)]
        exact h k hk
    · refine .succ ⟨K,fun k hk=>?_⟩
      simp only[impl_markAt.l0]
      rw[if_pos (by omega),if_pos (by omega),if_pos (by omega),rdm j hj,e0,if_neg (by omega),if_neg (fun h=>c1 h.1),wsucc hj (by decide)]
      exact h k hk
/-- The signs of a text, from a place on; none: it is not of signs. -/
def toks (s:ByteArray):Nat→Nat→Option (List S54)
  | 0,_=>some []
  | d+1,i=>
    if i<s.size then
      if bt s (i:Int)=32∨bt s (i:Int)=10 then toks s d (i+1)
      else if 97≤bt s (i:Int)∧bt s (i:Int)≤122 then
        if runTo s 97 122 (s.size - i) i - i>12 then none else(toks s d (runTo s 97 122 (s.size - i) i)).map ((⟨1,s.extract i (runTo s 97 122 (s.size - i) i),0⟩ :S54) :: ·)
      else if 48≤bt s (i:Int)∧bt s (i:Int)≤57 then
        if runTo s 48 57 (s.size - i) i - i>10∨valF s (runTo s 48 57 (s.size - i) i - i) i 0>4294967295 then none else(toks s d (runTo s 48 57 (s.size - i) i)).map ((⟨2,(⟨#[]⟩ :ByteArray),valF s (runTo s 48 57 (s.size - i) i - i) i 0⟩ :S54) :: ·)
      else if(findM s i marks).toList= []then none else(toks s d (i+(findM s i marks).size)).map ((⟨3,findM s i marks,0⟩ :S54) :: ·)
    else some []
/-- What the signs come to, behind others. -/
def told (o:List S54):Option (List S54)→List S54×Bool
  | some r=>(o ++ r,true)
  | none=>([],false)
theorem told_map (o:List S54) (x:S54) (r:Option (List S54)):told o (r.map (x :: ·))=told (o ++ [x]) r:=by
  cases r with
  | none=>rfl
  | some r=>simp[told]
theorem val_S (s:ByteArray) (hs:s.size≤100000) (o:List S54) (i e:Nat) (he:e≤s.size) (hn:e - i≤10) (hf: ∀ m,i≤m→m<e→48≤bt s (m:Int)∧bt s (m:Int)≤57) {r:List S54×Bool} : ∀ d j v,j+d=e→i≤j→0≤v→v+1≤10 ^ (j - i)→
    (Evt (fun k=>spec_SignsOf.j3 k s [] o (i:Int) ((e:Int) - i) (valF s d j v)) r→Evt (fun k=>spec_SignsOf.l1 k s [] o (i:Int) ((e:Int) - i) v (j:Int)) r)∧0≤valF s d j v
  | 0,j,v,hj,hij,h0,hv=>by
    refine⟨fun ⟨K,h⟩=> .succ ⟨K,fun k hk=>?_⟩,h0⟩
    simp only[spec_SignsOf.l1]
    rw[if_neg (by rw[w64 (by omega) (by omega)];omega)]
    exact h k hk
  | d+1,j,v,hj,hij,h0,hv=>by
    have hb:=hf j hij (by omega)
    have hp:(10:Int) ^ (j - i)≤10 ^ 10:=by
      have:j - i=0∨j - i=1∨j - i=2∨j - i=3∨j - i=4∨j - i=5∨j - i=6∨j - i=7∨j - i=8∨j - i=9∨j - i=10:=by omega
      rcases this with h|h|h|h|h|h|h|h|h|h|h <;> rw[h] <;> decide
    have hp2:(10:Int) ^ (j+1 - i)=10*10 ^ (j - i):=by rw[show j+1 - i=(j - i)+1 by omega,Int.pow_succ,Int.mul_comm]
    have hq:(10:Int) ^ 10=10000000000:=by decide
    have hv1:v≤10000000000:=by omega
    have e1:wrap64 (10*v)=10*v:=w64 (by omega) (by omega)
    have e2:wrap64 (bt s (j:Int))=bt s (j:Int):=w64 (by omega) (by omega)
    have e3:wrap64 (10*v+bt s (j:Int))=10*v+bt s (j:Int):=w64 (by omega) (by omega)
    have e4:wrap64 (10*v+bt s (j:Int) - 48)=10*v+(bt s (j:Int) - 48):=by rw[w64 (by omega) (by omega)];omega
    obtain⟨g1,g2⟩:=val_S s hs o i e he hn hf (r:=r) d (j+1) (10*v+(bt s (j:Int) - 48)) (by omega) (by omega) (by omega) (by omega)
    refine⟨fun h=>?_,g2⟩
    obtain⟨K,h⟩:=g1 h
    refine .succ ⟨K,fun k hk=>?_⟩
    simp only[spec_SignsOf.l1]
    rw[if_pos (by rw[w64 (by omega) (by omega)];omega),if_pos (by omega),if_pos (by omega),if_pos (by omega),e1,e2,e3,e4,wsucc (show j<100000 by omega) (by omega)]
    exact h k hk
theorem val_I (s:ByteArray) (hs:s.size≤100000) (o:List S54) (ho:o.length≤100000) (i e:Nat) (he:e≤s.size) (hi:i≤e) (hn:e - i≤10) (hf: ∀ m,i≤m→m<e→48≤bt s (m:Int)∧bt s (m:Int)≤57) {r:List S54×Bool} : ∀ d j v,j+d=e→i≤j→0≤v→v+1≤10 ^ (j - i)→
    (valF s d j v>4294967295→Evt (fun k=>impl_SignsOf.l1 k s o (i:Int) (e:Int) v (j:Int)) ([],false))∧(¬ valF s d j v>4294967295→Evt (fun k=>impl_SignsOf.l0 k s (o ++ [⟨2,(⟨#[]⟩ :ByteArray),valF s d j v⟩]) (e:Int)) r→Evt (fun k=>impl_SignsOf.l1 k s o (i:Int) (e:Int) v (j:Int)) r)
  | 0,j,v,hj,hij,h0,hv=>by
    have ew:wrap64 ((e:Int) - i)=(e:Int) - i:=w64 (by omega) (by omega)
    refine⟨fun h=> .succ (.const fun k=>?_),fun h ⟨K,g⟩=> .succ ⟨K,fun k hk=>?_⟩⟩
    · simp only[impl_SignsOf.l1,ew]
      rw[if_neg (by omega),if_neg (by omega)]
      exact if_pos h
    · simp only[impl_SignsOf.l1,ew]
      rw[if_neg (by omega),if_neg (by omega)]
      refine(if_neg h).trans ?_
      rw[if_pos (by omega)]
      exact g k hk
  | d+1,j,v,hj,hij,h0,hv=>by
    have ew:wrap64 ((e:Int) - i)=(e:Int) - i:=w64 (by omega) (by omega)
    have hb:=hf j hij (by omega)
    have hp:(10:Int) ^ (j - i)≤10000000000:=by
      have:j - i=0∨j - i=1∨j - i=2∨j - i=3∨j - i=4∨j - i=5∨j - i=6∨j - i=7∨j - i=8∨j - i=9∨j - i=10:=by omega
      rcases this with h|h|h|h|h|h|h|h|h|h|h <;> rw[h] <;> decide
    have e1:wrap64 (10*v)=10*v:=w64 (by omega) (by omega)
    have e2:(bt s (j:Int) - 48) % 256=bt s (j:Int) - 48:=by omega
    have e4:wrap64 (10*v+(bt s (j:Int) - 48))=10*v+(bt s (j:Int) - 48):=w64 (by omega) (by omega)
    have hp2:(10:Int) ^ (j+1 - i)=10*10 ^ (j - i):=by rw[show j+1 - i=(j - i)+1 by omega,Int.pow_succ,Int.mul_comm]
    obtain⟨g1,g2⟩:=val_I s hs o ho i e he hi hn hf (r:=r) d (j+1) (10*v+(bt s (j:Int) - 48)) (by omega) (by omega) (by omega) (by omega)
    have step: ∀ k,impl_SignsOf.l1 (k+1) s o (i:Int) (e:Int) v (j:Int)=impl_SignsOf.l1 k s o (i:Int) (e:Int) (10*v+(bt s (j:Int) - 48)) ((j+1:Nat):Int):=fun k=>by
      simp only[impl_SignsOf.l1,ew]
      rw[if_pos (by omega),if_pos (by omega),if_pos (by omega),if_pos (by omega),e1,e2,e4,wsucc (show j<100000 by omega) (by omega)]
    refine⟨fun h=>?_,fun h g=>?_⟩
    · obtain⟨K,q⟩:=g1 h
      exact .succ ⟨K,fun k hk=>(step k).trans (q k hk)⟩
    · obtain⟨K,q⟩:=g2 h g
      exact .succ ⟨K,fun k hk=>(step k).trans (q k hk)⟩
/-- Both tell the same signs. -/
theorem signsF (s:ByteArray) (hs:s.size≤1200): ∀ d i (o:List S54),s.size - i≤d→i≤s.size→o.length+(s.size - i)≤2000→Evt (fun k=>spec_SignsOf.l0 k s [] o (i:Int)) (told o (toks s d i))∧Evt (fun k=>impl_SignsOf.l0 k s o (i:Int)) (told o (toks s d i)):=by
  have fin: ∀ d i (o:List S54),¬ i<s.size→i≤s.size→Evt (fun k=>spec_SignsOf.l0 k s [] o (i:Int)) (told o (toks s d i))∧Evt (fun k=>impl_SignsOf.l0 k s o (i:Int)) (told o (toks s d i)):=fun d i o h hi=>by
    have e:told o (toks s d i)=(o,true):=by
      cases d with
      | zero=>simp[toks,told]
      | succ d=>simp only[toks,if_neg h,told,List.append_nil]
    rw[e]
    refine⟨.succ (.const fun k=>?_),.succ (.const fun k=>?_)⟩
    · simp only[spec_SignsOf.l0]
      rw[if_neg (by omega)]
    · simp only[impl_SignsOf.l0]
      rw[if_neg (by omega)]
  intro d
  induction d with
  | zero=>intro i o h1 h2 h3;exact fin 0 i o (by omega) h2
  | succ d ih=>
    intro i o h1 h2 h3
    by_cases hlt:i<s.size
    · simp only[toks,if_pos hlt]
      have hbr:=bt_range s (i:Int)
      by_cases hb:bt s (i:Int)=32∨bt s (i:Int)=10
      · rw[if_pos hb]
        obtain⟨⟨K1,g1⟩,⟨K2,g2⟩⟩:=ih (i+1) o (by omega) (by omega) (by omega)
        dsimp only at g1 g2
        refine⟨.succ (.succ ⟨K1,fun k hk=>?_⟩),.succ (.succ ⟨K2,fun k hk=>?_⟩)⟩
        · have e:spec_SignsOf.l0 (k+1+1) s [] o (i:Int)=spec_SignsOf.j1 (k+1) s [] o (i:Int) true:=by
            simp only[spec_SignsOf.l0]
            rw[if_pos (by omega),if_pos (by omega)]
            rcases hb with hb|hb
            · rw[if_pos hb]
            · rw[if_neg (by omega),hb];rfl
          refine e.trans ?_
          simp only[spec_SignsOf.j1,if_true,wsucc (show i<2000 by omega) (by omega)]
          exact g1 k hk
        · have e:impl_SignsOf.l0 (k+1+1) s o (i:Int)=impl_SignsOf.j1 (k+1) s o (i:Int) ((i+1:Nat):Int) true:=by
            simp only[impl_SignsOf.l0,wsucc (show i<2000 by omega) (by omega)]
            rw[if_pos (by omega),if_pos (by omega)]
            rcases hb with hb|hb
            · rw[if_pos hb]
            · rw[if_neg (by omega),hb];rfl
          refine e.trans ?_
          simp only[impl_SignsOf.j1,if_true]
          exact g2 k hk
      · rw[if_neg hb]
        have eS: ∀ k,spec_SignsOf.l0 (k+1) s [] o (i:Int)=spec_SignsOf.j1 k s [] o (i:Int) false:=fun k=>by
          simp only[spec_SignsOf.l0]
          rw[if_pos (by omega),if_pos (by omega),if_neg (by omega),beq_eq_false_iff_ne.2 (by omega)]
        have eI: ∀ k,impl_SignsOf.l0 (k+1) s o (i:Int)=impl_SignsOf.j1 k s o (i:Int) ((i+1:Nat):Int) false:=fun k=>by
          simp only[impl_SignsOf.l0,wsucc (show i<2000 by omega) (by omega)]
          rw[if_pos (by omega),if_pos (by omega),if_neg (by omega),beq_eq_false_iff_ne.2 (by omega)]
        obtain⟨Kw,hw⟩:=word s (by omega) 97 122 i (by omega)
        dsimp only at hw
        have hd1:s.size - i=(s.size - i - 1)+1:=by omega
        by_cases hl:97≤bt s (i:Int)∧bt s (i:Int)≤122
        · rw[if_pos hl]
          obtain⟨Kr,hr⟩:=run_l s (by omega) (s.size - i) i (by omega)
          dsimp only at hr
          have hle:=runTo_le s 97 122 (s.size - i) i
          have hgt:i<runTo s 97 122 (s.size - i) i:=by
            rw[hd1]
            simp only[runTo,if_pos hl]
            have:=(runTo_le s 97 122 (s.size - i - 1) (i+1)).1
            omega
          generalize runTo s 97 122 (s.size - i) i=e at hw hr hle hgt ⊢
          have e1:Aside0 (wrap64 ((i:Int)+((e:Int) - i))=(e:Int)):=⟨by rw[w64 (by omega) (by omega)];omega⟩
          have e2:Aside0 (wrap64 ((e:Int) - i)=(e:Int) - i):=⟨w64 (by omega) (by omega)⟩
          by_cases h12:e - i>12
          · rw[if_pos h12]
            refine⟨.succ (.succ ⟨Kw,fun k hk=>?_⟩),.succ (.succ ⟨Kr,fun k hk=>?_⟩)⟩
            · refine(eS _).trans ?_
              simp only[spec_SignsOf.j1,Bool.false_eq_true,if_false,hw k hk,Option.bind_some]
              rw[if_pos (by omega),if_pos (by omega)]
              rfl
            · refine(eI _).trans ?_
              simp only[impl_SignsOf.j1,Bool.false_eq_true,if_false,let_,Option.bind_some,decide_eq_true hl,if_true,impl_runOf_35.f,hr k hk,e2.out]
              rw[if_pos (by omega),if_pos (by omega),if_pos (by omega)]
              rfl
          · rw[if_neg h12,told_map]
            obtain⟨⟨K1,g1⟩,⟨K2,g2⟩⟩:=ih e (o ++ [⟨1,s.extract i e,0⟩]) (by omega) (by omega) (by simp only[List.length_append,List.length_cons,List.length_nil];omega)
            dsimp only at g1 g2
            refine⟨.succ (.succ ⟨Kw+K1,fun k hk=>?_⟩),.succ (.succ ⟨Kr+K2,fun k hk=>?_⟩)⟩
            · refine(eS _).trans ?_
              simp only[spec_SignsOf.j1,Bool.false_eq_true,if_false,hw k (by omega),Option.bind_some,e1.out,Int.toNat_natCast]
              rw[if_pos (by omega),if_neg (by omega),if_pos (by omega),if_pos (by omega),if_pos (by omega),if_pos (by omega)]
              exact g1 k (by omega)
            · refine(eI _).trans ?_
              simp only[impl_SignsOf.j1,Bool.false_eq_true,if_false,let_,Option.bind_some,decide_eq_true hl,if_true,impl_runOf_35.f,hr k (by omega),e2.out,Int.toNat_natCast]
              rw[if_pos (by omega),if_pos (by omega),if_neg (by omega),if_pos (by omega),if_pos (by omega),if_pos (by omega)]
              exact g2 k (by omega)
        · rw[if_neg hl]
          have w0:runTo s 97 122 (s.size - i) i=i:=by
            rw[hd1]
            simp only[runTo,if_neg hl]
          rw[w0]at hw
          obtain⟨Kv,hv⟩:=word s (by omega) 48 57 i (by omega)
          dsimp only at hv
          by_cases hf:48≤bt s (i:Int)∧bt s (i:Int)≤57
          · rw[if_pos hf]
            obtain⟨Kr,hr⟩:=run_f s (by omega) (s.size - i) i (by omega)
            dsimp only at hr
            have hle:=runTo_le s 48 57 (s.size - i) i
            have hin:=runTo_in s 48 57 (s.size - i) i
            have hgt:i<runTo s 48 57 (s.size - i) i:=by
              rw[hd1]
              simp only[runTo,if_pos hf]
              have:=(runTo_le s 48 57 (s.size - i - 1) (i+1)).1
              omega
            generalize runTo s 48 57 (s.size - i) i=e at hv hr hle hin hgt ⊢
            have e1:Aside0 (wrap64 ((i:Int)+((e:Int) - i))=(e:Int)):=⟨by rw[w64 (by omega) (by omega)];omega⟩
            have e2:Aside0 (wrap64 ((e:Int) - i)=(e:Int) - i):=⟨w64 (by omega) (by omega)⟩
            by_cases h10:e - i>10
            · rw[if_pos (.inl h10)]
              refine⟨.succ (.succ (.succ (.succ (.succ ⟨Kw+Kv,fun k hk=>?_⟩)))),.succ (.succ (.succ ⟨Kr,fun k hk=>?_⟩))⟩
              · refine(eS _).trans ?_
                simp only[spec_SignsOf.j1,Bool.false_eq_true,if_false,hw (k+3) (by omega),hv (k+3) (by omega),Option.bind_some]
                rw[if_neg (by omega),if_pos (by omega)]
                simp only[spec_SignsOf.l1,e1.out]
                rw[if_pos (by omega),if_neg (by omega)]
                simp only[spec_SignsOf.j3]
                rw[if_pos (by omega)]
                simp only[spec_SignsOf.j4,if_true]
                rfl
              · refine(eI _).trans ?_
                simp only[impl_SignsOf.j1,Bool.false_eq_true,if_false,let_,fig_,Option.bind_some,decide_eq_false hl,decide_eq_true hf,if_true,impl_runOf_37.f,hr (k+1) (by omega)]
                rw[if_pos (by omega),if_pos (by omega)]
                simp only[impl_SignsOf.l1,e2.out]
                rw[if_pos (by omega),if_neg (by omega),if_pos (by omega)]
                rfl
            · obtain⟨vS,v0⟩:=val_S s (by omega) o i e (by omega) (by omega) (fun m a b=>hin m a b) (r:=told o (if e - i>10∨valF s (e - i) i 0>4294967295 then none else(toks s d e).map ((⟨2,(⟨#[]⟩ :ByteArray),valF s (e - i) i 0⟩ :S54) :: ·))) (e - i) i 0 (by omega) (Nat.le_refl _) (Int.le_refl _) (by simp)
              obtain⟨vI1,vI2⟩:=val_I s (by omega) o (by omega) i e (by omega) (by omega) (by omega) (fun m a b=>hin m a b) (r:=told (o ++ [⟨2,(⟨#[]⟩ :ByteArray),valF s (e - i) i 0⟩]) (toks s d e)) (e - i) i 0 (by omega) (Nat.le_refl _) (Int.le_refl _) (by simp)
              have gS: ∀ {r},Evt (fun k=>spec_SignsOf.l1 k s [] o (i:Int) ((e:Int) - i) 0 (i:Int)) r→Evt (fun k=>spec_SignsOf.l0 k s [] o (i:Int)) r:=fun ⟨K,h⟩=> .succ (.succ ⟨K+Kw+Kv,fun k hk=>by
                refine(eS _).trans ?_
                simp only[spec_SignsOf.j1,Bool.false_eq_true,if_false,hw k (by omega),hv k (by omega),Option.bind_some]
                rw[if_neg (by omega),if_pos (by omega)]
                exact h k (by omega)⟩)
              have gI: ∀ {r},Evt (fun k=>impl_SignsOf.l1 k s o (i:Int) (e:Int) 0 (i:Int)) r→Evt (fun k=>impl_SignsOf.l0 k s o (i:Int)) r:=fun ⟨K,h⟩=> .succ (.succ ⟨K+Kr,fun k hk=>by
                refine(eI _).trans ?_
                simp only[impl_SignsOf.j1,Bool.false_eq_true,if_false,let_,fig_,Option.bind_some,decide_eq_false hl,decide_eq_true hf,if_true,impl_runOf_37.f,hr k (by omega)]
                rw[if_pos (by omega),if_pos (by omega)]
                exact h k (by omega)⟩)
              generalize valF s (e - i) i 0=v at vS v0 vI1 vI2 ⊢
              by_cases hb:v>4294967295
              · rw[if_pos (.inr hb)]at vS ⊢
                refine⟨gS (vS ?_),gI (vI1 hb)⟩
                refine .succ (.succ (.const fun k=>?_))
                simp only[spec_SignsOf.j3,halfS,Option.bind_some]
                rw[if_neg (by omega),decide_eq_false (by omega)]
                simp only[spec_SignsOf.j4,Bool.not_false,if_true]
                rfl
              · have hno: ¬ (e - i>10∨v>4294967295):=by omega
                rw[if_neg hno]at vS ⊢
                obtain⟨⟨K1,g1⟩,g2⟩:=ih e (o ++ [⟨2,(⟨#[]⟩ :ByteArray),v⟩]) (by omega) (by omega) (by simp only[List.length_append,List.length_cons,List.length_nil];omega)
                rw[told_map]at vS ⊢
                refine⟨gS (vS ?_),gI (vI2 hb g2)⟩
                refine .succ (.succ ⟨K1,fun k hk=>?_⟩)
                simp only[spec_SignsOf.j3,halfS,Option.bind_some]
                rw[if_neg (by omega),decide_eq_true (by omega)]
                simp only[spec_SignsOf.j4,Bool.not_true,Bool.false_eq_true,if_false,e1.out]
                rw[if_pos (by omega)]
                exact g1 k hk
          · rw[if_neg hf]
            have v0:runTo s 48 57 (s.size - i) i=i:=by
              rw[hd1]
              simp only[runTo,if_neg hf]
            rw[v0]at hv
            obtain⟨Km,hm⟩:=mark_S s (by omega) i (by omega)
            obtain⟨Kn,hn⟩:=mark_I s (by omega) i (by omega)
            dsimp only at hm hn
            obtain⟨z1,z2⟩:=findM_sz s i marks marks_sz
            generalize findM s i marks=m at hm hn z1 z2 ⊢
            have e1:Aside0 (wrap64 ((i:Int)+(m.size:Int))=((i+m.size:Nat):Int)):=⟨by rw[w64 (by omega) (by omega)];omega⟩
            by_cases he:m.toList= []
            · rw[if_pos he]
              refine⟨.succ (.succ ⟨Kw+Kv+Km,fun k hk=>?_⟩),.succ (.succ ⟨Kn,fun k hk=>?_⟩)⟩
              · refine(eS _).trans ?_
                simp only[spec_SignsOf.j1,Bool.false_eq_true,if_false,hw k (by omega),hv k (by omega),hm k (by omega),Option.bind_some]
                rw[if_neg (by omega),if_neg (by omega),if_pos he]
                rfl
              · refine(eI _).trans ?_
                simp only[impl_SignsOf.j1,Bool.false_eq_true,if_false,let_,fig_,Option.bind_some,decide_eq_false hl,decide_eq_false hf,hn k (by omega)]
                rw[if_pos (by omega),if_pos (by omega),if_pos he]
                rfl
            · rw[if_neg he,told_map]
              have hpos:1≤m.size:=by
                rcases Nat.eq_zero_or_pos m.size with h|h
                · exact absurd (by rw[ByteArray.toList_eq];exact List.eq_nil_of_length_eq_zero h) he
                · exact h
              obtain⟨⟨K1,g1⟩,⟨K2,g2⟩⟩:=ih (i+m.size) (o ++ [⟨3,m,0⟩]) (by omega) (by have:=z2.resolve_left he;omega) (by simp only[List.length_append,List.length_cons,List.length_nil];have:=z2.resolve_left he;omega)
              dsimp only at g1 g2
              refine⟨.succ (.succ ⟨Kw+Kv+Km+K1,fun k hk=>?_⟩),.succ (.succ ⟨Kn+K2,fun k hk=>?_⟩)⟩
              · refine(eS _).trans ?_
                simp only[spec_SignsOf.j1,Bool.false_eq_true,if_false,hw k (by omega),hv k (by omega),hm k (by omega),Option.bind_some,e1.out]
                rw[if_neg (by omega),if_neg (by omega),if_neg he,if_pos (by omega)]
                exact g1 k (by omega)
              · refine(eI _).trans ?_
                simp only[impl_SignsOf.j1,Bool.false_eq_true,if_false,let_,fig_,Option.bind_some,decide_eq_false hl,decide_eq_false hf,hn k (by omega),e1.out]
                rw[if_pos (by omega),if_pos (by omega),if_neg he,if_pos (by omega)]
                exact g2 k (by omega)
    · exact fin (d+1) i o hlt h2
/-- What SignsOf tells. -/
def signsV (s:ByteArray):List S54×Bool:=if(s.size:Int)>1200 then([],false)else told [] (toks s s.size 0)
theorem signsOf (s:ByteArray):Evt (fun k=>spec_SignsOf.f k s) (signsV s)∧Evt (fun k=>impl_SignsOf.f k s) (signsV s):=by
  unfold signsV
  by_cases h:(s.size:Int)>1200
  · exact⟨.const fun k=>by simp only[spec_SignsOf.f,Option.bind_some,if_pos h],.const fun k=>by simp only[impl_SignsOf.f,if_pos h]⟩
  · obtain⟨⟨K1,g1⟩,⟨K2,g2⟩⟩:=signsF s (by omega) s.size 0 [] (by omega) (by omega) (by simp;omega)
    rw[if_neg h]
    exact⟨⟨K1,fun k hk=>by simp only[spec_SignsOf.f,Option.bind_some,if_neg h];exact g1 k hk⟩,⟨K2,fun k hk=>by simp only[impl_SignsOf.f,if_neg h];exact g2 k hk⟩⟩
theorem actS (a b:Int):Tot (fun _=>spec_l09Act.f a b):=by
  refine⟨decide ((0≤a∧a≤5)∧(0≤b∧b≤65535)),.const fun k=>?_⟩
  unfold spec_l09Act.f
  simp only[inS,Option.bind_some,decide_eq_true_eq]
  split
  · rename_i h
    exact congrArg some (by rw[Bool.eq_iff_iff];simp[h])
  · rename_i h
    exact congrArg some (by rw[Bool.eq_iff_iff];simp[h])
/-- A rule's second loop, and its end. -/
theorem rule_l1 (x:List Int) (l:List S66) (a b:Int) (hn:l.length≤4611686018427387904): ∃ r,Evt (fun k=>spec_l09Rule.l1 k 0 x l a b) r∧Evt (fun k=>impl_ruleOk.l1 k l (l.length:Int) 0 x l a b) r:=by
  refine down (T:=fun i=> ∃ r,Evt (fun k=>spec_l09Rule.l1 k (i:Int) x l a b) r∧Evt (fun k=>impl_ruleOk.l1 k l (l.length:Int) (i:Int) x l a b) r) (n:=l.length) ?_ ?_ l.length 0 (by omega)
  · obtain⟨v,K,hv⟩:=actS a b
    dsimp only at hv
    have hv0:=hv K (Nat.le_refl _)
    have hv1:impl_actionOk.f a b=some v:=hv0
    refine⟨if(x.length:Int)≤4 then(if(l.length:Int)≤3 then v else false)else false,.succ (.const fun k=>?_),.succ (.const fun k=>?_)⟩
    · simp only[spec_l09Rule.l1]
      rw[if_neg (by omega),hv0]
      simp only[Option.bind_some]
      repeat' split
      all_goals rfl
    · simp only[impl_ruleOk.l1]
      rw[if_neg (by omega),hv1]
      simp only[Option.bind_some]
      repeat' split
      all_goals rfl
  · intro i hi ih
    obtain⟨r,⟨K1,h1⟩,⟨K2,h2⟩⟩:=ih
    dsimp only at h1 h2
    obtain⟨q,e,e'⟩ : ∃ q,spec_CondOk.f l[i].f0 l[i].f1.f0 l[i].f1.f1 l[i].f2 l[i].f3.f0 l[i].f3.f1=some q∧impl_CondOk.f l[i].f0 l[i].f1.f0 l[i].f1.f1 l[i].f2 l[i].f3.f0 l[i].f3.f1=some q:=⟨_,condS _ _ _ _ _ _,condI _ _ _ _ _ _⟩
    refine⟨if q=true then r else false,.succ ⟨K1,fun k hk=>?_⟩,.succ ⟨K2,fun k hk=>?_⟩⟩
    · simp only[spec_l09Rule.l1]
      rw[if_pos (by omega),if_pos (by omega),nrd_T66 l i hi,e,wsucc hi (by omega)]
      simp only[Option.bind_some]
      rw[h1 k (by omega)]
      split <;> rfl
    · simp only[impl_ruleOk.l1]
      rw[if_pos (by omega),if_pos (by omega),if_pos (by omega),nrd_T66 l i hi,e',wsucc hi (by omega)]
      simp only[Option.bind_some]
      rw[h2 k (by omega)]
      split <;> rfl
theorem rule (x:List Int) (l:List S66) (a b:Int) (hx:x.length≤4611686018427387904) (hn:l.length≤4611686018427387904): ∃ r,Evt (fun k=>spec_l09Rule.f k x l a b) r∧Evt (fun k=>impl_ruleOk.f k x l a b) r:=by
  refine down (T:=fun i=> ∃ r,Evt (fun k=>spec_l09Rule.l0 k (i:Int) x l a b) r∧Evt (fun k=>impl_ruleOk.l0 k x (x.length:Int) (i:Int) x l a b) r) (n:=x.length) ?_ ?_ x.length 0 (by omega)
  · obtain⟨r,⟨K1,h1⟩,⟨K2,h2⟩⟩:=rule_l1 x l a b hn
    dsimp only at h1 h2
    refine⟨r,.succ ⟨K1,fun k hk=>?_⟩,.succ ⟨K2,fun k hk=>?_⟩⟩
    · simp only[spec_l09Rule.l0]
      rw[if_neg (by omega)]
      exact h1 k hk
    · simp only[impl_ruleOk.l0]
      rw[if_neg (by omega)]
      exact h2 k hk
  · intro i hi ih
    obtain⟨r,⟨K1,h1⟩,⟨K2,h2⟩⟩:=ih
    dsimp only at h1 h2
    obtain⟨q,e,e'⟩ : ∃ q,spec_HalfOk.f x[i]=some q∧impl_HalfOk.f x[i]=some q:=⟨_,halfS _,halfI _⟩
    have ew:0<i→wrap64 ((i:Int) - 1)=((i - 1:Nat):Int):=fun h=>by rw[w64 (by omega) (by omega)];omega
    refine⟨if q=true then(if 0<i∧rd x (wrap64 ((i:Int) - 1))≥x[i]then false else r)else false,.succ ⟨K1,fun k hk=>?_⟩,.succ ⟨K2,fun k hk=>?_⟩⟩
    · simp only[spec_l09Rule.l0]
      rw[if_pos (by omega),if_pos (by omega),nrd x i hi,e,wsucc hi (by omega)]
      simp only[Option.bind_some]
      by_cases h0:0<i
      · have h9:=ew h0
        rw[h9,if_pos (show(i:Int)>0 by omega),if_pos (show(0:Int)≤((i - 1:Nat):Int) by omega),if_pos (show((i - 1:Nat):Int)<(x.length:Int) by omega),h1 k (by omega)]
        simp only[h0,true_and]
        repeat' split
        all_goals rfl
      · rw[if_neg (show ¬ (i:Int)>0 by omega),h1 k (by omega)]
        simp only[h0,false_and,if_false]
        split <;> rfl
    · simp only[impl_ruleOk.l0]
      rw[if_pos (by omega),if_pos (by omega),if_pos (by omega),nrd x i hi,e',wsucc hi (by omega)]
      simp only[Option.bind_some]
      by_cases h0:0<i
      · have h9:=ew h0
        rw[h9,if_pos (show(i:Int)>0 by omega),if_pos (show(0:Int)≤((i - 1:Nat):Int) by omega),if_pos (show((i - 1:Nat):Int)<(x.length:Int) by omega),h2 k (by omega)]
        simp only[h0,true_and]
        repeat' split
        all_goals rfl
      · rw[if_neg (show ¬ (i:Int)>0 by omega),h2 k (by omega)]
        simp only[h0,false_and,if_false]
        split <;> rfl
theorem pol (a b c:Int) (l:List S43) (hn:l.length≤4611686018427387904) (hl: ∀ y ∈ l,y.f0.length≤4611686018427387904∧y.f1.length≤4611686018427387904): ∃ r,Evt (fun k=>spec_PolicyOk.f k a b c l) r∧Evt (fun k=>impl_PolicyOk.f k a b c l) r:=by
  refine down (T:=fun i=> ∃ r,Evt (fun k=>spec_PolicyOk.l0 k (i:Int) a b c l) r∧Evt (fun k=>impl_PolicyOk.l0 k l (l.length:Int) (i:Int) a b c l) r) (n:=l.length) ?_ ?_ l.length 0 (by omega)
  · obtain⟨v,K,hv⟩:=actS b c
    dsimp only at hv
    have hv0:=hv K (Nat.le_refl _)
    have hv1:impl_actionOk.f b c=some v:=hv0
    refine⟨if decide (0≤a∧a≤4294967295)=true then(if v=true then decide ((l.length:Int)≤10)else false)else false,.succ (.const fun k=>?_),.succ (.const fun k=>?_)⟩
    · simp only[spec_PolicyOk.l0]
      rw[if_neg (by omega),halfS,hv0]
      simp only[Option.bind_some]
      repeat' split
      all_goals rfl
    · simp only[impl_PolicyOk.l0]
      rw[if_neg (by omega),halfI,hv1]
      simp only[Option.bind_some]
      repeat' split
      all_goals rfl
  · intro i hi ih
    obtain⟨r,⟨K1,h1⟩,⟨K2,h2⟩⟩:=ih
    have hb:=hl _ (List.getElem_mem hi)
    obtain⟨q,⟨K3,h3⟩,⟨K4,h4⟩⟩:=rule l[i].f0 l[i].f1 l[i].f2 l[i].f3 hb.1 hb.2
    dsimp only at h1 h2 h3 h4
    refine⟨if q=true then r else false,.succ ⟨K1+K3,fun k hk=>?_⟩,.succ ⟨K2+K4,fun k hk=>?_⟩⟩
    · simp only[spec_PolicyOk.l0]
      rw[if_pos (by omega),if_pos (by omega),nrd_T43 l i hi,h3 k (by omega),wsucc hi (by omega)]
      simp only[Option.bind_some]
      rw[h1 k (by omega)]
      split <;> rfl
    · simp only[impl_PolicyOk.l0]
      rw[if_pos (by omega),if_pos (by omega),if_pos (by omega),nrd_T43 l i hi,h4 k (by omega),wsucc hi (by omega)]
      simp only[Option.bind_some]
      rw[h2 k (by omega)]
      split <;> rfl
/-- A right condition. -/
def CondR (y:S66):Prop:=(0≤y.f0∧y.f0≤2)∧((0≤y.f1.f0∧y.f1.f0≤4294967295)∧(0≤y.f1.f1∧y.f1.f1≤4294967295))∧((0≤y.f3.f0∧y.f3.f0≤4294967295)∧(0≤y.f3.f1∧y.f3.f1≤4294967295))∧1≤y.f2∧y.f2≤6
/-- Numbers that go up, each a half. -/
def NumsR (x:List Int):Prop:=(∀ i (h:i<x.length),0≤x[i]∧x[i]≤4294967295)∧∀ i (h:i+1<x.length),x[i]<x[i+1]
/-- A right rule. -/
def RuleR (x:List Int) (l:List S66) (a b:Int):Prop:=NumsR x∧(∀ y ∈ l,CondR y)∧x.length≤4∧l.length≤3∧(0≤a∧a≤5)∧(0≤b∧b≤65535)
theorem act_inv {a b:Int} (h:((spec_l09Act.f a b).bind fun t=>some t)=some true):(0≤a∧a≤5)∧(0≤b∧b≤65535):=by
  simp only[spec_l09Act.f,inS,Option.bind_some]at h
  by_cases h1:0≤a∧a≤5
  · rw[decide_eq_true h1,if_pos rfl]at h
    simp only[Option.bind_some,Option.some.injEq,decide_eq_true_eq]at h
    exact⟨h1,h⟩
  · rw[decide_eq_false h1,if_neg (by simp)]at h
    simp at h
theorem rule_inv1 (x:List Int) (l:List S66) (a b:Int) (hn:l.length≤4611686018427387904): ∀ (k i:Nat),i≤l.length→spec_l09Rule.l1 k (i:Int) x l a b=some true→(∀ j (h:j<l.length),i≤j→CondR l[j])∧x.length≤4∧l.length≤3∧(0≤a∧a≤5)∧(0≤b∧b≤65535):=by
  intro k
  induction k with
  | zero=>intro i _ h;simp[spec_l09Rule.l1]at h
  | succ k ih=>
    intro i hi h
    simp only[spec_l09Rule.l1]at h
    by_cases hlt:i<l.length
    · rw[if_pos (by omega),if_pos (by omega),nrd_T66 l i hlt,condS,wsucc hlt (by omega)]at h
      simp only[Option.bind_some,decide_eq_true_eq]at h
      by_cases hc:(0≤l[i].f0∧l[i].f0≤2)∧((0≤l[i].f1.f0∧l[i].f1.f0≤4294967295)∧(0≤l[i].f1.f1∧l[i].f1.f1≤4294967295))∧((0≤l[i].f3.f0∧l[i].f3.f0≤4294967295)∧(0≤l[i].f3.f1∧l[i].f3.f1≤4294967295))∧1≤l[i].f2∧l[i].f2≤6
      · rw[if_pos hc]at h
        obtain⟨h1,h2⟩:=ih (i+1) (by omega) h
        refine⟨fun j hj hij=>?_,h2⟩
        rcases Nat.lt_or_ge i j with h3|h3
        · exact h1 j hj (by omega)
        · have:i=j:=by omega
          subst this
          exact hc
      · rw[if_neg hc]at h
        simp at h
    · rw[if_neg (by omega)]at h
      by_cases h1:(x.length:Int)≤4
      · by_cases h2:(l.length:Int)≤3
        · rw[if_pos h1,if_pos h2]at h
          exact⟨fun j hj hij=>by omega,by omega,by omega,act_inv h⟩
        · rw[if_pos h1,if_neg h2]at h
          simp at h
      · rw[if_neg h1]at h
        simp at h
theorem rule_inv0 (x:List Int) (l:List S66) (a b:Int) (hx:x.length≤4611686018427387904) (hn:l.length≤4611686018427387904): ∀ (k i:Nat),i≤x.length→spec_l09Rule.l0 k (i:Int) x l a b=some true→(∀ j (h:j<x.length),i≤j→0≤x[j]∧x[j]≤4294967295)∧(∀ j (h:j+1<x.length),i≤j+1→x[j]<x[j+1])∧(∀ y ∈ l,CondR y)∧x.length≤4∧l.length≤3∧(0≤a∧a≤5)∧(0≤b∧b≤65535):=by
  intro k
  induction k with
  | zero=>intro i _ h;simp[spec_l09Rule.l0]at h
  | succ k ih=>
    intro i hi h
    simp only[spec_l09Rule.l0]at h
    by_cases hlt:i<x.length
    · rw[if_pos (by omega),if_pos (by omega),nrd x i hlt,halfS,wsucc hlt (by omega)]at h
      simp only[Option.bind_some,decide_eq_true_eq]at h
      by_cases hc:0≤x[i]∧x[i]≤4294967295
      · rw[if_pos hc]at h
        by_cases h0:i=0
        · rw[if_neg (by omega)]at h
          obtain⟨h1,h2,h3⟩:=ih (i+1) (by omega) h
          refine⟨fun j hj hij=>?_,fun j hj hij=>h2 j hj (by omega),h3⟩
          rcases Nat.lt_or_ge i j with h4|h4
          · exact h1 j hj (by omega)
          · have:i=j:=by omega
            subst this
            exact hc
        · obtain⟨m,rfl⟩ : ∃ m,i=m+1:=⟨i - 1,by omega⟩
          have ew:wrap64 (((m+1:Nat):Int) - 1)=(m:Int):=by rw[w64 (by omega) (by omega)];omega
          rw[if_pos (by omega),ew,if_pos (by omega),if_pos (by omega),nrd x m (by omega)]at h
          by_cases hg:x[m]≥x[m+1]
          · rw[if_pos hg]at h
            simp at h
          · rw[if_neg hg]at h
            obtain⟨h1,h2,h3⟩:=ih (m+1+1) (by omega) h
            refine⟨fun j hj hij=>?_,fun j hj hij=>?_,h3⟩
            · rcases Nat.lt_or_ge (m+1) j with h4|h4
              · exact h1 j hj (by omega)
              · have:j=m+1:=by omega
                subst this
                exact hc
            · rcases Nat.lt_or_ge m j with h4|h4
              · exact h2 j hj (by omega)
              · have:j=m:=by omega
                subst this
                omega
      · rw[if_neg hc]at h
        simp at h
    · rw[if_neg (by omega)]at h
      obtain⟨h1,h2⟩:=rule_inv1 x l a b hn k 0 (by omega) h
      exact⟨fun j hj hij=>by omega,fun j hj hij=>by omega,fun y hy=>by
        obtain⟨j,hj,rfl⟩:=List.getElem_of_mem hy
        exact h1 j hj (by omega),h2⟩
theorem rule_inv (x:List Int) (l:List S66) (a b:Int) (hx:x.length≤4611686018427387904) (hn:l.length≤4611686018427387904) {k:Nat} (h:spec_l09Rule.f k x l a b=some true):RuleR x l a b:=by
  obtain⟨h1,h2,h3⟩:=rule_inv0 x l a b hx hn k 0 (by omega) h
  exact⟨⟨fun i hi=>h1 i hi (by omega),fun i hi=>h2 i hi (by omega)⟩,h3⟩
theorem pol_inv (a b c:Int) (l:List S43) (hn:l.length≤4611686018427387904) (hl: ∀ y ∈ l,y.f0.length≤4611686018427387904∧y.f1.length≤4611686018427387904) {k:Nat} (h:spec_PolicyOk.f k a b c l=some true):(0≤a∧a≤4294967295)∧((0≤b∧b≤5)∧(0≤c∧c≤65535))∧l.length≤10∧∀ y ∈ l,RuleR y.f0 y.f1 y.f2 y.f3:=by
  have key: ∀ (k i:Nat),i≤l.length→spec_PolicyOk.l0 k (i:Int) a b c l=some true→(0≤a∧a≤4294967295)∧((0≤b∧b≤5)∧(0≤c∧c≤65535))∧l.length≤10∧∀ j (h:j<l.length),i≤j→RuleR l[j].f0 l[j].f1 l[j].f2 l[j].f3:=by
    intro k
    induction k with
    | zero=>intro i _ h;simp[spec_PolicyOk.l0]at h
    | succ k ih=>
      intro i hi h
      simp only[spec_PolicyOk.l0]at h
      by_cases hlt:i<l.length
      · have hb:=hl _ (List.getElem_mem hlt)
        rw[if_pos (by omega),if_pos (by omega),nrd_T43 l i hlt,wsucc hlt (by omega)]at h
        cases hr:spec_l09Rule.f k l[i].f0 l[i].f1 l[i].f2 l[i].f3 with
        | none=>rw[hr]at h;simp at h
        | some t=>
          rw[hr]at h
          simp only[Option.bind_some]at h
          cases t with
          | false=>rw[if_neg (by simp)]at h;simp at h
          | true=>
            rw[if_pos rfl]at h
            obtain⟨h1,h2,h3,h4⟩:=ih (i+1) (by omega) h
            refine⟨h1,h2,h3,fun j hj hij=>?_⟩
            rcases Nat.lt_or_ge i j with h5|h5
            · exact h4 j hj (by omega)
            · have:i=j:=by omega
              subst this
              exact rule_inv _ _ _ _ hb.1 hb.2 hr
      · rw[if_neg (by omega),halfS]at h
        simp only[Option.bind_some,decide_eq_true_eq]at h
        by_cases hc:0≤a∧a≤4294967295
        · rw[if_pos hc]at h
          cases hr:spec_l09Act.f b c with
          | none=>rw[hr]at h;simp at h
          | some t=>
            rw[hr]at h
            simp only[Option.bind_some]at h
            cases t with
            | false=>rw[if_neg (by simp)]at h;simp at h
            | true=>
              rw[if_pos rfl]at h
              simp only[Option.some.injEq,decide_eq_true_eq]at h
              exact⟨hc,act_inv (by rw[hr];rfl),by omega,fun j hj hij=>by omega⟩
        · rw[if_neg hc]at h
          simp at h
  obtain⟨h1,h2,h3,h4⟩:=key k 0 (by omega) h
  exact⟨h1,h2,h3,fun y hy=>by
    obtain⟨j,hj,rfl⟩:=List.getElem_of_mem hy
    exact h4 j hj (by omega)⟩
/-- Two rows that rise and bear the same are one. -/
theorem riseEq: ∀ xs ys:List Int,xs.Pairwise (· < ·)→ys.Pairwise (· < ·)→(∀ a,a ∈ xs ↔ a ∈ ys)→xs=ys
  | [],[],_,_,_=>rfl
  | [],y :: ys,_,_,h=>absurd ((h y).2 List.mem_cons_self) (by simp)
  | x :: xs,[],_,_,h=>absurd ((h x).1 List.mem_cons_self) (by simp)
  | x :: xs,y :: ys,hx,hy,h=>by
    rw[List.pairwise_cons]at hx hy
    have e:x=y:=by
      rcases List.mem_cons.1 ((h x).1 List.mem_cons_self)with e|e
      · exact e
      rcases List.mem_cons.1 ((h y).2 List.mem_cons_self)with e2|e2
      · exact e2.symm
      have h1:=hx.1 y e2
      have h2:=hy.1 x e
      omega
    subst e
    rw[riseEq xs ys hx.2 hy.2 (fun a=>⟨fun ha=>by
      rcases List.mem_cons.1 ((h a).1 (List.mem_cons_of_mem _ ha))with e|e
      · have:=hx.1 a ha;omega
      · exact e,fun ha=>by
      rcases List.mem_cons.1 ((h a).2 (List.mem_cons_of_mem _ ha))with e|e
      · have:=hy.1 a ha;omega
      · exact e⟩)]
theorem sort_rise (zs:List Int):(zs.mergeSort fun x y=>decide (x≤y)).Pairwise (· ≤ ·):=by
  have h:=List.pairwise_mergeSort (le:=fun x y:Int=>decide (x≤y)) (fun a b c h1 h2=>by simp at h1 h2 ⊢;omega) (fun a b=>by simp;omega) zs
  exact h.imp (fun h=>by simpa using h)
/-- What a number put into a rising row makes of it. -/
def put (x:List Int) (a:Int):List Int:=if a ∈ x then x else x.filter (fun b=>decide (b<a)) ++ [a] ++ x.filter (fun b=>decide (b>a))
theorem put_mem (x:List Int) (a b:Int):b ∈ put x a ↔ b ∈ x∨b=a:=by
  unfold put
  split
  · rename_i h
    exact⟨.inl,fun hb=>hb.elim id (fun e=>e ▸ h)⟩
  · rename_i h
    simp only[List.mem_append,List.mem_filter,List.mem_singleton,decide_eq_true_eq]
    constructor
    · rintro ((h1|h1)|h1)
      · exact .inl h1.1
      · exact .inr h1
      · exact .inl h1.1
    · rintro (h1|h1)
      · have hne:b≠a:=fun e=>h (e ▸ h1)
        rcases Int.lt_or_gt_of_ne hne with h2|h2
        · exact .inl (.inl ⟨h1,h2⟩)
        · exact .inr ⟨h1,h2⟩
      · exact .inl (.inr h1)
theorem put_rise (x:List Int) (a:Int) (h:x.Pairwise (· < ·)):(put x a).Pairwise (· < ·):=by
  unfold put
  split
  · exact h
  · rw[List.pairwise_append,List.pairwise_append]
    refine⟨⟨h.filter _,by simp,fun u hu v hv=>?_⟩,h.filter _,fun u hu v hv=>?_⟩
    · rw[List.mem_filter,decide_eq_true_eq]at hu
      rw[List.mem_singleton]at hv
      omega
    · rw[List.mem_filter,decide_eq_true_eq]at hv
      rcases List.mem_append.1 hu with hu|hu
      · rw[List.mem_filter,decide_eq_true_eq]at hu
        omega
      · rw[List.mem_singleton]at hu
        omega
theorem put_len (x:List Int) (a:Int):(put x a).length≤x.length+1∨2*x.length+1<(put x a).length:=by
  unfold put
  split
  · exact .inl (by omega)
  · refine .inl ?_
    have key: ∀ l:List Int,(l.filter (fun b=>decide (b<a))).length+(l.filter (fun b=>decide (b>a))).length≤l.length:=by
      intro l
      induction l with
      | nil=>simp
      | cons b l ih=>
        by_cases h1:b<a
        · rw[List.filter_cons_of_pos (by simpa using h1),List.filter_cons_of_neg (by simp;omega)]
          simp only[List.length_cons]
          omega
        · by_cases h2:b>a
          · rw[List.filter_cons_of_neg (by simpa using h1),List.filter_cons_of_pos (by simpa using h2)]
            simp only[List.length_cons]
            omega
          · rw[List.filter_cons_of_neg (by simpa using h1),List.filter_cons_of_neg (by simpa using h2)]
            simp only[List.length_cons]
            omega
    have:=key x
    simp only[List.length_append,List.length_cons,List.length_nil]
    omega
theorem inNums (x:List Int) (a:Int) (hn:x.length≤4611686018427387904):Evt (fun k=>spec_l09In.f k x a) (decide (a ∈ x)):=by
  have key:=down (T:=fun i=>Evt (fun k=>spec_l09In.l0 k x a (i:Int)) (decide (a ∈ x.drop i))) (n:=x.length) ?_ ?_ x.length 0 (by omega)
  · exact key
  · refine .succ (.const fun k=>?_)
    simp only[spec_l09In.l0]
    rw[if_neg (by omega),List.drop_length]
    simp
  · rintro i hi ⟨K,h⟩
    dsimp only at h
    refine .succ ⟨K,fun k hk=>?_⟩
    simp only[spec_l09In.l0]
    rw[if_pos (by omega),if_pos (by omega),nrd x i hi,List.drop_eq_getElem_cons hi]
    by_cases e:x[i]=a
    · rw[if_pos e]
      simp[e]
    · rw[if_neg e,wsucc hi (by omega),h k hk]
      refine congrArg some ?_
      rw[decide_eq_decide,List.mem_cons]
      exact⟨.inr,fun h=>h.resolve_left (fun h=>e h.symm)⟩
theorem put_l1 (x:List Int) (a:Int) (hn:x.length≤2000000000000): ∀ d i (o:List Int),i+d=x.length→o.length+d≤16000000000000→Evt (fun k=>spec_l10Put.l1 k x a o (i:Int)) (o ++ (x.drop i).filter (fun b=>decide (b>a)))
  | 0,i,o,hi,ho=>by
    refine .succ (.const fun k=>?_)
    simp only[spec_l10Put.l1]
    rw[if_neg (by omega),List.drop_eq_nil_of_le (by omega)]
    simp
  | d+1,i,o,hi,ho=>by
    have hlt:i<x.length:=by omega
    rw[List.drop_eq_getElem_cons hlt]
    by_cases h:x[i]>a
    · obtain⟨K,g⟩:=put_l1 x a hn d (i+1) (o ++ [x[i]]) (by omega) (by simp;omega)
      refine .succ ⟨K,fun k hk=>?_⟩
      simp only[spec_l10Put.l1]
      rw[if_pos (by omega),if_pos (by omega),nrd x i hlt,if_pos h,if_pos (by omega),wsucc hlt (by omega),List.filter_cons_of_pos (by simpa using h)]
      have:=g k hk
      rw[List.append_assoc]at this
      exact this
    · obtain⟨K,g⟩:=put_l1 x a hn d (i+1) o (by omega) (by omega)
      refine .succ ⟨K,fun k hk=>?_⟩
      simp only[spec_l10Put.l1]
      rw[if_pos (by omega),if_pos (by omega),nrd x i hlt,if_neg h,wsucc hlt (by omega),List.filter_cons_of_neg (by simpa using h)]
      exact g k hk
theorem put_l0 (x:List Int) (a:Int) (hn:x.length≤2000000000000): ∀ d i (o:List Int),i+d=x.length→o.length+d≤4000000000000→Evt (fun k=>spec_l10Put.l0 k x a o (i:Int)) (o ++ (x.drop i).filter (fun b=>decide (b<a)) ++ [a] ++ x.filter (fun b=>decide (b>a)))
  | 0,i,o,hi,ho=>by
    obtain⟨K,g⟩:=put_l1 x a hn x.length 0 (o ++ [a]) (by omega) (by simp;omega)
    refine .succ ⟨K,fun k hk=>?_⟩
    simp only[spec_l10Put.l0]
    rw[if_neg (by omega),if_pos (by omega),List.drop_eq_nil_of_le (by omega)]
    simpa using g k hk
  | d+1,i,o,hi,ho=>by
    have hlt:i<x.length:=by omega
    rw[List.drop_eq_getElem_cons hlt]
    by_cases h:x[i]<a
    · obtain⟨K,g⟩:=put_l0 x a hn d (i+1) (o ++ [x[i]]) (by omega) (by simp;omega)
      refine .succ ⟨K,fun k hk=>?_⟩
      simp only[spec_l10Put.l0]
      rw[if_pos (by omega),if_pos (by omega),nrd x i hlt,if_pos h,if_pos (by omega),wsucc hlt (by omega),List.filter_cons_of_pos (by simpa using h)]
      have:=g k hk
      simp only[List.append_assoc,List.cons_append,List.nil_append]at this ⊢
      exact this
    · obtain⟨K,g⟩:=put_l0 x a hn d (i+1) o (by omega) (by omega)
      refine .succ ⟨K,fun k hk=>?_⟩
      simp only[spec_l10Put.l0]
      rw[if_pos (by omega),if_pos (by omega),nrd x i hlt,if_neg h,wsucc hlt (by omega),List.filter_cons_of_neg (by simpa using h)]
      exact g k hk
theorem putV (x:List Int) (a:Int) (hn:x.length≤2000000000000):Evt (fun k=>spec_l10Put.f k x a) (put x a):=by
  obtain⟨K1,h1⟩:=inNums x a (by omega)
  obtain⟨K2,h2⟩:=put_l0 x a hn x.length 0 [] (by omega) (by simp;omega)
  dsimp only at h1 h2
  refine⟨K1+K2,fun k hk=>?_⟩
  simp only[spec_l10Put.f,h1 k (by omega),Option.bind_some,put,decide_eq_true_eq]
  by_cases h:a ∈ x
  · rw[if_pos h,if_pos h]
  · rw[if_neg h,if_neg h]
    have:=h2 k (by omega)
    simpa using this
theorem markIntH_l0: ∀ (d i:Nat) (x:List Int) (q:Int),i+d=x.length→0≤q→q+d≤2305843009213693952→x.length≤4611686018427387904→∃ y,Evt (fun k=>laws_markIntS.l0 k x q (i:Int)) (q+d,y)∧Evt (fun k=>laws_heldIntS.l0 k y q (i:Int)) (q+d)∧y.length=x.length∧(∀ j,j<i→y[j]?=x[j]?)
  | 0,i,x,q,hi,hq,hb,hl=>by
    refine⟨x,.succ (.const fun k=>?_),.succ (.const fun k=>?_),rfl,fun _ _=>rfl⟩
    · simp only[laws_markIntS.l0]
      rw[if_neg (by omega)]
      simp
    · simp only[laws_heldIntS.l0]
      rw[if_neg (by omega)]
      simp
  | d+1,i,x,q,hi,hq,hb,hl=>by
    have hlt:i<x.length:=by omega
    obtain⟨y,⟨K,h⟩,⟨K2,h2⟩,hyl,hy⟩:=markIntH_l0 d (i+1) (x.set i q) (q+1) (by rw[List.length_set];omega) (by omega) (by omega) (by rw[List.length_set];exact hl)
    rw[List.length_set]at hyl
    dsimp only at h h2
    have w1:wrap64 (q+1)=q+1:=w64 (by omega) (by omega)
    have hyi:y[i]?=some q:=by rw[hy i (by omega),List.getElem?_set_self hlt]
    have hlt':i<y.length:=by omega
    have hyg:rd y (i:Int)=q:=by
      have e:rd y (i:Int)=y[i]:=getD_lt _ hlt'
      rw[e]
      rw[List.getElem?_eq_getElem hlt']at hyi
      exact Option.some.inj hyi
    refine⟨y,.succ ⟨K,fun k hk=>?_⟩,.succ ⟨K2,fun k hk=>?_⟩,hyl,fun j hj=>?_⟩
    · simp only[laws_markIntS.l0]
      rw[if_pos (by omega),if_pos (by omega),w1,wsucc hlt (by omega),Int.toNat_natCast,h k hk]
      refine congrArg some (Prod.ext ?_ rfl)
      show q+1+(d:Int)=q+((d+1:Nat):Int)
      omega
    · simp only[laws_heldIntS.l0]
      rw[if_pos (by omega),if_pos (by omega),if_pos hyg,w1,wsucc hlt' (by omega),h2 k hk]
      refine congrArg some ?_
      omega
    · rw[hy j (by omega),List.getElem?_set_ne (by omega)]
/-! The strict reading of signs, as a plain function. -/
def pTake (t:ByteArray):List S54→Option (List S54)
  | []=>none
  | x :: r=>if x.f0≠2∧x.f1.toList=t.toList then some r else none
/-- With such a sign ahead, or without. -/
def byTake {α:Type} (t:ByteArray) (l:List S54) (no:α) (yes:List S54→α):α:=match pTake t l with|none=>no|some r=>yes r
theorem byTake_none {α:Type} {t:ByteArray} {l:List S54} (h:pTake t l=none) (no:α) (yes:List S54→α):byTake t l no yes=no:=by simp only[byTake,h]
theorem byTake_some {α:Type} {t:ByteArray} {l r:List S54} (h:pTake t l=some r) (no:α) (yes:List S54→α):byTake t l no yes=yes r:=by simp only[byTake,h]
def pNum:List S54→Option (Int×List S54)
  | []=>none
  | x :: r=>if x.f0=2 then some (x.f2,r)else none
/-- A name's place among some, counted from n on. -/
def place (w:ByteArray):List ByteArray→Int→Option Int
  | [],_=>none
  | m :: ms,n=>if m.toList=w.toList then some n else place w ms (n+1)
def pName (ns:List ByteArray):List S54→Option (Int×List S54)
  | []=>none
  | x :: r=>if x.f0=1 then(place x.f1 ns 0).map fun i=>(i,r)else none
def acts:List ByteArray:=[(⟨#[107,105,108,108]⟩ :ByteArray),(⟨#[116,114,97,112]⟩ :ByteArray),(⟨#[101,114,114]⟩ :ByteArray),(⟨#[116,114,97,99,101]⟩ :ByteArray),(⟨#[108,111,103]⟩ :ByteArray),(⟨#[97,108,108,111,119]⟩ :ByteArray)]
def calls:List ByteArray:=[(⟨#[114,101,97,100]⟩ :ByteArray),(⟨#[119,114,105,116,101]⟩ :ByteArray),(⟨#[111,112,101,110]⟩ :ByteArray),(⟨#[99,108,111,115,101]⟩ :ByteArray),(⟨#[115,116,97,116]⟩ :ByteArray),(⟨#[109,109,97,112]⟩ :ByteArray),(⟨#[101,120,101,99]⟩ :ByteArray),(⟨#[102,111,114,107]⟩ :ByteArray),(⟨#[107,105,108,108]⟩ :ByteArray),(⟨#[115,101,110,100]⟩ :ByteArray),(⟨#[114,101,99,118]⟩ :ByteArray),(⟨#[101,120,105,116]⟩ :ByteArray)]
def cms:List ByteArray:=[(⟨#[61,61]⟩ :ByteArray),(⟨#[33,61]⟩ :ByteArray),(⟨#[60]⟩ :ByteArray),(⟨#[60,61]⟩ :ByteArray),(⟨#[62]⟩ :ByteArray),(⟨#[62,61]⟩ :ByteArray)]
def pAct (l:List S54):Option (Int×Int×List S54):=(pName acts l).bind fun a=>some (match pNum a.2 with|some d=>(a.1,d.1,d.2)|none=>(a.1,0,a.2))
def pWide (l:List S54):Option (Int×Int×List S54):=(pNum l).bind fun n=>match pTake (⟨#[58]⟩ :ByteArray) n.2 with|none=>some (0,n.1,n.2)|some r=>(pNum r).map fun m=>(n.1,m.1,m.2)
def pCm:List ByteArray→Int→List S54→Option (Int×List S54)
  | [],_,_=>none
  | m :: ms,n,l=>match pTake m l with|some r=>some (n,r)|none=>pCm ms (n+1) l
def pMask (l:List S54):Option (Int×Int×List S54):=match pTake (⟨#[38]⟩ :ByteArray) l with|some r=>pWide r|none=>some (4294967295,4294967295,l)
def pCv (l:List S54):Option (Int×Int×Int×List S54):=(pCm cms 1 l).bind fun c=>(pWide c.2).map fun v=>(c.1,v.1,v.2.1,v.2.2)
def pCond (l:List S54):Option (S66×List S54):=(pTake (⟨#[97,114,103]⟩ :ByteArray) l).bind fun r=>(pNum r).bind fun a=>(pMask a.2).bind fun m=>(pCv m.2.2).map fun v=>(⟨a.1,⟨m.1,m.2.1⟩,v.1,⟨v.2.1,v.2.2.1⟩⟩,v.2.2.2)
def pItem (l:List S54):Option (Int×List S54):=match pNum l with|some q=>some q|none=>pName calls l
def pNums:Nat→List Int→List S54→Option (List Int×List S54)
  | 0,_,_=>none
  | d+1,o,l=>(pItem l).bind fun n=>if n.1 ∈ o then none else byTake (⟨#[44]⟩ :ByteArray) n.2 (some (put o n.1,n.2)) (pNums d (put o n.1))
def pConds:Nat→List S66→List S54→Option (List S66×List S54)
  | 0,_,_=>none
  | d+1,o,l=>(pCond l).bind fun c=>byTake (⟨#[97,110,100]⟩ :ByteArray) c.2 (some (o ++ [c.1],c.2)) (pConds d (o ++ [c.1]))
def pEnd (ns:List Int) (cs:List S66) (l:List S54):Option (S43×List S54):=(pTake (⟨#[100,111]⟩ :ByteArray) l).bind fun r=>(pAct r).bind fun a=>(pTake (⟨#[59]⟩ :ByteArray) a.2.2).map fun q=>(⟨ns,cs,a.1,a.2.1⟩,q)
def pTail (ns:List Int) (l:List S54):Option (S43×List S54):=match pTake (⟨#[105,102]⟩ :ByteArray) l with|some r=>(pConds r.length [] r).bind fun c=>pEnd ns c.1 c.2|none=>pEnd ns [] l
def pRule (l:List S54):Option (S43×List S54):=(pTake (⟨#[111,110]⟩ :ByteArray) l).bind fun r=>match pTake (⟨#[97,110,121]⟩ :ByteArray) r with|some q=>pTail [] q|none=>(pNums r.length [] r).bind fun n=>pTail n.1 n.2
def pRules:Nat→List S43→List S54→Option (List S43)
  | 0,o,_=>some o
  | _+1,o,[]=>some o
  | d+1,o,x :: l=>(pRule (x :: l)).bind fun q=>pRules d (o ++ [q.1]) q.2
def pPolicy (l:List S54):Option (Int×Int×Int×List S43):=(pTake (⟨#[97,114,99,104]⟩ :ByteArray) l).bind fun r=>(pNum r).bind fun n=>(pTake (⟨#[59]⟩ :ByteArray) n.2).bind fun r=>(pTake (⟨#[100,101,102,97,117,108,116]⟩ :ByteArray) r).bind fun r=>(pAct r).bind fun a=>(pTake (⟨#[59]⟩ :ByteArray) a.2.2).bind fun r=>(pRules r.length [] r).map fun R=>(n.1,a.1,a.2.1,R)
/-- A sign as a text bears it. -/
def SgW (x:S54):Prop:=(x.f0=1∧∃ b r,x.f1.toList=b :: r∧97≤b.toNat)∨(x.f0=2∧0≤x.f2)∨(x.f0=3∧∃ b r,x.f1.toList=b :: r∧b.toNat<97)
theorem nrdI (l:List S54) (i:Nat) (h:i<l.length):rd_T54 l (i:Int)=l[i]:=getD_lt _ h
theorem tl1 (a:UInt8) (l:Array UInt8) (b:ByteArray) (h:b=⟨#[a] ++ l⟩): ∃ r,b.toList=a :: r:=⟨l.toList,by rw[h,ByteArray.toList_eq];simp⟩
theorem back2 (i:Nat) (h:i≤100000):wrap64 (wrap64 ((i:Int)+1) - 1)=(i:Int):=by
  rw[w64 (x:=(i:Int)+1) (by omega) (by omega),show(i:Int)+1 - 1=(i:Int) by omega]
  exact w64 (by omega) (by omega)
theorem hasBad (L:List S54) (a:Int) (t:ByteArray):impl_reader_has.f L a true t=some (false,a,true):=rfl
theorem mustBad (L:List S54) (a:Int) (t:ByteArray):impl_reader_must.f L a true t=some (a,true):=rfl
theorem isNumBad (L:List S54) (a:Int):impl_reader_isNum.f L a true=some (false,a,true):=rfl
theorem numBad (L:List S54) (a:Int):impl_reader_num.f L a true=some (0,a,true):=rfl
theorem wideBad (L:List S54) (a:Int):impl_reader_wide.f L a true=some (0,0,a,true):=rfl
theorem hasNumE (L:List S54) (a:Int) (b:Bool):spec_l10Read_hasNum.f L a b=impl_reader_isNum.f L a b:=rfl
theorem numE (L:List S54) (a:Int) (b:Bool):spec_l10Read_num.f L a b=impl_reader_num.f L a b:=rfl
/-- A name's place, looked for. -/
theorem indexI (w:ByteArray) (ns:List ByteArray) (hn:ns.length≤100):Evt (fun k=>slices_Index_string_string.f k ns w) ((place w ns 0).getD (-1)):=by
  have key:=down (T:=fun i=>Evt (fun k=>slices_Index_string_string.l0 k ns w (ns.length:Int) (i:Int)) ((place w (ns.drop i) (i:Int)).getD (-1))) (n:=ns.length) ?_ ?_ ns.length 0 (by omega)
  · exact key
  · refine .succ (.const fun k=>?_)
    simp only[slices_Index_string_string.l0]
    rw[if_neg (by omega),List.drop_length]
    rfl
  · rintro i hi ⟨K,h⟩
    dsimp only at h
    have er:rdOf ByteArray.empty ns (i:Int)=ns[i]:=getD_lt _ hi
    rw[List.drop_eq_getElem_cons hi]
    simp only[place]
    by_cases e:ns[i].toList=w.toList
    · refine .succ (.const fun k=>?_)
      simp only[slices_Index_string_string.l0]
      rw[if_pos (by omega),if_pos (by omega),if_pos (by omega),er,if_pos e.symm,if_pos e]
      rfl
    · refine .succ ⟨K,fun k hk=>?_⟩
      simp only[slices_Index_string_string.l0]
      rw[if_pos (by omega),if_pos (by omega),if_pos (by omega),er,if_neg (fun c=>e c.symm),if_neg e,wsucc hi (by omega)]
      exact h k hk
theorem place_nn (w:ByteArray): ∀ (ns:List ByteArray) (n p:Int),place w ns n=some p→n≤p
  | [],n,p,h=>by cases h
  | m :: ms,n,p,h=>by
    simp only[place]at h
    split at h
    · cases h;exact Int.le_refl _
    · have:=place_nn w ms (n+1) p h
      omega
theorem actNames:Evt (fun k=>impl_actionNames.f k) acts:=⟨20,fun k hk=>by
  obtain⟨k,rfl⟩ : ∃ m,k=m+7:=⟨k - 7,by omega⟩
  have step: ∀ (k:Nat) (o:List ByteArray) (i:Nat) (v:ByteArray),i≤5→o.length≤10→impl_ActionName.f (i:Int)=some v→impl_actionNames.l0 (k+1) o (i:Int)=impl_actionNames.l0 k (o ++ [v]) ((i+1:Nat):Int):=fun k o i v hi ho h=>by
    simp only[impl_actionNames.l0]
    rw[if_pos (by omega),h,Option.bind_some,if_pos (by omega),show wrap64 ((i:Int)+1)=((i+1:Nat):Int)from wsucc (show i<100 by omega) (by omega)]
  show impl_actionNames.l0 (k+7) [] ((0:Nat):Int)=_
  rw[step (k+6) _ 0 _ (by omega) (by decide) rfl,step (k+5) _ 1 _ (by omega) (by decide) rfl,step (k+4) _ 2 _ (by omega) (by decide) rfl,step (k+3) _ 3 _ (by omega) (by decide) rfl,step (k+2) _ 4 _ (by omega) (by decide) rfl,step (k+1) _ 5 _ (by omega) (by decide) rfl]
  simp only[impl_actionNames.l0]
  rw[if_neg (by omega)]
  rfl⟩
theorem nameBad (L:List S54) (ns:List ByteArray) (k:Nat) (a:Int):impl_reader_name.f k L a true ns=some (-1,a,true):=by
  unfold impl_reader_name.f
  rw[if_pos rfl]
set_option linter.unusedSectionVars false
section
variable (L:List S54) (hL:L.length≤2000)
include hL
theorem hasI (i:Nat) (hi:i≤L.length) (t:ByteArray):(i<L.length∧pTake t (L.drop i)=some (L.drop (i+1))∧impl_reader_has.f L (i:Int) false t=some (true,((i+1:Nat):Int),false))∨(pTake t (L.drop i)=none∧impl_reader_has.f L (i:Int) false t=some (false,(i:Int),false)):=by
  unfold impl_reader_has.f impl_reader_sees.f
  rw[if_neg (by decide)]
  by_cases h:i<L.length
  · rw[if_pos (by omega),if_pos (by omega),nrdI L i h,List.drop_eq_getElem_cons h]
    simp only[pTake]
    by_cases h1:L[i].f0=2
    · right
      rw[if_neg (fun c=>c.1 h1),if_pos h1]
      exact⟨rfl,rfl⟩
    · rw[if_neg h1]
      by_cases h2:L[i].f1.toList=t.toList
      · left
        rw[if_pos ⟨h1,h2⟩]
        simp only[Option.bind_some,h2,beq_self_eq_true,if_true]
        rw[wsucc h (by omega)]
        exact⟨h,trivial,rfl⟩
      · right
        rw[if_neg (fun c=>h2 c.2),beq_eq_false_iff_ne.2 h2]
        exact⟨rfl,rfl⟩
  · right
    rw[if_neg (by omega),List.drop_eq_nil_of_le (by omega)]
    exact⟨rfl,rfl⟩
theorem mustI (i:Nat) (hi:i≤L.length) (t:ByteArray):(i<L.length∧pTake t (L.drop i)=some (L.drop (i+1))∧impl_reader_must.f L (i:Int) false t=some (((i+1:Nat):Int),false))∨(pTake t (L.drop i)=none∧impl_reader_must.f L (i:Int) false t=some ((i:Int),true)):=by
  unfold impl_reader_must.f
  rcases hasI L hL i hi t with⟨h,e,g⟩|⟨e,g⟩
  · exact .inl ⟨h,e,by rw[g];rfl⟩
  · exact .inr ⟨e,by rw[g];rfl⟩
theorem numI (i:Nat) (hi:i≤L.length):(∃ v,i<L.length∧pNum (L.drop i)=some (v,L.drop (i+1))∧impl_reader_isNum.f L (i:Int) false=some (true,(i:Int),false)∧impl_reader_num.f L (i:Int) false=some (v,((i+1:Nat):Int),false))∨(pNum (L.drop i)=none∧impl_reader_isNum.f L (i:Int) false=some (false,(i:Int),false)∧impl_reader_num.f L (i:Int) false=some (0,(i:Int),true)):=by
  have no:impl_reader_isNum.f L (i:Int) false=some (false,(i:Int),false)→impl_reader_num.f L (i:Int) false=some (0,(i:Int),true):=fun h=>by
    simp only[impl_reader_num.f,h,Option.bind_some,Bool.false_eq_true,if_false]
  by_cases h:i<L.length
  · have hn:impl_reader_isNum.f L (i:Int) false=some (L[i].f0 == 2,(i:Int),false):=by
      unfold impl_reader_isNum.f
      rw[if_neg (by decide),if_pos (by omega),if_pos (by omega),nrdI L i h]
    rw[List.drop_eq_getElem_cons h]
    simp only[pNum]
    by_cases h1:L[i].f0=2
    · left
      rw[h1,beq_self_eq_true]at hn
      refine⟨L[i].f2,h,if_pos h1,hn,?_⟩
      have e1:Aside0 (wrap64 (wrap64 ((i:Int)+1) - 1)=(i:Int)):=⟨back2 i (by omega)⟩
      rw[impl_reader_num.f,hn,Option.bind_some]
      dsimp only
      rw[if_pos rfl,e1.out,if_pos (show(0:Int)≤(i:Int) by omega),if_pos (show(i:Int)<(L.length:Int) by omega),nrdI L i h,wsucc h (show L.length≤9223372036854775807 by omega)]
    · right
      rw[beq_eq_false_iff_ne.2 h1]at hn
      exact⟨if_neg h1,hn,no hn⟩
  · right
    have hn:impl_reader_isNum.f L (i:Int) false=some (false,(i:Int),false):=by
      unfold impl_reader_isNum.f
      rw[if_neg (by decide),if_neg (by omega)]
    rw[List.drop_eq_nil_of_le (by omega)]
    exact⟨rfl,hn,no hn⟩
theorem wdI (i:Nat) (hi:i≤L.length):(∃ a b j,i<j∧j≤L.length∧pWide (L.drop i)=some (a,b,L.drop j)∧impl_reader_wide.f L (i:Int) false=some (a,b,(j:Int),false))∨(pWide (L.drop i)=none∧∃ a b j,impl_reader_wide.f L (i:Int) false=some (a,b,j,true)):=by
  unfold impl_reader_wide.f pWide
  rcases numI L hL i hi with⟨v,h,e,_,g⟩|⟨e,_,g⟩
  · rcases hasI L hL (i+1) (by omega) (⟨#[58]⟩ :ByteArray)with⟨h2,e2,g2⟩|⟨e2,g2⟩
    · rcases numI L hL (i+1+1) (by omega)with⟨u,h3,e3,_,g3⟩|⟨e3,_,g3⟩
      · left
        refine⟨v,u,i+1+1+1,by omega,by omega,?_,?_⟩
        · simp only[e,e2,e3,Option.bind_some,Option.map_some]
        · simp only[g,g2,g3,Option.bind_some,if_true]
      · right
        refine⟨?_,v,0,((i+1+1:Nat):Int),?_⟩
        · simp only[e,e2,e3,Option.bind_some,Option.map_none]
        · simp only[g,g2,g3,Option.bind_some,if_true]
    · left
      refine⟨0,v,i+1,by omega,by omega,?_,?_⟩
      · simp only[e,e2,Option.bind_some]
      · simp only[g,g2,Option.bind_some,Bool.false_eq_true,if_false]
  · right
    refine⟨by rw[e];rfl,0,0,(i:Int),?_⟩
    simp only[g,Option.bind_some,hasBad,Bool.false_eq_true,if_false]
theorem nameE (ns:List ByteArray) (k i:Nat) (h:i<L.length):impl_reader_name.f k L (i:Int) false ns=if L[i].f0=1 then(slices_Index_string_string.f k ns L[i].f1).bind fun t=>some (t,((i+1:Nat):Int),decide (t<0))else some (-1,(i:Int),true):=by
  have e1:Aside0 (wrap64 (wrap64 ((i:Int)+1) - 1)=(i:Int)):=⟨back2 i (by omega)⟩
  unfold impl_reader_name.f
  rw[if_neg (by decide),if_neg (show ¬ (i:Int)≥(L.length:Int) by omega),if_pos (show(0:Int)≤(i:Int) by omega),if_pos (show(i:Int)<(L.length:Int) by omega),nrdI L i h,e1.out,if_pos (show(0:Int)≤(i:Int) by omega),if_pos (show(i:Int)<(L.length:Int) by omega),nrdI L i h,wsucc h (show L.length≤9223372036854775807 by omega)]
theorem nameI (ns:List ByteArray) (hn:ns.length≤100) (i:Nat) (hi:i≤L.length):(∃ v,i<L.length∧pName ns (L.drop i)=some (v,L.drop (i+1))∧Evt (fun k=>impl_reader_name.f k L (i:Int) false ns) (v,((i+1:Nat):Int),false))∨(pName ns (L.drop i)=none∧∃ j,Evt (fun k=>impl_reader_name.f k L (i:Int) false ns) (-1,j,true)):=by
  by_cases h:i<L.length
  · rw[List.drop_eq_getElem_cons h]
    simp only[pName]
    by_cases h1:L[i].f0=1
    · obtain⟨K,g⟩:=indexI L[i].f1 ns hn
      dsimp only at g
      cases hp:place L[i].f1 ns 0 with
      | none=>
        rw[hp]at g
        refine .inr ⟨by rw[if_pos h1];rfl,((i+1:Nat):Int),K,fun k hk=>?_⟩
        show impl_reader_name.f k L (i:Int) false ns=_
        rw[nameE L hL ns k i h,if_pos h1,g k hk]
        rfl
      | some v=>
        rw[hp]at g
        have:=place_nn _ _ _ _ hp
        refine .inl ⟨v,h,by rw[if_pos h1];rfl,K,fun k hk=>?_⟩
        show impl_reader_name.f k L (i:Int) false ns=_
        rw[nameE L hL ns k i h,if_pos h1,g k hk,Option.getD_some,Option.bind_some,decide_eq_false (by omega)]
    · refine .inr ⟨if_neg h1,(i:Int),.const fun k=>?_⟩
      rw[nameE L hL ns k i h,if_neg h1]
  · rw[List.drop_eq_nil_of_le (by omega)]
    refine .inr ⟨rfl,(i:Int),.const fun k=>?_⟩
    unfold impl_reader_name.f
    rw[if_neg (by decide),if_pos (by omega)]
theorem actI (i:Nat) (hi:i≤L.length):(∃ a d j,i<j∧j≤L.length∧pAct (L.drop i)=some (a,d,L.drop j)∧Evt (fun k=>impl_reader_action.f k L (i:Int) false) (a,d,(j:Int),false))∨(pAct (L.drop i)=none∧∃ a d j,Evt (fun k=>impl_reader_action.f k L (i:Int) false) (a,d,j,true)):=by
  unfold impl_reader_action.f pAct
  obtain⟨K1,g1⟩:=actNames
  dsimp only at g1
  rcases nameI L hL acts (by decide) i hi with⟨v,h,e,K2,g2⟩|⟨e,j,K2,g2⟩
  · dsimp only at g2
    rcases numI L hL (i+1) (by omega)with⟨u,h3,e3,g3,g4⟩|⟨e3,g3,g4⟩
    · left
      refine⟨v,u,i+1+1,by omega,by omega,by simp only[e,e3,Option.bind_some],K1+K2,fun k hk=>?_⟩
      simp only[g1 k (by omega),g2 k (by omega),g3,g4,Option.bind_some,if_true]
    · left
      refine⟨v,0,i+1,by omega,by omega,by simp only[e,e3,Option.bind_some],K1+K2,fun k hk=>?_⟩
      simp only[g1 k (by omega),g2 k (by omega),g3,Option.bind_some,Bool.false_eq_true,if_false]
  · dsimp only at g2
    right
    refine⟨by rw[e];rfl,-1,0,j,K1+K2,fun k hk=>?_⟩
    simp only[g1 k (by omega),g2 k (by omega),isNumBad,Option.bind_some,Bool.false_eq_true,if_false]
theorem actBad (i:Int): ∃ a d j,Evt (fun k=>impl_reader_action.f k L i true) (a,d,j,true):=by
  obtain⟨K1,g1⟩:=actNames
  dsimp only at g1
  refine⟨-1,0,i,K1,fun k hk=>?_⟩
  unfold impl_reader_action.f
  simp only[g1 k (by omega),nameBad,isNumBad,Option.bind_some,Bool.false_eq_true,if_false]
end
/-! Conditions, as they are read. -/
/-- A mark or a name that is asked for. -/
def Mk (k:Int) (t:ByteArray):Prop:=(k=1∧∃ b r,t.toList=b :: r∧97≤b.toNat)∨(k=3∧∃ b r,t.toList=b :: r∧b.toNat<97)
theorem Mk.name (a:UInt8) (l:List UInt8) (h:97≤a.toNat):Mk 1 ⟨(a :: l).toArray⟩:= .inl ⟨rfl,a,l,by rw[ByteArray.toList_eq],h⟩
theorem Mk.mark (a:UInt8) (l:List UInt8) (h:a.toNat<97):Mk 3 ⟨(a :: l).toArray⟩:= .inr ⟨rfl,a,l,by rw[ByteArray.toList_eq],h⟩
section
variable (L:List S54) (hL:L.length≤2000)
include hL
theorem cmRun (c0 c1 c2 c c4 c5 a:Int) (b:Bool) (h:c≠0∨b=true) (R:Int×Int×Int×Int×Int×Int×Int×Bool) (hR:Evt (fun k=>impl_reader_cond.l0 k cms (cms.length:Int) (cms.length:Int) L a b c0 c1 c2 c c4 c5) R): ∀ d i,i+d=cms.length→Evt (fun k=>impl_reader_cond.l0 k cms (cms.length:Int) (i:Int) L a b c0 c1 c2 c c4 c5) R
  | 0,i,hi=>by
    have:i=cms.length:=by omega
    subst this
    exact hR
  | d+1,i,hi=>by
    have hlt:i<cms.length:=by omega
    have hc:cms.length=6:=rfl
    obtain⟨K,g⟩:=cmRun c0 c1 c2 c c4 c5 a b h R hR d (i+1) (by omega)
    dsimp only at g
    refine .succ ⟨K,fun k hk=>?_⟩
    simp only[impl_reader_cond.l0]
    rw[if_pos (by omega),if_pos (by omega),if_pos (by omega)]
    by_cases h0:c=0
    · rw[if_pos h0,h.resolve_left (fun f=>f h0),hasBad,Option.bind_some,if_neg Bool.false_ne_true,show wrap64 ((i:Int)+1)=((i+1:Nat):Int)from wsucc hlt (by omega)]
      rw[h.resolve_left (fun f=>f h0)]at g
      exact g k hk
    · rw[if_neg h0,show wrap64 ((i:Int)+1)=((i+1:Nat):Int)from wsucc hlt (by omega)]
      exact g k hk
theorem cmI (i:Nat) (hi:i≤L.length) (c0 c1 c2 c4 c5:Int): ∀ d n,n+d=cms.length→
    (∃ c,i<L.length∧1≤c∧pCm (cms.drop n) ((n:Int)+1) (L.drop i)=some (c,L.drop (i+1))∧∀ R,Evt (fun k=>impl_reader_cond.l0 k cms (cms.length:Int) (cms.length:Int) L ((i+1:Nat):Int) false c0 c1 c2 c c4 c5) R→Evt (fun k=>impl_reader_cond.l0 k cms (cms.length:Int) (n:Int) L (i:Int) false c0 c1 c2 0 c4 c5) R)∨
    (pCm (cms.drop n) ((n:Int)+1) (L.drop i)=none∧∀ R,Evt (fun k=>impl_reader_cond.l0 k cms (cms.length:Int) (cms.length:Int) L (i:Int) false c0 c1 c2 0 c4 c5) R→Evt (fun k=>impl_reader_cond.l0 k cms (cms.length:Int) (n:Int) L (i:Int) false c0 c1 c2 0 c4 c5) R)
  | 0,n,hn=>by
    have:n=cms.length:=by omega
    subst this
    exact .inr ⟨by rw[List.drop_length];rfl,fun R h=>h⟩
  | d+1,n,hn=>by
    have hlt:n<cms.length:=by omega
    have hc:cms.length=6:=rfl
    have er:rdOf ByteArray.empty cms (n:Int)=cms[n]:=getD_lt _ hlt
    have ew:Aside0 (wrap64 ((n:Int)+1)=((n+1:Nat):Int)):=⟨wsucc hlt (by omega)⟩
    have en:((n:Int)+1)=((n+1:Nat):Int):=by omega
    rw[List.drop_eq_getElem_cons hlt]
    simp only[pCm]
    rcases hasI L hL i hi cms[n]with⟨h1,e1,g1⟩|⟨e1,g1⟩
    · left
      refine⟨(n:Int)+1,h1,by omega,by rw[e1],fun R hR=>?_⟩
      obtain⟨K,g⟩:=cmRun L hL c0 c1 c2 ((n:Int)+1) c4 c5 ((i+1:Nat):Int) false (.inl (by omega)) R hR d (n+1) (by omega)
      dsimp only at g
      rw[en]at g
      refine .succ ⟨K,fun k hk=>?_⟩
      simp only[impl_reader_cond.l0]
      rw[if_pos (by omega),if_pos (by omega),if_pos (by omega),if_pos trivial,er,g1,Option.bind_some,if_pos rfl,ew.out]
      exact g k hk
    · rw[e1]
      have step: ∀ R,Evt (fun k=>impl_reader_cond.l0 k cms (cms.length:Int) ((n+1:Nat):Int) L (i:Int) false c0 c1 c2 0 c4 c5) R→Evt (fun k=>impl_reader_cond.l0 k cms (cms.length:Int) (n:Int) L (i:Int) false c0 c1 c2 0 c4 c5) R:=fun R ⟨K,g⟩=> .succ ⟨K,fun k hk=>by
        dsimp only at g
        simp only[impl_reader_cond.l0]
        rw[if_pos (by omega),if_pos (by omega),if_pos (by omega),if_pos trivial,er,g1,Option.bind_some,if_neg Bool.false_ne_true,ew.out]
        exact g k hk⟩
      rcases cmI i hi c0 c1 c2 c4 c5 d (n+1) (by omega)with⟨c,h2,h3,e2,f⟩|⟨e2,f⟩
      · exact .inl ⟨c,h2,h3,by rw[en];exact e2,fun R hR=>step R (f R hR)⟩
      · exact .inr ⟨by rw[en];exact e2,fun R hR=>step R (f R hR)⟩
theorem cmEnd0 (a:Int) (b:Bool) (c0 c1 c2 c4 c5:Int):Evt (fun k=>impl_reader_cond.l0 k cms (cms.length:Int) (cms.length:Int) L a b c0 c1 c2 0 c4 c5) (c0,c1,c2,0,0,0,a,true):= .succ (.const fun k=>by
  simp only[impl_reader_cond.l0]
  rw[if_neg (by omega),if_pos trivial,wideBad]
  rfl)
theorem j0Bad (a c0 c1 c2:Int):Evt (fun k=>impl_reader_cond.j0 k L a true c0 c1 c2 0 0 0) (c0,c1,c2,0,0,0,a,true):=by
  obtain⟨K,g⟩:=cmRun L hL c0 c1 c2 0 0 0 a true (.inr rfl) _ (cmEnd0 L hL a true c0 c1 c2 0 0) cms.length 0 (by omega)
  exact .succ ⟨K,fun k hk=>g k hk⟩
theorem j0I (i:Nat) (hi:i≤L.length) (c0 c1 c2:Int) :
    (∃ c v1 v2 j,i<j∧j≤L.length∧pCv (L.drop i)=some (c,v1,v2,L.drop j)∧Evt (fun k=>impl_reader_cond.j0 k L (i:Int) false c0 c1 c2 0 0 0) (c0,c1,c2,c,v1,v2,(j:Int),false))∨
    (pCv (L.drop i)=none∧∃ c v1 v2 j,Evt (fun k=>impl_reader_cond.j0 k L (i:Int) false c0 c1 c2 0 0 0) (c0,c1,c2,c,v1,v2,j,true)):=by
  unfold pCv
  rcases cmI L hL i hi c0 c1 c2 0 0 cms.length 0 (by omega)with⟨c,h,h1,e,f⟩|⟨e,f⟩
  · rw[show pCm cms 1 (L.drop i)=_ from e]
    simp only[Option.bind_some]
    rcases wdI L hL (i+1) (by omega)with⟨x,y,j,h2,h3,e2,g2⟩|⟨e2,x,y,j,g2⟩
    · left
      obtain⟨K,g⟩:=f (c0,c1,c2,c,x,y,(j:Int),false) (.succ (.const fun k=>by
        simp only[impl_reader_cond.l0]
        rw[if_neg (by omega),if_neg (by omega),g2]
        rfl))
      exact⟨c,x,y,j,by omega,h3,by rw[e2];rfl,.succ ⟨K,fun k hk=>g k hk⟩⟩
    · right
      obtain⟨K,g⟩:=f (c0,c1,c2,c,x,y,j,true) (.succ (.const fun k=>by
        simp only[impl_reader_cond.l0]
        rw[if_neg (by omega),if_neg (by omega),g2]
        rfl))
      exact⟨by rw[e2];rfl,c,x,y,j,.succ ⟨K,fun k hk=>g k hk⟩⟩
  · right
    obtain⟨K,g⟩:=f _ (cmEnd0 L hL (i:Int) false c0 c1 c2 0 0)
    exact⟨by rw[show pCm cms 1 (L.drop i)=_ from e];rfl,0,0,0,(i:Int),.succ ⟨K,fun k hk=>g k hk⟩⟩
/-- What cond tells, with the state. -/
def cdV (y:S66) (j:Int) (b:Bool):Int×Int×Int×Int×Int×Int×Int×Bool:=(y.f0,y.f1.f0,y.f1.f1,y.f2,y.f3.f0,y.f3.f1,j,b)
theorem condBad (a:Int): ∃ y j,Evt (fun k=>impl_reader_cond.f k L a true) (cdV y j true):=by
  obtain⟨K,g⟩:=j0Bad L hL a 0 4294967295 4294967295
  refine⟨⟨0,⟨4294967295,4294967295⟩,0,⟨0,0⟩⟩,a,K,fun k hk=>?_⟩
  simp only[impl_reader_cond.f,mustBad,numBad,hasBad,Option.bind_some,Bool.false_eq_true,if_false]
  exact g k hk
theorem condI_ (i:Nat) (hi:i≤L.length) :
    (∃ y j,i<j∧j≤L.length∧pCond (L.drop i)=some (y,L.drop j)∧Evt (fun k=>impl_reader_cond.f k L (i:Int) false) (cdV y (j:Int) false))∨
    (pCond (L.drop i)=none∧∃ y j,Evt (fun k=>impl_reader_cond.f k L (i:Int) false) (cdV y j true)):=by
  unfold pCond
  rcases mustI L hL i hi (⟨#[97,114,103]⟩ :ByteArray)with⟨h1,e1,g1⟩|⟨e1,g1⟩
  · rw[e1]
    simp only[Option.bind_some]
    rcases numI L hL (i+1) (by omega)with⟨v,h2,e2,_,g2⟩|⟨e2,_,g2⟩
    · rw[e2]
      simp only[Option.bind_some]
      unfold pMask
      rcases hasI L hL (i+1+1) (by omega) (⟨#[38]⟩ :ByteArray)with⟨h3,e3,g3⟩|⟨e3,g3⟩
      · simp only[e3]
        rcases wdI L hL (i+1+1+1) (by omega)with⟨x,y,j,h4,h5,e4,g4⟩|⟨e4,x,y,j,g4⟩
        · rw[e4]
          simp only[Option.bind_some]
          rcases j0I L hL j (by omega) v x y with⟨c,v1,v2,j2,h6,h7,e5,K,g5⟩|⟨e5,c,v1,v2,j2,K,g5⟩
          · left
            refine⟨⟨v,⟨x,y⟩,c,⟨v1,v2⟩⟩,j2,by omega,h7,by rw[e5];rfl,K,fun k hk=>?_⟩
            simp only[impl_reader_cond.f,g1,g2,g3,g4,Option.bind_some,if_true]
            exact g5 k hk
          · right
            refine⟨by rw[e5];rfl,⟨v,⟨x,y⟩,c,⟨v1,v2⟩⟩,j2,K,fun k hk=>?_⟩
            simp only[impl_reader_cond.f,g1,g2,g3,g4,Option.bind_some,if_true]
            exact g5 k hk
        · right
          obtain⟨K,g5⟩:=j0Bad L hL j v x y
          refine⟨by rw[e4];rfl,⟨v,⟨x,y⟩,0,⟨0,0⟩⟩,j,K,fun k hk=>?_⟩
          simp only[impl_reader_cond.f,g1,g2,g3,g4,Option.bind_some,if_true]
          exact g5 k hk
      · simp only[e3,Option.bind_some]
        rcases j0I L hL (i+1+1) (by omega) v 4294967295 4294967295 with⟨c,v1,v2,j2,h6,h7,e5,K,g5⟩|⟨e5,c,v1,v2,j2,K,g5⟩
        · left
          refine⟨⟨v,⟨4294967295,4294967295⟩,c,⟨v1,v2⟩⟩,j2,by omega,h7,by rw[e5];rfl,K,fun k hk=>?_⟩
          simp only[impl_reader_cond.f,g1,g2,g3,Option.bind_some,Bool.false_eq_true,if_false]
          exact g5 k hk
        · right
          refine⟨by rw[e5];rfl,⟨v,⟨4294967295,4294967295⟩,c,⟨v1,v2⟩⟩,j2,K,fun k hk=>?_⟩
          simp only[impl_reader_cond.f,g1,g2,g3,Option.bind_some,Bool.false_eq_true,if_false]
          exact g5 k hk
    · right
      obtain⟨K,g5⟩:=j0Bad L hL ((i+1:Nat):Int) 0 4294967295 4294967295
      refine⟨by rw[e2];rfl,⟨0,⟨4294967295,4294967295⟩,0,⟨0,0⟩⟩,((i+1:Nat):Int),K,fun k hk=>?_⟩
      simp only[impl_reader_cond.f,g1,g2,hasBad,Option.bind_some,Bool.false_eq_true,if_false]
      exact g5 k hk
  · right
    obtain⟨K,g5⟩:=j0Bad L hL (i:Int) 0 4294967295 4294967295
    refine⟨by rw[e1];rfl,⟨0,⟨4294967295,4294967295⟩,0,⟨0,0⟩⟩,(i:Int),K,fun k hk=>?_⟩
    simp only[impl_reader_cond.f,g1,numBad,hasBad,Option.bind_some,Bool.false_eq_true,if_false]
    exact g5 k hk
/-! The reference's side. -/
variable (hW: ∀ x ∈ L,SgW x)
include hW
theorem takesE (k:Int) (t:ByteArray) (hk:Mk k t) (a:Int) (b:Bool):spec_l10Read_takes.f L a b k t=impl_reader_has.f L a b t:=by
  unfold spec_l10Read_takes.f impl_reader_has.f
  cases b with
  | true=>rfl
  | false=>
    rw[if_neg (by decide)]
    suffices h:spec_l10Read_is.f L a false k t=impl_reader_sees.f L a false t by rw[h]
    unfold spec_l10Read_is.f impl_reader_sees.f
    rw[if_neg (by decide)]
    by_cases h1:a<(L.length:Int)
    · rw[if_pos h1,if_pos h1]
      by_cases h2:0≤a
      · rw[if_pos h2,if_pos h2]
        obtain⟨i,rfl⟩ : ∃ i:Nat,a=(i:Int):=⟨a.toNat,by omega⟩
        rw[nrdI L i (by omega)]
        have hx:=hW L[i] (List.getElem_mem (by omega))
        generalize L[i]=x at hx
        have tt:x.f1.toList=t.toList→(x.f1.toList == t.toList)=true:=fun h=>by rw[h];exact beq_self_eq_true _
        rcases hx with⟨x0,b1,r1,x1,x2⟩|⟨x0,_⟩|⟨x0,b1,r1,x1,x2⟩
        · rw[if_neg (show ¬ x.f0=2 by omega)]
          rcases hk with⟨rfl,b2,r2,k1,k2⟩|⟨rfl,b2,r2,k1,k2⟩
          · rw[if_pos x0]
          · rw[if_neg (by omega),beq_eq_false_iff_ne.2 (fun h=>by
              rw[x1,k1]at h
              injection h with h _
              rw[h]at x2
              omega)]
        · rw[if_pos x0,if_neg (by rcases hk with⟨rfl,_⟩|⟨rfl,_⟩ <;> omega)]
        · rw[if_neg (show ¬ x.f0=2 by omega)]
          rcases hk with⟨rfl,b2,r2,k1,k2⟩|⟨rfl,b2,r2,k1,k2⟩
          · rw[if_neg (by omega),beq_eq_false_iff_ne.2 (fun h=>by
              rw[x1,k1]at h
              injection h with h _
              rw[h]at x2
              omega)]
          · rw[if_pos x0]
      · rw[if_neg h2,if_neg h2]
    · rw[if_neg h1,if_neg h1]
theorem wantsE (k:Int) (t:ByteArray) (hk:Mk k t) (a:Int) (b:Bool):spec_l10Read_wants.f L a b k t=impl_reader_must.f L a b t:=by
  unfold spec_l10Read_wants.f impl_reader_must.f
  rw[takesE L hL hW k t hk]
theorem wideE (a:Int) (b:Bool):spec_l10Read_wide.f L a b=impl_reader_wide.f L a b:=by
  unfold spec_l10Read_wide.f impl_reader_wide.f
  simp only[takesE L hL hW 3 (⟨#[58]⟩ :ByteArray) (Mk.mark 58 [] (by decide)),numE]
/-- The reference's marks. -/
def cmsS:List ByteArray:=(⟨#[]⟩ :ByteArray) :: cms
omit hL hW in
theorem cms_mk: ∀ m ∈ cms,Mk 3 m:=by
  intro m hm
  simp only[cms,List.mem_cons,List.not_mem_nil,or_false]at hm
  rcases hm with rfl|rfl|rfl|rfl|rfl|rfl
  · exact Mk.mark 61 [61] (by decide)
  · exact Mk.mark 33 [61] (by decide)
  · exact Mk.mark 60 [] (by decide)
  · exact Mk.mark 60 [61] (by decide)
  · exact Mk.mark 62 [] (by decide)
  · exact Mk.mark 62 [61] (by decide)
theorem cmRunS (c0 c1 c2 c c4 c5 a:Int) (b:Bool) (h:c≠0∨b=true) (R:Int×Int×Int×Int×Int×Int×Int×Bool) (hR:Evt (fun k=>spec_l10Read_cond.l0 k cmsS 7 L a b c0 c1 c2 c c4 c5) R): ∀ d i,i+d=cms.length→Evt (fun k=>spec_l10Read_cond.l0 k cmsS ((i+1:Nat):Int) L a b c0 c1 c2 c c4 c5) R
  | 0,i,hi=>by
    have:i=6:=by have:cms.length=6:=rfl;omega
    subst this
    exact hR
  | d+1,i,hi=>by
    have hlt:i<cms.length:=by omega
    have hc:cms.length=6:=rfl
    have hcS:cmsS.length=7:=rfl
    have er:rdOf ByteArray.empty cmsS ((i+1:Nat):Int)=cms[i]:=getD_lt _ (show i+1<cmsS.length by omega)
    have ew:Aside0 (wrap64 (((i+1:Nat):Int)+1)=((i+1+1:Nat):Int)):=⟨wsucc (show i+1<100 by omega) (by omega)⟩
    obtain⟨K,g⟩:=cmRunS c0 c1 c2 c c4 c5 a b h R hR d (i+1) (by omega)
    dsimp only at g
    refine .succ ⟨K,fun k hk=>?_⟩
    simp only[spec_l10Read_cond.l0]
    rw[if_pos (by omega)]
    by_cases h0:c=0
    · rw[if_pos h0,if_pos (by omega),takesE L hL hW 3 _ (by rw[er];exact cms_mk _ (List.getElem_mem hlt)),h.resolve_left (fun f=>f h0),hasBad,Option.bind_some,if_neg Bool.false_ne_true,ew.out]
      rw[h.resolve_left (fun f=>f h0)]at g
      exact g k hk
    · rw[if_neg h0,ew.out]
      exact g k hk
theorem cmS (i:Nat) (hi:i≤L.length) (c0 c1 c2 c4 c5:Int): ∀ d n,n+d=cms.length→
    (∃ c,i<L.length∧1≤c∧pCm (cms.drop n) ((n:Int)+1) (L.drop i)=some (c,L.drop (i+1))∧∀ R,Evt (fun k=>spec_l10Read_cond.l0 k cmsS 7 L ((i+1:Nat):Int) false c0 c1 c2 c c4 c5) R→Evt (fun k=>spec_l10Read_cond.l0 k cmsS ((n+1:Nat):Int) L (i:Int) false c0 c1 c2 0 c4 c5) R)∨
    (pCm (cms.drop n) ((n:Int)+1) (L.drop i)=none∧∀ R,Evt (fun k=>spec_l10Read_cond.l0 k cmsS 7 L (i:Int) false c0 c1 c2 0 c4 c5) R→Evt (fun k=>spec_l10Read_cond.l0 k cmsS ((n+1:Nat):Int) L (i:Int) false c0 c1 c2 0 c4 c5) R)
  | 0,n,hn=>by
    have:n=6:=by have:cms.length=6:=rfl;omega
    subst this
    exact .inr ⟨rfl,fun R h=>h⟩
  | d+1,n,hn=>by
    have hlt:n<cms.length:=by omega
    have hc:cms.length=6:=rfl
    have hcS:cmsS.length=7:=rfl
    have er:rdOf ByteArray.empty cmsS ((n+1:Nat):Int)=cms[n]:=getD_lt _ (show n+1<cmsS.length by omega)
    have ew:Aside0 (wrap64 (((n+1:Nat):Int)+1)=((n+1+1:Nat):Int)):=⟨wsucc (show n+1<100 by omega) (by omega)⟩
    have en:((n:Int)+1)=((n+1:Nat):Int):=by omega
    have hm:=cms_mk _ (List.getElem_mem hlt)
    rw[List.drop_eq_getElem_cons hlt]
    simp only[pCm]
    rcases hasI L hL i hi cms[n]with⟨h1,e1,g1⟩|⟨e1,g1⟩
    · left
      refine⟨(n:Int)+1,h1,by omega,by rw[e1],fun R hR=>?_⟩
      obtain⟨K,g⟩:=cmRunS L hL hW c0 c1 c2 ((n:Int)+1) c4 c5 ((i+1:Nat):Int) false (.inl (by omega)) R hR d (n+1) (by omega)
      dsimp only at g
      rw[en]at g
      refine .succ ⟨K,fun k hk=>?_⟩
      simp only[spec_l10Read_cond.l0]
      rw[if_pos (by omega),if_pos trivial,if_pos (by omega),er,takesE L hL hW 3 _ hm,g1,Option.bind_some,if_pos rfl,ew.out]
      exact g k hk
    · rw[e1]
      have step: ∀ R,Evt (fun k=>spec_l10Read_cond.l0 k cmsS ((n+1+1:Nat):Int) L (i:Int) false c0 c1 c2 0 c4 c5) R→Evt (fun k=>spec_l10Read_cond.l0 k cmsS ((n+1:Nat):Int) L (i:Int) false c0 c1 c2 0 c4 c5) R:=fun R ⟨K,g⟩=> .succ ⟨K,fun k hk=>by
        dsimp only at g
        simp only[spec_l10Read_cond.l0]
        rw[if_pos (by omega),if_pos trivial,if_pos (by omega),er,takesE L hL hW 3 _ hm,g1,Option.bind_some,if_neg Bool.false_ne_true,ew.out]
        exact g k hk⟩
      rcases cmS i hi c0 c1 c2 c4 c5 d (n+1) (by omega)with⟨c,h2,h3,e2,f⟩|⟨e2,f⟩
      · exact .inl ⟨c,h2,h3,by rw[en];exact e2,fun R hR=>step R (f R hR)⟩
      · exact .inr ⟨by rw[en];exact e2,fun R hR=>step R (f R hR)⟩
theorem cmEndS (a:Int) (b:Bool) (c0 c1 c2 c v1 v2 j:Int) (b2:Bool) (h:impl_reader_wide.f L a b=some (v1,v2,j,b2)):Evt (fun k=>spec_l10Read_cond.l0 k cmsS 7 L a b c0 c1 c2 c 0 0) (c0,c1,c2,c,v1,v2,j,b2):= .succ (.const fun k=>by
  simp only[spec_l10Read_cond.l0]
  rw[if_neg (show ¬ (7:Int)<(cmsS.length:Int) by decide),wideE L hL hW,h]
  rfl)
theorem j0BadS (a c0 c1 c2:Int):Evt (fun k=>spec_l10Read_cond.j0 k L a true c0 c1 c2 0 0 0) (c0,c1,c2,0,0,0,a,true):=by
  obtain⟨K,g⟩:=cmRunS L hL hW c0 c1 c2 0 0 0 a true (.inr rfl) _ (cmEndS L hL hW a true c0 c1 c2 0 0 0 a true (wideBad L a)) cms.length 0 (by omega)
  exact .succ ⟨K,fun k hk=>g k hk⟩
theorem j0S (i:Nat) (hi:i≤L.length) (c0 c1 c2:Int) :
    (∃ c v1 v2 j,i<j∧j≤L.length∧pCv (L.drop i)=some (c,v1,v2,L.drop j)∧Evt (fun k=>spec_l10Read_cond.j0 k L (i:Int) false c0 c1 c2 0 0 0) (c0,c1,c2,c,v1,v2,(j:Int),false))∨
    (pCv (L.drop i)=none∧∃ c v1 v2 j,Evt (fun k=>spec_l10Read_cond.j0 k L (i:Int) false c0 c1 c2 0 0 0) (c0,c1,c2,c,v1,v2,j,true))∨
    (pCv (L.drop i)=none∧∃ v1 v2,∃ j:Nat,i<j∧j≤L.length∧Evt (fun k=>spec_l10Read_cond.j0 k L (i:Int) false c0 c1 c2 0 0 0) (c0,c1,c2,0,v1,v2,(j:Int),false)):=by
  unfold pCv
  rcases cmS L hL hW i hi c0 c1 c2 0 0 cms.length 0 (by omega)with⟨c,h,h1,e,f⟩|⟨e,f⟩
  · rw[show pCm cms 1 (L.drop i)=_ from e]
    simp only[Option.bind_some]
    rcases wdI L hL (i+1) (by omega)with⟨x,y,j,h2,h3,e2,g2⟩|⟨e2,x,y,j,g2⟩
    · left
      obtain⟨K,g⟩:=f _ (cmEndS L hL hW _ _ c0 c1 c2 c _ _ _ _ g2)
      exact⟨c,x,y,j,by omega,h3,by rw[e2];rfl,.succ ⟨K,fun k hk=>g k hk⟩⟩
    · right;left
      obtain⟨K,g⟩:=f _ (cmEndS L hL hW _ _ c0 c1 c2 c _ _ _ _ g2)
      exact⟨by rw[e2];rfl,c,x,y,j,.succ ⟨K,fun k hk=>g k hk⟩⟩
  · right
    rw[show pCm cms 1 (L.drop i)=_ from e]
    rcases wdI L hL i hi with⟨x,y,j,h2,h3,e2,g2⟩|⟨e2,x,y,j,g2⟩
    · right
      obtain⟨K,g⟩:=f _ (cmEndS L hL hW _ _ c0 c1 c2 0 _ _ _ _ g2)
      exact⟨rfl,x,y,j,h2,h3,.succ ⟨K,fun k hk=>g k hk⟩⟩
    · left
      obtain⟨K,g⟩:=f _ (cmEndS L hL hW _ _ c0 c1 c2 0 _ _ _ _ g2)
      exact⟨rfl,0,x,y,j,.succ ⟨K,fun k hk=>g k hk⟩⟩
theorem condBadS (a:Int): ∃ y j,Evt (fun k=>spec_l10Read_cond.f k L a true) (cdV y j true):=by
  obtain⟨K,g⟩:=j0BadS L hL hW a 0 4294967295 4294967295
  refine⟨⟨0,⟨4294967295,4294967295⟩,0,⟨0,0⟩⟩,a,K,fun k hk=>?_⟩
  simp only[spec_l10Read_cond.f,wantsE L hL hW 1 (⟨#[97,114,103]⟩ :ByteArray) (Mk.name 97 [114,103] (by decide)),takesE L hL hW 3 (⟨#[38]⟩ :ByteArray) (Mk.mark 38 [] (by decide)),numE,mustBad,numBad,hasBad,Option.bind_some,Bool.false_eq_true,if_false]
  exact g k hk
theorem condS_ (i:Nat) (hi:i≤L.length) :
    (∃ y j,i<j∧j≤L.length∧pCond (L.drop i)=some (y,L.drop j)∧Evt (fun k=>spec_l10Read_cond.f k L (i:Int) false) (cdV y (j:Int) false))∨
    (pCond (L.drop i)=none∧∃ y j,Evt (fun k=>spec_l10Read_cond.f k L (i:Int) false) (cdV y j true))∨
    (pCond (L.drop i)=none∧∃ y,∃ j:Nat,i<j∧j≤L.length∧y.f2=0∧Evt (fun k=>spec_l10Read_cond.f k L (i:Int) false) (cdV y (j:Int) false)):=by
  have w1:=wantsE L hL hW 1 (⟨#[97,114,103]⟩ :ByteArray) (Mk.name 97 [114,103] (by decide))
  have w2:=takesE L hL hW 3 (⟨#[38]⟩ :ByteArray) (Mk.mark 38 [] (by decide))
  unfold pCond
  rcases mustI L hL i hi (⟨#[97,114,103]⟩ :ByteArray)with⟨h1,e1,g1⟩|⟨e1,g1⟩
  · rw[e1]
    simp only[Option.bind_some]
    rcases numI L hL (i+1) (by omega)with⟨v,h2,e2,_,g2⟩|⟨e2,_,g2⟩
    · rw[e2]
      simp only[Option.bind_some]
      unfold pMask
      rcases hasI L hL (i+1+1) (by omega) (⟨#[38]⟩ :ByteArray)with⟨h3,e3,g3⟩|⟨e3,g3⟩
      · simp only[e3]
        rcases wdI L hL (i+1+1+1) (by omega)with⟨x,y,j,h4,h5,e4,g4⟩|⟨e4,x,y,j,g4⟩
        · rw[e4]
          simp only[Option.bind_some]
          rcases j0S L hL hW j (by omega) v x y with⟨c,v1,v2,j2,h6,h7,e5,K,g5⟩|⟨e5,c,v1,v2,j2,K,g5⟩|⟨e5,v1,v2,j2,h6,h7,K,g5⟩
          · left
            refine⟨⟨v,⟨x,y⟩,c,⟨v1,v2⟩⟩,j2,by omega,h7,by rw[e5];rfl,K,fun k hk=>?_⟩
            simp only[spec_l10Read_cond.f,w1,w2,numE,wideE L hL hW,g1,g2,g3,g4,Option.bind_some,if_true]
            exact g5 k hk
          · right;left
            refine⟨by rw[e5];rfl,⟨v,⟨x,y⟩,c,⟨v1,v2⟩⟩,j2,K,fun k hk=>?_⟩
            simp only[spec_l10Read_cond.f,w1,w2,numE,wideE L hL hW,g1,g2,g3,g4,Option.bind_some,if_true]
            exact g5 k hk
          · right;right
            refine⟨by rw[e5];rfl,⟨v,⟨x,y⟩,0,⟨v1,v2⟩⟩,j2,by omega,h7,rfl,K,fun k hk=>?_⟩
            simp only[spec_l10Read_cond.f,w1,w2,numE,wideE L hL hW,g1,g2,g3,g4,Option.bind_some,if_true]
            exact g5 k hk
        · right;left
          obtain⟨K,g5⟩:=j0BadS L hL hW j v x y
          refine⟨by rw[e4];rfl,⟨v,⟨x,y⟩,0,⟨0,0⟩⟩,j,K,fun k hk=>?_⟩
          simp only[spec_l10Read_cond.f,w1,w2,numE,wideE L hL hW,g1,g2,g3,g4,Option.bind_some,if_true]
          exact g5 k hk
      · simp only[e3,Option.bind_some]
        rcases j0S L hL hW (i+1+1) (by omega) v 4294967295 4294967295 with⟨c,v1,v2,j2,h6,h7,e5,K,g5⟩|⟨e5,c,v1,v2,j2,K,g5⟩|⟨e5,v1,v2,j2,h6,h7,K,g5⟩
        · left
          refine⟨⟨v,⟨4294967295,4294967295⟩,c,⟨v1,v2⟩⟩,j2,by omega,h7,by rw[e5];rfl,K,fun k hk=>?_⟩
          simp only[spec_l10Read_cond.f,w1,w2,numE,g1,g2,g3,Option.bind_some,Bool.false_eq_true,if_false]
          exact g5 k hk
        · right;left
          refine⟨by rw[e5];rfl,⟨v,⟨4294967295,4294967295⟩,c,⟨v1,v2⟩⟩,j2,K,fun k hk=>?_⟩
          simp only[spec_l10Read_cond.f,w1,w2,numE,g1,g2,g3,Option.bind_some,Bool.false_eq_true,if_false]
          exact g5 k hk
        · right;right
          refine⟨by rw[e5];rfl,⟨v,⟨4294967295,4294967295⟩,0,⟨v1,v2⟩⟩,j2,by omega,h7,rfl,K,fun k hk=>?_⟩
          simp only[spec_l10Read_cond.f,w1,w2,numE,g1,g2,g3,Option.bind_some,Bool.false_eq_true,if_false]
          exact g5 k hk
    · right;left
      obtain⟨K,g5⟩:=j0BadS L hL hW ((i+1:Nat):Int) 0 4294967295 4294967295
      refine⟨by rw[e2];rfl,⟨0,⟨4294967295,4294967295⟩,0,⟨0,0⟩⟩,((i+1:Nat):Int),K,fun k hk=>?_⟩
      simp only[spec_l10Read_cond.f,w1,w2,numE,g1,g2,hasBad,Option.bind_some,Bool.false_eq_true,if_false]
      exact g5 k hk
  · right;left
    obtain⟨K,g5⟩:=j0BadS L hL hW (i:Int) 0 4294967295 4294967295
    refine⟨by rw[e1];rfl,⟨0,⟨4294967295,4294967295⟩,0,⟨0,0⟩⟩,(i:Int),K,fun k hk=>?_⟩
    simp only[spec_l10Read_cond.f,w1,w2,numE,g1,numBad,hasBad,Option.bind_some,Bool.false_eq_true,if_false]
    exact g5 k hk
end
/-! Rules, as they are read. -/
/-- What rule tells, with the state. -/
def ruV (x:S43) (j:Int) (b:Bool):List Int×List S66×Int×Int×Int×Bool:=(x.f0,x.f1,x.f2,x.f3,j,b)
/-- A rule's end. -/
def endI (k:Nat) (L:List S54) (a:Int) (b:Bool) (ns:List Int) (cs:List S66):Option (List Int×List S66×Int×Int×Int×Bool):=(impl_reader_must.f L a b (⟨#[100,111]⟩ :ByteArray)).bind fun r=>(impl_reader_action.f k L r.1 r.2).bind fun u=>(impl_reader_must.f L u.2.2.1 u.2.2.2 (⟨#[59]⟩ :ByteArray)).bind fun v=>some (ns,cs,u.1,u.2.1,v.1,v.2)
def endS (k:Nat) (L:List S54) (a:Int) (b:Bool) (ns:List Int) (cs:List S66):Option (List Int×List S66×Int×Int×Int×Bool):=(spec_l10Read_wants.f L a b 1 (⟨#[100,111]⟩ :ByteArray)).bind fun r=>(spec_l10Read_action.f k L r.1 r.2).bind fun u=>(spec_l10Read_wants.f L u.2.2.1 u.2.2.2 3 (⟨#[59]⟩ :ByteArray)).bind fun v=>some (ns,cs,u.1,u.2.1,v.1,v.2)
def Bd (x:S43):Prop:=x.f0.length≤4000∧x.f1.length≤4000
def sortN (x:List Int):List Int:=x.mergeSort fun a b=>decide (a≤b)
theorem sortN_len (x:List Int):(sortN x).length=x.length:=List.length_mergeSort _
theorem sortN_nil:sortN []= []:=List.eq_nil_of_length_eq_zero (sortN_len [])
theorem up_of {x:List Int} (h: ∀ i (h:i+1<x.length),x[i]<x[i+1]): ∀ d i (hi:i+d+1<x.length),x[i]<x[i+d+1]
  | 0,i,hi=>h i hi
  | d+1,i,hi=>by
    have h1:=up_of h d i (by omega)
    have h2:=h (i+d+1) (by omega)
    have e:x[i+(d+1)+1]=x[i+d+1+1]:=rfl
    omega
theorem NumsR.rise {x:List Int} (h:NumsR x):x.Pairwise (· < ·):=by
  rw[List.pairwise_iff_getElem]
  intro i j hi hj hij
  have h1:=up_of h.2 (j - i - 1) i (by omega)
  have e:i+(j - i - 1)+1=j:=by omega
  simp only[e]at h1
  exact h1
theorem sortN_bad {x:List Int} (h: ¬ x.Nodup): ¬ NumsR (sortN x):=fun c=>h (by
  have h1:(sortN x).Nodup:=c.rise.imp (fun h=>by omega)
  exact(List.mergeSort_perm x _).nodup_iff.1 h1)
theorem sortN_rise {x:List Int} (h:x.Nodup):(sortN x).Pairwise (· < ·):=by
  have h1:(sortN x).Nodup:=(List.mergeSort_perm x _).nodup_iff.2 h
  have h2:(sortN x).Pairwise (· ≤ ·):=sort_rise x
  exact(List.Pairwise.and h2 h1).imp (fun h=>by have:=h.1;have:=h.2;omega)
theorem put_le (x:List Int) (a:Int):(put x a).length≤x.length+1:=by
  rcases put_len x a with h|h
  · exact h
  · exfalso
    have h3:(put x a).length≤x.length+1+x.length:=by
      unfold put
      split
      · omega
      · have g1:=List.length_filter_le (fun b=>decide (b<a)) x
        have g2:=List.length_filter_le (fun b=>decide (b>a)) x
        simp only[List.length_append,List.length_cons,List.length_nil]
        omega
    omega
/-- A number's call, looked for. -/
theorem callS (w:ByteArray):Evt (fun k=>spec_CallNumber.f k w) ((place w calls 0).getD (-1)):=by
  have key:=down (T:=fun i=>Evt (fun k=>spec_CallNumber.l0 k w calls (i:Int)) ((place w (calls.drop i) (i:Int)).getD (-1))) (n:=calls.length) ?_ ?_ calls.length 0 (by omega)
  · exact key
  · refine .succ (.const fun k=>?_)
    simp only[spec_CallNumber.l0]
    rw[if_neg (by omega),List.drop_length]
    rfl
  · rintro i hi ⟨K,h⟩
    dsimp only at h
    have hc:calls.length=12:=rfl
    have er:rdOf ByteArray.empty calls (i:Int)=calls[i]:=getD_lt _ hi
    rw[List.drop_eq_getElem_cons hi]
    simp only[place]
    by_cases e:calls[i].toList=w.toList
    · refine .succ (.const fun k=>?_)
      simp only[spec_CallNumber.l0]
      rw[if_pos (by omega),if_pos (by omega),er,if_pos e,if_pos e]
      rfl
    · refine .succ ⟨K,fun k hk=>?_⟩
      simp only[spec_CallNumber.l0]
      rw[if_pos (by omega),if_pos (by omega),er,if_neg e,if_neg e,show wrap64 ((i:Int)+1)=((i+1:Nat):Int)from wsucc hi (by omega)]
      exact h k hk
/-- The last place of a name. -/
def lastP (w:ByteArray):List ByteArray→Int→Int→Int
  | [],_,a=>a
  | m :: ms,n,a=>lastP w ms (n+1) (if m.toList=w.toList then n else a)
theorem last_place (w:ByteArray):lastP w acts 0 (-1)=(place w acts 0).getD (-1):=by
  simp only[acts,lastP,place,ByteArray.toList_eq]
  generalize w.data.toList=l
  by_cases h0: [(107:UInt8),105,108,108]=l
  · subst h0;simp
  by_cases h1: [(116:UInt8),114,97,112]=l
  · subst h1;simp
  by_cases h2: [(101:UInt8),114,114]=l
  · subst h2;simp
  by_cases h3: [(116:UInt8),114,97,99,101]=l
  · subst h3;simp
  by_cases h4: [(108:UInt8),111,103]=l
  · subst h4;simp
  by_cases h5: [(97:UInt8),108,108,111,119]=l
  · subst h5;simp
  simp[h0,h1,h2,h3,h4,h5]
section
variable (L:List S54) (hL:L.length≤2000)
include hL
theorem itemI (i:Nat) (hi:i≤L.length):(∃ v,i<L.length∧pItem (L.drop i)=some (v,L.drop (i+1))∧Evt (fun k=>impl_reader_item.f k L (i:Int) false) (v,((i+1:Nat):Int),false))∨(pItem (L.drop i)=none∧∃ j,Evt (fun k=>impl_reader_item.f k L (i:Int) false) (-1,j,true)):=by
  unfold pItem
  rcases numI L hL i hi with⟨v,h,e,g1,g2⟩|⟨e,g1,g2⟩
  · left
    refine⟨v,h,by rw[e],.const fun k=>?_⟩
    simp only[impl_reader_item.f,g1,g2,Option.bind_some,if_true]
  · rw[e]
    rcases nameI L hL calls (by decide) i hi with⟨v,h,e2,K,g⟩|⟨e2,j,K,g⟩
    · left
      refine⟨v,h,e2,K,fun k hk=>?_⟩
      simp only[impl_reader_item.f,g1,Option.bind_some,Bool.false_eq_true,if_false,show impl_CallNames.f=some calls from rfl]
      rw[show impl_reader_name.f k L (i:Int) false _=_ from g k hk]
      rfl
    · right
      refine⟨e2,j,K,fun k hk=>?_⟩
      simp only[impl_reader_item.f,g1,Option.bind_some,Bool.false_eq_true,if_false,show impl_CallNames.f=some calls from rfl]
      rw[show impl_reader_name.f k L (i:Int) false _=_ from g k hk]
      rfl
theorem endBad (a:Int) (ns:List Int) (cs:List S66): ∃ x j,Evt (fun k=>endI k L a true ns cs) (ruV x j true):=by
  obtain⟨u,d,j,K,g⟩:=actBad L hL a
  dsimp only at g
  refine⟨⟨ns,cs,u,d⟩,j,K,fun k hk=>?_⟩
  simp only[endI,mustBad,g k hk,Option.bind_some]
  rfl
theorem endI_ (i:Nat) (hi:i≤L.length) (ns:List Int) (cs:List S66) :
    (∃ x j,i<j∧j≤L.length∧pEnd ns cs (L.drop i)=some (x,L.drop j)∧x.f0=ns∧x.f1=cs∧Evt (fun k=>endI k L (i:Int) false ns cs) (ruV x (j:Int) false))∨
    (pEnd ns cs (L.drop i)=none∧∃ x j,Evt (fun k=>endI k L (i:Int) false ns cs) (ruV x j true)):=by
  unfold pEnd
  rcases mustI L hL i hi (⟨#[100,111]⟩ :ByteArray)with⟨h1,e1,g1⟩|⟨e1,g1⟩
  · rw[e1]
    simp only[Option.bind_some]
    rcases actI L hL (i+1) (by omega)with⟨u,d,j,h2,h3,e2,K,g2⟩|⟨e2,u,d,j,K,g2⟩
    · dsimp only at g2
      rw[e2]
      simp only[Option.bind_some]
      rcases mustI L hL j (by omega) (⟨#[59]⟩ :ByteArray)with⟨h4,e4,g4⟩|⟨e4,g4⟩
      · left
        refine⟨⟨ns,cs,u,d⟩,j+1,by omega,by omega,by rw[e4];rfl,rfl,rfl,K,fun k hk=>?_⟩
        simp only[endI,g1,g2 k hk,g4,Option.bind_some]
        rfl
      · right
        refine⟨by rw[e4];rfl,⟨ns,cs,u,d⟩,(j:Int),K,fun k hk=>?_⟩
        simp only[endI,g1,g2 k hk,g4,Option.bind_some]
        rfl
    · dsimp only at g2
      right
      refine⟨by rw[e2];rfl,⟨ns,cs,u,d⟩,j,K,fun k hk=>?_⟩
      simp only[endI,g1,g2 k hk,mustBad,Option.bind_some]
      rfl
  · right
    obtain⟨x,j,K,g⟩:=endBad L hL (i:Int) ns cs
    dsimp only at g
    refine⟨by rw[e1];rfl,x,j,K,fun k hk=>?_⟩
    rw[← g k hk]
    simp only[endI,g1,mustBad]
/-- The conditions behind the first. -/
theorem l1I: ∀ d i (acc:List S66),L.length - i≤d→i≤L.length→acc.length≤i→
    (∃ v j,i≤j∧j≤L.length∧byTake (⟨#[97,110,100]⟩ :ByteArray) (L.drop i) (some (acc,L.drop i)) (pConds d acc)=some (v,L.drop j)∧v.length≤j∧∀ ns c e R,Evt (fun k=>endI k L (j:Int) false ns v) R→Evt (fun k=>impl_reader_rule.l1 k L (i:Int) false ns acc c e) R)∨
    (byTake (⟨#[97,110,100]⟩ :ByteArray) (L.drop i) (some (acc,L.drop i)) (pConds d acc)=none∧∃ v j,∀ ns c e R,Evt (fun k=>endI k L j true ns v) R→Evt (fun k=>impl_reader_rule.l1 k L (i:Int) false ns acc c e) R):=by
  intro d
  induction d with
  | zero=>
    intro i acc hd hi ha
    rcases hasI L hL i hi (⟨#[97,110,100]⟩ :ByteArray)with⟨h1,e1,g1⟩|⟨e1,g1⟩
    · omega
    · left
      rw[byTake_none e1]
      refine⟨acc,i,Nat.le_refl _,hi,rfl,ha,fun ns c e R ⟨K,g⟩=> .succ ⟨K,fun k hk=>?_⟩⟩
      simp only[impl_reader_rule.l1,g1,Option.bind_some,Bool.false_eq_true,if_false]
      exact g k hk
  | succ d ih=>
    intro i acc hd hi ha
    rcases hasI L hL i hi (⟨#[97,110,100]⟩ :ByteArray)with⟨h1,e1,g1⟩|⟨e1,g1⟩
    · rw[byTake_some e1]
      simp only[pConds]
      rcases condI_ L hL (i+1) (by omega)with⟨y,j,h2,h3,e2,K,g2⟩|⟨e2,y,j,K,g2⟩
      · dsimp only at g2
        rw[e2]
        simp only[Option.bind_some]
        have step: ∀ ns c e R,Evt (fun k=>impl_reader_rule.l1 k L (j:Int) false ns (acc ++ [y]) c e) R→Evt (fun k=>impl_reader_rule.l1 k L (i:Int) false ns acc c e) R:=fun ns c e R ⟨K2,g⟩=> .succ ⟨K+K2,fun k hk=>by
          simp only[impl_reader_rule.l1,g1,g2 k (by omega),cdV,Option.bind_some,if_true]
          rw[if_pos (by omega)]
          exact g k (by omega)⟩
        rcases ih j (acc ++ [y]) (by omega) h3 (by simp only[List.length_append,List.length_cons,List.length_nil];omega)with⟨v,j2,h4,h5,e3,h6,f⟩|⟨e3,v,j2,f⟩
        · exact .inl ⟨v,j2,by omega,h5,e3,h6,fun ns c e R hR=>step ns c e R (f ns c e R hR)⟩
        · exact .inr ⟨e3,v,j2,fun ns c e R hR=>step ns c e R (f ns c e R hR)⟩
      · dsimp only at g2
        right
        refine⟨by rw[e2];rfl,acc ++ [y],j,fun ns c e R ⟨K2,g⟩=> .succ ⟨K+K2+1,fun k hk=>?_⟩⟩
        obtain⟨k,rfl⟩ : ∃ m,k=m+1:=⟨k - 1,by omega⟩
        simp only[impl_reader_rule.l1,g1,g2 (k+1) (by omega),cdV,Option.bind_some,if_true]
        rw[if_pos (by omega)]
        simp only[hasBad,Option.bind_some,Bool.false_eq_true,if_false]
        exact g k (by omega)
    · left
      rw[byTake_none e1]
      refine⟨acc,i,Nat.le_refl _,hi,rfl,ha,fun ns c e R ⟨K,g⟩=> .succ ⟨K,fun k hk=>?_⟩⟩
      simp only[impl_reader_rule.l1,g1,Option.bind_some,Bool.false_eq_true,if_false]
      exact g k hk
theorem j1Bad (a:Int) (ys:List Int) (hy:ys.length≤4000) (c e:Int): ∃ x j,Evt (fun k=>impl_reader_rule.j1 k L a true ys c e) (ruV x j true):=by
  obtain⟨x,j,K,g⟩:=endBad L hL a (sortN ys) []
  refine⟨x,j,.succ ⟨K,fun k hk=>?_⟩⟩
  simp only[impl_reader_rule.j1,slices_Sort_int_int.f]
  rw[if_pos (by omega)]
  simp only[hasBad,Option.bind_some,Bool.false_eq_true,if_false]
  exact g k hk
theorem tailI (i:Nat) (hi:i≤L.length) (ys:List Int) (hy:ys.length≤4000) (c e:Int) :
    (∃ x j,i<j∧j≤L.length∧pTail (sortN ys) (L.drop i)=some (x,L.drop j)∧x.f0=sortN ys∧x.f1.length≤4000∧Evt (fun k=>impl_reader_rule.j1 k L (i:Int) false ys c e) (ruV x (j:Int) false))∨
    (pTail (sortN ys) (L.drop i)=none∧∃ x j,Evt (fun k=>impl_reader_rule.j1 k L (i:Int) false ys c e) (ruV x j true)):=by
  unfold pTail
  rcases hasI L hL i hi (⟨#[105,102]⟩ :ByteArray)with⟨h1,e1,g1⟩|⟨e1,g1⟩
  · simp only[e1]
    rcases condI_ L hL (i+1) (by omega)with⟨y,j,h2,h3,e2,K,g2⟩|⟨e2,y,j,K,g2⟩
    · dsimp only at g2
      obtain⟨d,hd⟩ : ∃ d,(L.drop (i+1)).length=d+1:=⟨L.length - (i+1) - 1,by rw[List.length_drop];omega⟩
      rw[hd]
      rw[List.length_drop]at hd
      simp only[pConds,e2,Option.bind_some]
      have step: ∀ R,Evt (fun k=>impl_reader_rule.l1 k L (j:Int) false (sortN ys) ([] ++ [y]) c e) R→Evt (fun k=>impl_reader_rule.j1 k L (i:Int) false ys c e) R:=fun R ⟨K2,g⟩=> .succ ⟨K+K2,fun k hk=>by
        simp only[impl_reader_rule.j1,slices_Sort_int_int.f]
        rw[if_pos (by omega)]
        simp only[g1,g2 k (by omega),cdV,Option.bind_some,if_true]
        rw[if_pos (by decide)]
        exact g k (by omega)⟩
      rcases l1I L hL d j ([] ++ [y]) (by omega) h3 (by simp;omega)with⟨v,j2,h4,h5,e3,h6,f⟩|⟨e3,v,j2,f⟩
      · rw[e3]
        simp only[Option.bind_some]
        rcases endI_ L hL j2 h5 (sortN ys) v with⟨x,j3,h7,h8,e4,e5,e6,g4⟩|⟨e4,x,j3,g4⟩
        · exact .inl ⟨x,j3,by omega,h8,e4,e5,by rw[e6];omega,step _ (f _ _ _ _ g4)⟩
        · exact .inr ⟨e4,x,j3,step _ (f _ _ _ _ g4)⟩
      · rw[e3]
        obtain⟨x,j3,g4⟩:=endBad L hL j2 (sortN ys) v
        exact .inr ⟨rfl,x,j3,step _ (f _ _ _ _ g4)⟩
    · dsimp only at g2
      right
      obtain⟨x,j3,K4,g4⟩:=endBad L hL j (sortN ys) [y]
      refine⟨?_,x,j3,.succ (.succ ⟨K+K4,fun k hk=>?_⟩)⟩
      · cases (L.drop (i+1)).length with
        | zero=>rfl
        | succ d=>simp only[pConds,e2,Option.bind_none]
      · simp only[impl_reader_rule.j1,slices_Sort_int_int.f]
        rw[if_pos (by omega)]
        simp only[g1,g2 (k+1) (by omega),cdV,Option.bind_some,if_true]
        rw[if_pos (by decide)]
        simp only[impl_reader_rule.l1,hasBad,Option.bind_some,Bool.false_eq_true,if_false]
        exact g4 k (by omega)
  · simp only[e1]
    have step: ∀ R,Evt (fun k=>endI k L (i:Int) false (sortN ys) []) R→Evt (fun k=>impl_reader_rule.j1 k L (i:Int) false ys c e) R:=fun R ⟨K2,g⟩=> .succ ⟨K2,fun k hk=>by
      simp only[impl_reader_rule.j1,slices_Sort_int_int.f]
      rw[if_pos (by omega)]
      simp only[g1,Option.bind_some,Bool.false_eq_true,if_false]
      exact g k (by omega)⟩
    rcases endI_ L hL i hi (sortN ys) []with⟨x,j3,h7,h8,e4,e5,e6,g4⟩|⟨e4,x,j3,g4⟩
    · exact .inl ⟨x,j3,by omega,h8,e4,e5,by rw[e6];decide,step _ g4⟩
    · exact .inr ⟨e4,x,j3,step _ g4⟩
/-- The numbers behind the first, when one came twice. -/
theorem itemsTwice: ∀ d i (xs:List Int),L.length - i≤d→i≤L.length→xs.length≤i→ ¬ xs.Nodup→
    (∃ ys j,i≤j∧j≤L.length∧ys.length≤j∧ ¬ ys.Nodup∧∀ c e R,Evt (fun k=>impl_reader_rule.j1 k L (j:Int) false ys c e) R→Evt (fun k=>impl_reader_rule.l0 k L (i:Int) false xs c e) R)∨
    (∃ ys j,ys.length≤4000∧∀ c e R,Evt (fun k=>impl_reader_rule.j1 k L j true ys c e) R→Evt (fun k=>impl_reader_rule.l0 k L (i:Int) false xs c e) R):=by
  intro d
  induction d with
  | zero=>
    intro i xs hd hi ha hn
    rcases hasI L hL i hi (⟨#[44]⟩ :ByteArray)with⟨h1,e1,g1⟩|⟨e1,g1⟩
    · omega
    · left
      refine⟨xs,i,Nat.le_refl _,hi,ha,hn,fun c e R ⟨K,g⟩=> .succ ⟨K,fun k hk=>?_⟩⟩
      simp only[impl_reader_rule.l0,g1,Option.bind_some,Bool.false_eq_true,if_false]
      exact g k hk
  | succ d ih=>
    intro i xs hd hi ha hn
    rcases hasI L hL i hi (⟨#[44]⟩ :ByteArray)with⟨h1,e1,g1⟩|⟨e1,g1⟩
    · rcases itemI L hL (i+1) (by omega)with⟨v,h2,e2,K,g2⟩|⟨e2,j,K,g2⟩
      · dsimp only at g2
        have step: ∀ c e R,Evt (fun k=>impl_reader_rule.l0 k L ((i+1+1:Nat):Int) false (xs ++ [v]) c e) R→Evt (fun k=>impl_reader_rule.l0 k L (i:Int) false xs c e) R:=fun c e R ⟨K2,g⟩=> .succ ⟨K+K2,fun k hk=>by
          simp only[impl_reader_rule.l0,g1,g2 k (by omega),Option.bind_some,if_true]
          rw[if_pos (by omega)]
          exact g k (by omega)⟩
        rcases ih (i+1+1) (xs ++ [v]) (by omega) (by omega) (by simp only[List.length_append,List.length_cons,List.length_nil];omega) (fun c=>hn (List.nodup_append.1 c).1)with⟨ys,j,h3,h4,h5,h6,f⟩|⟨ys,j,h5,f⟩
        · exact .inl ⟨ys,j,by omega,h4,h5,h6,fun c e R hR=>step c e R (f c e R hR)⟩
        · exact .inr ⟨ys,j,h5,fun c e R hR=>step c e R (f c e R hR)⟩
      · dsimp only at g2
        right
        refine⟨xs ++ [-1],j,by simp only[List.length_append,List.length_cons,List.length_nil];omega,fun c e R ⟨K2,g⟩=> .succ ⟨K+K2+1,fun k hk=>?_⟩⟩
        obtain⟨k,rfl⟩ : ∃ m,k=m+1:=⟨k - 1,by omega⟩
        simp only[impl_reader_rule.l0,g1,g2 (k+1) (by omega),Option.bind_some,if_true]
        rw[if_pos (by omega)]
        simp only[hasBad,Option.bind_some,Bool.false_eq_true,if_false]
        exact g k (by omega)
    · left
      refine⟨xs,i,Nat.le_refl _,hi,ha,hn,fun c e R ⟨K,g⟩=> .succ ⟨K,fun k hk=>?_⟩⟩
      simp only[impl_reader_rule.l0,g1,Option.bind_some,Bool.false_eq_true,if_false]
      exact g k hk
theorem itemsI: ∀ d i (xs o:List Int),L.length - i≤d→i≤L.length→xs.length≤i→xs.Nodup→o.Pairwise (· < ·)→(∀ u,u ∈ o ↔ u ∈ xs)→
    (∃ v ys j,i≤j∧j≤L.length∧byTake (⟨#[44]⟩ :ByteArray) (L.drop i) (some (o,L.drop i)) (pNums d o)=some (v,L.drop j)∧ys.length≤j∧v=sortN ys∧∀ c e R,Evt (fun k=>impl_reader_rule.j1 k L (j:Int) false ys c e) R→Evt (fun k=>impl_reader_rule.l0 k L (i:Int) false xs c e) R)∨
    (byTake (⟨#[44]⟩ :ByteArray) (L.drop i) (some (o,L.drop i)) (pNums d o)=none∧((∃ ys j,i≤j∧j≤L.length∧ys.length≤j∧ ¬ ys.Nodup∧∀ c e R,Evt (fun k=>impl_reader_rule.j1 k L (j:Int) false ys c e) R→Evt (fun k=>impl_reader_rule.l0 k L (i:Int) false xs c e) R)∨
    (∃ ys j,ys.length≤4000∧∀ c e R,Evt (fun k=>impl_reader_rule.j1 k L j true ys c e) R→Evt (fun k=>impl_reader_rule.l0 k L (i:Int) false xs c e) R))):=by
  intro d
  induction d with
  | zero=>
    intro i xs o hd hi ha hn ho hm
    rcases hasI L hL i hi (⟨#[44]⟩ :ByteArray)with⟨h1,e1,g1⟩|⟨e1,g1⟩
    · omega
    · left
      rw[byTake_none e1]
      refine⟨o,xs,i,Nat.le_refl _,hi,rfl,ha,riseEq _ _ ho (sortN_rise hn) (fun u=>(hm u).trans List.mem_mergeSort.symm),fun c e R ⟨K,g⟩=> .succ ⟨K,fun k hk=>?_⟩⟩
      simp only[impl_reader_rule.l0,g1,Option.bind_some,Bool.false_eq_true,if_false]
      exact g k hk
  | succ d ih=>
    intro i xs o hd hi ha hn ho hm
    rcases hasI L hL i hi (⟨#[44]⟩ :ByteArray)with⟨h1,e1,g1⟩|⟨e1,g1⟩
    · rw[byTake_some e1]
      simp only[pNums]
      rcases itemI L hL (i+1) (by omega)with⟨v,h2,e2,K,g2⟩|⟨e2,j,K,g2⟩
      · dsimp only at g2
        rw[e2]
        simp only[Option.bind_some]
        have step: ∀ c e R,Evt (fun k=>impl_reader_rule.l0 k L ((i+1+1:Nat):Int) false (xs ++ [v]) c e) R→Evt (fun k=>impl_reader_rule.l0 k L (i:Int) false xs c e) R:=fun c e R ⟨K2,g⟩=> .succ ⟨K+K2,fun k hk=>by
          simp only[impl_reader_rule.l0,g1,g2 k (by omega),Option.bind_some,if_true]
          rw[if_pos (by omega)]
          exact g k (by omega)⟩
        by_cases hv:v ∈ o
        · right
          rw[if_pos hv]
          refine⟨rfl,?_⟩
          rcases itemsTwice L hL d (i+1+1) (xs ++ [v]) (by omega) (by omega) (by simp only[List.length_append,List.length_cons,List.length_nil];omega) (fun c=>(List.nodup_append.1 c).2.2 v ((hm v).1 hv) v List.mem_cons_self rfl)with⟨ys,j,h3,h4,h5,h6,f⟩|⟨ys,j,h5,f⟩
          · exact .inl ⟨ys,j,by omega,h4,h5,h6,fun c e R hR=>step c e R (f c e R hR)⟩
          · exact .inr ⟨ys,j,h5,fun c e R hR=>step c e R (f c e R hR)⟩
        · rw[if_neg hv]
          have hn2:(xs ++ [v]).Nodup:=List.nodup_append.2 ⟨hn,by simp,fun a ha b hb=>by
            rw[List.mem_singleton]at hb
            subst hb
            exact fun e=>hv ((hm b).2 (e ▸ ha))⟩
          rcases ih (i+1+1) (xs ++ [v]) (put o v) (by omega) (by omega) (by simp only[List.length_append,List.length_cons,List.length_nil];omega) hn2 (put_rise o v ho) (fun u=>by rw[put_mem,hm u,List.mem_append,List.mem_singleton])with⟨w,ys,j,h3,h4,e3,h5,h6,f⟩|⟨e3,⟨ys,j,h3,h4,h5,h6,f⟩|⟨ys,j,h5,f⟩⟩
          · exact .inl ⟨w,ys,j,by omega,h4,e3,h5,h6,fun c e R hR=>step c e R (f c e R hR)⟩
          · exact .inr ⟨e3,.inl ⟨ys,j,by omega,h4,h5,h6,fun c e R hR=>step c e R (f c e R hR)⟩⟩
          · exact .inr ⟨e3,.inr ⟨ys,j,h5,fun c e R hR=>step c e R (f c e R hR)⟩⟩
      · dsimp only at g2
        right
        refine⟨by rw[e2];rfl,.inr ⟨xs ++ [-1],j,by simp only[List.length_append,List.length_cons,List.length_nil];omega,fun c e R ⟨K2,g⟩=> .succ ⟨K+K2+1,fun k hk=>?_⟩⟩⟩
        obtain⟨k,rfl⟩ : ∃ m,k=m+1:=⟨k - 1,by omega⟩
        simp only[impl_reader_rule.l0,g1,g2 (k+1) (by omega),Option.bind_some,if_true]
        rw[if_pos (by omega)]
        simp only[hasBad,Option.bind_some,Bool.false_eq_true,if_false]
        exact g k (by omega)
    · left
      rw[byTake_none e1]
      refine⟨o,xs,i,Nat.le_refl _,hi,rfl,ha,riseEq _ _ ho (sortN_rise hn) (fun u=>(hm u).trans List.mem_mergeSort.symm),fun c e R ⟨K,g⟩=> .succ ⟨K,fun k hk=>?_⟩⟩
      simp only[impl_reader_rule.l0,g1,Option.bind_some,Bool.false_eq_true,if_false]
      exact g k hk
/-- What comes of a reading of a rule. -/
def ResR (i:Nat) (p:Option (S43×List S54)) (g:Nat→Option (List Int×List S66×Int×Int×Int×Bool)):Prop:=
  (∃ x j,i<j∧j≤L.length∧p=some (x,L.drop j)∧Bd x∧Evt g (ruV x (j:Int) false))∨
  (p=none∧∃ x j,Evt g (ruV x j true))∨
  (p=none∧∃ x,∃ j:Nat,i<j∧j≤L.length∧Bd x∧ ¬ RuleR x.f0 x.f1 x.f2 x.f3∧Evt g (ruV x (j:Int) false))
theorem ruleI (i:Nat) (hi:i≤L.length):ResR L i (pRule (L.drop i)) (fun k=>impl_reader_rule.f k L (i:Int) false):=by
  unfold ResR pRule
  rcases mustI L hL i hi (⟨#[111,110]⟩ :ByteArray)with⟨h1,e1,g1⟩|⟨e1,g1⟩
  · rw[e1]
    simp only[Option.bind_some]
    rcases hasI L hL (i+1) (by omega) (⟨#[97,110,121]⟩ :ByteArray)with⟨h2,e2,g2⟩|⟨e2,g2⟩
    · simp only[e2]
      have step: ∀ R,Evt (fun k=>impl_reader_rule.j1 k L ((i+1+1:Nat):Int) false [] 0 0) R→Evt (fun k=>impl_reader_rule.f k L (i:Int) false) R:=fun R ⟨K,g⟩=>⟨K,fun k hk=>by
        simp only[impl_reader_rule.f,g1,g2,Option.bind_some,if_true]
        exact g k hk⟩
      rcases tailI L hL (i+1+1) (by omega) [] (by decide) 0 0 with⟨x,j,h3,h4,e3,h5,h6,g3⟩|⟨e3,x,j,g3⟩
      · rw[sortN_nil]at e3 h5
        exact .inl ⟨x,j,by omega,h4,e3,⟨by rw[h5];decide,h6⟩,step _ g3⟩
      · rw[sortN_nil]at e3
        exact .inr (.inl ⟨e3,x,j,step _ g3⟩)
    · simp only[e2]
      rcases itemI L hL (i+1) (by omega)with⟨v,h3,e3,K,g3⟩|⟨e3,j,K,g3⟩
      · dsimp only at g3
        have step: ∀ R,Evt (fun k=>impl_reader_rule.l0 k L ((i+1+1:Nat):Int) false [v] 0 0) R→Evt (fun k=>impl_reader_rule.f k L (i:Int) false) R:=fun R ⟨K2,g⟩=>⟨K+K2,fun k hk=>by
          simp only[impl_reader_rule.f,g1,g2,g3 k (by omega),Option.bind_some,Bool.false_eq_true,if_false]
          rw[if_pos (by decide)]
          exact g k (by omega)⟩
        obtain⟨d,hd⟩ : ∃ d,(L.drop (i+1)).length=d+1:=⟨L.length - (i+1) - 1,by rw[List.length_drop];omega⟩
        rw[hd]
        rw[List.length_drop]at hd
        simp only[pNums,e3,Option.bind_some,List.not_mem_nil,if_false]
        have ep:put [] v= [v]:=by simp[put]
        rw[ep]
        rcases itemsI L hL d (i+1+1) [v] [v] (by omega) (by omega) (by simp) (by simp) (by simp) (fun u=>Iff.rfl)with⟨w,ys,j,h4,h5,e4,h6,h7,f⟩|⟨e4,⟨ys,j,h4,h5,h6,h7,f⟩|⟨ys,j,h6,f⟩⟩
        · rw[e4]
          simp only[Option.bind_some]
          rcases tailI L hL j h5 ys (by omega) 0 0 with⟨x,j2,h8,h9,e5,h10,h11,g5⟩|⟨e5,x,j2,g5⟩
          · rw[← h7]at e5 h10
            exact .inl ⟨x,j2,by omega,h9,e5,⟨by rw[h10,h7,sortN_len];omega,h11⟩,step _ (f _ _ _ g5)⟩
          · rw[← h7]at e5
            exact .inr (.inl ⟨e5,x,j2,step _ (f _ _ _ g5)⟩)
        · rw[e4]
          simp only[Option.bind_none]
          rcases tailI L hL j h5 ys (by omega) 0 0 with⟨x,j2,h8,h9,e5,h10,h11,g5⟩|⟨e5,x,j2,g5⟩
          · exact .inr (.inr ⟨trivial,x,j2,by omega,h9,⟨by rw[h10,sortN_len];omega,h11⟩,fun hr=>sortN_bad h7 (h10 ▸ hr.1),step _ (f _ _ _ g5)⟩)
          · exact .inr (.inl ⟨trivial,x,j2,step _ (f _ _ _ g5)⟩)
        · rw[e4]
          simp only[Option.bind_none]
          obtain⟨x,j2,g5⟩:=j1Bad L hL j ys h6 0 0
          exact .inr (.inl ⟨trivial,x,j2,step _ (f _ _ _ g5)⟩)
      · dsimp only at g3
        right;left
        obtain⟨x,j2,K2,g5⟩:=j1Bad L hL j [-1] (by decide) 0 0
        refine⟨?_,x,j2,⟨K+K2+1,fun k hk=>?_⟩⟩
        · cases (L.drop (i+1)).length with
          | zero=>rfl
          | succ d=>simp only[pNums,e3,Option.bind_none]
        · obtain⟨k,rfl⟩ : ∃ m,k=m+1:=⟨k - 1,by omega⟩
          simp only[impl_reader_rule.f,g1,g2,g3 (k+1) (by omega),Option.bind_some,Bool.false_eq_true,if_false]
          rw[if_pos (by decide)]
          simp only[impl_reader_rule.l0,hasBad,Option.bind_some,Bool.false_eq_true,if_false]
          exact g5 k (by omega)
  · right;left
    rw[e1]
    obtain⟨x,j2,K2,g5⟩:=j1Bad L hL (i:Int) [-1] (by decide) 0 0
    refine⟨rfl,x,j2,⟨K2+1,fun k hk=>?_⟩⟩
    obtain⟨k,rfl⟩ : ∃ m,k=m+1:=⟨k - 1,by omega⟩
    simp only[impl_reader_rule.f,g1,hasBad,impl_reader_item.f,isNumBad,impl_CallNames.f,nameBad,Option.bind_some,Bool.false_eq_true,if_false]
    rw[if_pos (by decide)]
    simp only[impl_reader_rule.l0,hasBad,Option.bind_some,Bool.false_eq_true,if_false]
    exact g5 k (by omega)
end
/-! Rules, as the reference reads them. -/
theorem sNameBad (L:List S54) (a:Int):spec_l10Read_name.f L a true=some ((⟨#[]⟩ :ByteArray),a,true):=by
  unfold spec_l10Read_name.f
  rw[if_pos rfl]
theorem no_call:(place (⟨#[]⟩ :ByteArray) calls 0).getD (-1)= -1:=by
  simp[place,calls,ByteArray.toList_eq]
theorem no_act:(place (⟨#[]⟩ :ByteArray) acts 0).getD (-1)= -1:=by
  simp[place,acts,ByteArray.toList_eq]
section
variable (L:List S54) (hL:L.length≤2000)
include hL
theorem sNameE (i:Nat) (h:i<L.length):spec_l10Read_name.f L (i:Int) false=if L[i].f0=1 then some (L[i].f1,((i+1:Nat):Int),false)else some ((⟨#[]⟩ :ByteArray),(i:Int),true):=by
  have e1:Aside0 (wrap64 (wrap64 ((i:Int)+1) - 1)=(i:Int)):=⟨back2 i (by omega)⟩
  unfold spec_l10Read_name.f
  rw[if_neg (by decide),if_neg (show ¬ (i:Int)≥(L.length:Int) by omega),if_pos (show(0:Int)≤(i:Int) by omega),if_pos (show(i:Int)<(L.length:Int) by omega),nrdI L i h,e1.out,if_pos (show(0:Int)≤(i:Int) by omega),if_pos (show(i:Int)<(L.length:Int) by omega),nrdI L i h,wsucc h (show L.length≤9223372036854775807 by omega)]
theorem sNameI (ns:List ByteArray) (i:Nat) (hi:i≤L.length):(∃ w,i<L.length∧pName ns (L.drop i)=(place w ns 0).map (fun p=>(p,L.drop (i+1)))∧spec_l10Read_name.f L (i:Int) false=some (w,((i+1:Nat):Int),false))∨(pName ns (L.drop i)=none∧∃ j,spec_l10Read_name.f L (i:Int) false=some ((⟨#[]⟩ :ByteArray),j,true)):=by
  by_cases h:i<L.length
  · rw[List.drop_eq_getElem_cons h,sNameE L hL i h]
    simp only[pName]
    by_cases h1:L[i].f0=1
    · rw[if_pos h1,if_pos h1]
      exact .inl ⟨_,h,rfl,rfl⟩
    · rw[if_neg h1,if_neg h1]
      exact .inr ⟨rfl,_,rfl⟩
  · rw[List.drop_eq_nil_of_le (by omega)]
    refine .inr ⟨rfl,(i:Int),?_⟩
    unfold spec_l10Read_name.f
    rw[if_neg (by decide),if_pos (by omega)]
theorem actLoop (w:ByteArray) (i:Int) (b:Bool) (R:Int×Int×Int×Bool): ∀ d n (at_:Int),n+d=acts.length→Evt (fun k=>spec_l10Read_action.l0 k w acts (lastP w (acts.drop n) (n:Int) at_) (acts.length:Int) L i b) R→Evt (fun k=>spec_l10Read_action.l0 k w acts at_ (n:Int) L i b) R
  | 0,n,at_,hn,h=>by
    have:n=acts.length:=by omega
    subst this
    rw[List.drop_length]at h
    exact h
  | d+1,n,at_,hn,h=>by
    have hlt:n<acts.length:=by omega
    have hc:acts.length=6:=rfl
    have er:rdOf ByteArray.empty acts (n:Int)=acts[n]:=getD_lt _ hlt
    rw[List.drop_eq_getElem_cons hlt]at h
    obtain⟨K,g⟩:=actLoop w i b R d (n+1) (if acts[n].toList=w.toList then(n:Int)else at_) (by omega) h
    dsimp only at g
    refine .succ ⟨K,fun k hk=>?_⟩
    rw[← g k hk]
    simp only[spec_l10Read_action.l0]
    rw[if_pos (by omega),if_pos (by omega),er,show wrap64 ((n:Int)+1)=((n+1:Nat):Int)from wsucc hlt (by omega)]
    split <;> rfl
theorem sActEnd (w:ByteArray) (i:Int) (b:Bool) (R:Int×Int×Int×Bool) (h:Evt (fun k=>spec_l10Read_action.l0 k w acts ((place w acts 0).getD (-1)) (acts.length:Int) L i b) R):Evt (fun k=>spec_l10Read_action.l0 k w acts (-1) 0 L i b) R:=
  actLoop L hL w i b R acts.length 0 (-1) (by omega) (by rw[show lastP w (acts.drop 0) ((0:Nat):Int) (-1)=_ from last_place w];exact h)
theorem sActNo (w:ByteArray) (i:Int) (b:Bool) (h:(place w acts 0).getD (-1)= -1):Evt (fun k=>spec_l10Read_action.l0 k w acts (-1) 0 L i b) (0,0,i,true):=sActEnd L hL w i b _ (by
  rw[h]
  refine .succ (.const fun k=>?_)
  simp only[spec_l10Read_action.l0]
  rw[if_neg (by omega),if_pos (by omega)])
theorem sActBad (i:Int): ∃ a d j,Evt (fun k=>spec_l10Read_action.f k L i true) (a,d,j,true):=by
  obtain⟨K,g⟩:=sActNo L hL (⟨#[]⟩ :ByteArray) i true no_act
  refine⟨0,0,i,K,fun k hk=>?_⟩
  simp only[spec_l10Read_action.f,sNameBad,Option.bind_some,show spec_l05Names.f=some acts from rfl]
  exact g k hk
theorem sActI (i:Nat) (hi:i≤L.length):(∃ a d j,i<j∧j≤L.length∧pAct (L.drop i)=some (a,d,L.drop j)∧Evt (fun k=>spec_l10Read_action.f k L (i:Int) false) (a,d,(j:Int),false))∨(pAct (L.drop i)=none∧∃ a d j,Evt (fun k=>spec_l10Read_action.f k L (i:Int) false) (a,d,j,true)):=by
  unfold pAct
  rcases sNameI L hL acts i hi with⟨w,h,e,g⟩|⟨e,j,g⟩
  · have step: ∀ R,Evt (fun k=>spec_l10Read_action.l0 k w acts (-1) 0 L ((i+1:Nat):Int) false) R→Evt (fun k=>spec_l10Read_action.f k L (i:Int) false) R:=fun R ⟨K,f⟩=>⟨K,fun k hk=>by
      simp only[spec_l10Read_action.f,g,Option.bind_some,show spec_l05Names.f=some acts from rfl]
      exact f k hk⟩
    rw[e]
    cases hp:place w acts 0 with
    | none=>exact .inr ⟨rfl,0,0,_,step _ (sActNo L hL w _ false (by rw[hp];rfl))⟩
    | some v=>
      have hv:=place_nn _ _ _ _ hp
      simp only[Option.map_some,Option.bind_some]
      rcases numI L hL (i+1) (by omega)with⟨u,h3,e3,g3,g4⟩|⟨e3,g3,g4⟩
      · refine .inl ⟨v,u,i+1+1,by omega,by omega,by rw[e3],step _ (sActEnd L hL w _ false _ ?_)⟩
        rw[hp]
        refine .succ (.const fun k=>?_)
        simp only[spec_l10Read_action.l0,hasNumE,numE,g3,g4,Option.bind_some,if_true,Option.getD_some]
        rw[if_neg (by omega),if_neg (by omega)]
      · refine .inl ⟨v,0,i+1,by omega,by omega,by rw[e3],step _ (sActEnd L hL w _ false _ ?_)⟩
        rw[hp]
        refine .succ (.const fun k=>?_)
        simp only[spec_l10Read_action.l0,hasNumE,g3,Option.bind_some,Bool.false_eq_true,if_false,Option.getD_some]
        rw[if_neg (by omega),if_neg (by omega)]
  · obtain⟨K,f⟩:=sActNo L hL (⟨#[]⟩ :ByteArray) j true no_act
    refine .inr ⟨by rw[e];rfl,0,0,j,K,fun k hk=>?_⟩
    simp only[spec_l10Read_action.f,g,Option.bind_some,show spec_l05Names.f=some acts from rfl]
    exact f k hk
variable (hW: ∀ x ∈ L,SgW x)
include hW
theorem endSBad (a:Int) (ns:List Int) (cs:List S66): ∃ x j,Evt (fun k=>endS k L a true ns cs) (ruV x j true):=by
  have w1:=wantsE L hL hW 1 (⟨#[100,111]⟩ :ByteArray) (Mk.name 100 [111] (by decide))
  have w2:=wantsE L hL hW 3 (⟨#[59]⟩ :ByteArray) (Mk.mark 59 [] (by decide))
  obtain⟨u,d,j,K,g⟩:=sActBad L hL a
  dsimp only at g
  refine⟨⟨ns,cs,u,d⟩,j,K,fun k hk=>?_⟩
  simp only[endS,w1,w2,mustBad,g k hk,Option.bind_some]
  rfl
theorem endS_ (i:Nat) (hi:i≤L.length) (ns:List Int) (cs:List S66) :
    (∃ x j,i<j∧j≤L.length∧pEnd ns cs (L.drop i)=some (x,L.drop j)∧x.f0=ns∧x.f1=cs∧Evt (fun k=>endS k L (i:Int) false ns cs) (ruV x (j:Int) false))∨
    (pEnd ns cs (L.drop i)=none∧∃ x j,Evt (fun k=>endS k L (i:Int) false ns cs) (ruV x j true)):=by
  have w1:=wantsE L hL hW 1 (⟨#[100,111]⟩ :ByteArray) (Mk.name 100 [111] (by decide))
  have w2:=wantsE L hL hW 3 (⟨#[59]⟩ :ByteArray) (Mk.mark 59 [] (by decide))
  unfold pEnd
  rcases mustI L hL i hi (⟨#[100,111]⟩ :ByteArray)with⟨h1,e1,g1⟩|⟨e1,g1⟩
  · rw[e1]
    simp only[Option.bind_some]
    rcases sActI L hL (i+1) (by omega)with⟨u,d,j,h2,h3,e2,K,g2⟩|⟨e2,u,d,j,K,g2⟩
    · dsimp only at g2
      rw[e2]
      simp only[Option.bind_some]
      rcases mustI L hL j (by omega) (⟨#[59]⟩ :ByteArray)with⟨h4,e4,g4⟩|⟨e4,g4⟩
      · left
        refine⟨⟨ns,cs,u,d⟩,j+1,by omega,by omega,by rw[e4];rfl,rfl,rfl,K,fun k hk=>?_⟩
        simp only[endS,w1,w2,g1,g2 k hk,g4,Option.bind_some]
        rfl
      · right
        refine⟨by rw[e4];rfl,⟨ns,cs,u,d⟩,(j:Int),K,fun k hk=>?_⟩
        simp only[endS,w1,w2,g1,g2 k hk,g4,Option.bind_some]
        rfl
    · dsimp only at g2
      right
      refine⟨by rw[e2];rfl,⟨ns,cs,u,d⟩,j,K,fun k hk=>?_⟩
      simp only[endS,w1,w2,g1,g2 k hk,mustBad,Option.bind_some]
      rfl
  · right
    obtain⟨x,j,K,g⟩:=endSBad L hL hW (i:Int) ns cs
    dsimp only at g
    refine⟨by rw[e1];rfl,x,j,K,fun k hk=>?_⟩
    rw[← g k hk]
    simp only[endS,w1,g1,mustBad]
theorem condsS: ∀ d i (acc:List S66),L.length - i≤d→i≤L.length→acc.length≤i→
    (∃ v j,i<j∧j≤L.length∧pConds d acc (L.drop i)=some (v,L.drop j)∧v.length≤j∧(∀ y ∈ acc,y ∈ v)∧∀ ns c e R,Evt (fun k=>endS k L (j:Int) false ns v) R→Evt (fun k=>spec_l10Read_rule.l0 k L (i:Int) false ns acc c e) R)∨
    (pConds d acc (L.drop i)=none∧∃ v j,∀ ns c e R,Evt (fun k=>endS k L j true ns v) R→Evt (fun k=>spec_l10Read_rule.l0 k L (i:Int) false ns acc c e) R)∨
    (pConds d acc (L.drop i)=none∧∃ v,∃ j:Nat,i<j∧j≤L.length∧v.length≤j∧(∃ y ∈ v,y.f2=0)∧∀ ns c e R,Evt (fun k=>endS k L (j:Int) false ns v) R→Evt (fun k=>spec_l10Read_rule.l0 k L (i:Int) false ns acc c e) R):=by
  have w1:=takesE L hL hW 1 (⟨#[97,110,100]⟩ :ByteArray) (Mk.name 97 [110,100] (by decide))
  have bad: ∀ i (acc:List S66),acc.length≤2000→(∃ y j,Evt (fun k=>spec_l10Read_cond.f k L i false) (cdV y j true))→∃ v j,∀ ns c e R,Evt (fun k=>endS k L j true ns v) R→Evt (fun k=>spec_l10Read_rule.l0 k L i false ns acc c e) R:=fun i acc ha ⟨y,j,K,g⟩=>⟨acc ++ [y],j,fun ns c e R ⟨K2,f⟩=> .succ ⟨K+K2,fun k hk=>by
    dsimp only at g
    simp only[spec_l10Read_rule.l0,g k (by omega),cdV,Option.bind_some,Bool.false_eq_true,if_false]
    rw[if_pos (by omega)]
    simp only[w1,hasBad,Bool.false_eq_true,if_false,Option.bind_some]
    exact f k (by omega)⟩⟩
  have yes: ∀ i (j:Nat) (y:S66) (acc:List S66),acc.length≤2000→Evt (fun k=>spec_l10Read_cond.f k L i false) (cdV y (j:Int) false)→impl_reader_has.f L (j:Int) false (⟨#[97,110,100]⟩ :ByteArray)=some (true,((j+1:Nat):Int),false)→∀ ns c e R,Evt (fun k=>spec_l10Read_rule.l0 k L ((j+1:Nat):Int) false ns (acc ++ [y]) c e) R→Evt (fun k=>spec_l10Read_rule.l0 k L i false ns acc c e) R:=fun i j y acc ha ⟨K,g⟩ g1 ns c e R ⟨K2,f⟩=> .succ ⟨K+K2,fun k hk=>by
    dsimp only at g
    rw[← f k (by omega)]
    conv=>lhs;unfold spec_l10Read_rule.l0
    simp only[g k (by omega),cdV,Option.bind_some,Bool.false_eq_true,if_false]
    rw[if_pos (by omega)]
    simp only[w1,g1,if_true,Option.bind_some]⟩
  have no: ∀ i (j:Nat) (y:S66) (acc:List S66),acc.length≤2000→Evt (fun k=>spec_l10Read_cond.f k L i false) (cdV y (j:Int) false)→impl_reader_has.f L (j:Int) false (⟨#[97,110,100]⟩ :ByteArray)=some (false,(j:Int),false)→∀ ns c e R,Evt (fun k=>endS k L (j:Int) false ns (acc ++ [y])) R→Evt (fun k=>spec_l10Read_rule.l0 k L i false ns acc c e) R:=fun i j y acc ha ⟨K,g⟩ g1 ns c e R ⟨K2,f⟩=> .succ ⟨K+K2,fun k hk=>by
    dsimp only at g
    simp only[spec_l10Read_rule.l0,g k (by omega),cdV,Option.bind_some,Bool.false_eq_true,if_false]
    rw[if_pos (by omega)]
    simp only[w1,g1,Bool.false_eq_true,if_false,Option.bind_some]
    exact f k (by omega)⟩
  intro d
  induction d with
  | zero=>
    intro i acc hd hi ha
    rcases condS_ L hL hW i hi with⟨y,j,h1,h2,_⟩|⟨e1,h⟩|⟨e1,y,j,h1,h2,_⟩
    · omega
    · exact .inr (.inl ⟨rfl,bad i acc (by omega) h⟩)
    · omega
  | succ d ih=>
    intro i acc hd hi ha
    simp only[pConds]
    rcases condS_ L hL hW i hi with⟨y,j,h1,h2,e1,g⟩|⟨e1,h⟩|⟨e1,y,j,h1,h2,h3,g⟩
    · rw[e1]
      simp only[Option.bind_some]
      rcases hasI L hL j h2 (⟨#[97,110,100]⟩ :ByteArray)with⟨h4,e4,g4⟩|⟨e4,g4⟩
      · rw[byTake_some e4]
        have st:=yes i j y acc (by omega) g g4
        rcases ih (j+1) (acc ++ [y]) (by omega) (by omega) (by simp only[List.length_append,List.length_cons,List.length_nil];omega)with⟨v,j2,h5,h6,e5,h7,h8,f⟩|⟨e5,v,j2,f⟩|⟨e5,v,j2,h5,h6,h7,h8,f⟩
        · exact .inl ⟨v,j2,by omega,h6,e5,h7,fun y hy=>h8 y (List.mem_append_left _ hy),fun ns c e R hR=>st ns c e R (f ns c e R hR)⟩
        · exact .inr (.inl ⟨e5,v,j2,fun ns c e R hR=>st ns c e R (f ns c e R hR)⟩)
        · exact .inr (.inr ⟨e5,v,j2,by omega,h6,h7,h8,fun ns c e R hR=>st ns c e R (f ns c e R hR)⟩)
      · rw[byTake_none e4]
        exact .inl ⟨acc ++ [y],j,h1,h2,rfl,by simp only[List.length_append,List.length_cons,List.length_nil];omega,fun y hy=>List.mem_append_left _ hy,no i j y acc (by omega) g g4⟩
    · rw[e1]
      exact .inr (.inl ⟨rfl,bad i acc (by omega) h⟩)
    · rw[e1]
      rcases hasI L hL j h2 (⟨#[97,110,100]⟩ :ByteArray)with⟨h4,e4,g4⟩|⟨e4,g4⟩
      · have st:=yes i j y acc (by omega) g g4
        have hy:y ∈ acc ++ [y]:=by simp
        rcases ih (j+1) (acc ++ [y]) (by omega) (by omega) (by simp only[List.length_append,List.length_cons,List.length_nil];omega)with⟨v,j2,h5,h6,e5,h7,h8,f⟩|⟨e5,v,j2,f⟩|⟨e5,v,j2,h5,h6,h7,h8,f⟩
        · exact .inr (.inr ⟨rfl,v,j2,by omega,h6,h7,⟨y,h8 y hy,h3⟩,fun ns c e R hR=>st ns c e R (f ns c e R hR)⟩)
        · exact .inr (.inl ⟨rfl,v,j2,fun ns c e R hR=>st ns c e R (f ns c e R hR)⟩)
        · exact .inr (.inr ⟨rfl,v,j2,by omega,h6,h7,h8,fun ns c e R hR=>st ns c e R (f ns c e R hR)⟩)
      · exact .inr (.inr ⟨rfl,acc ++ [y],j,h1,h2,by simp only[List.length_append,List.length_cons,List.length_nil];omega,⟨y,by simp,h3⟩,no i j y acc (by omega) g g4⟩)
theorem numsS: ∀ d i (o:List Int),L.length - i≤d→i≤L.length→o.length≤i→
    (∃ v j,i<j∧j≤L.length∧pNums d o (L.drop i)=some (v,L.drop j)∧v.length≤j∧Evt (fun k=>spec_l10Read_nums.l0 k o L (i:Int) false) (v,(j:Int),false))∨
    (pNums d o (L.drop i)=none∧∃ v j,Evt (fun k=>spec_l10Read_nums.l0 k o L (i:Int) false) (v,j,true)):=by
  have w1:=takesE L hL hW 3 (⟨#[44]⟩ :ByteArray) (Mk.mark 44 [] (by decide))
  -- a refused number
  have j3bad: ∀ (o:List Int) (n a:Int),o.length≤2000→Evt (fun k=>spec_l10Read_nums.j3 k o n L a true) (put o n,a,true):=fun o n a ho=>by
    obtain⟨K,g⟩:=putV o n (by omega)
    refine .succ ⟨K,fun k hk=>?_⟩
    simp only[spec_l10Read_nums.j3]
    rw[show spec_l10Put.f k o n=_ from g k hk]
    simp only[w1,hasBad,Option.bind_some,Bool.false_eq_true,if_false]
  have j1bad: ∀ (o:List Int) (n a:Int) (b:Bool),o.length≤2000→(n<0∨n ∈ o)→Evt (fun k=>spec_l10Read_nums.j1 k o n L a b) (put o n,a,true):=fun o n a b ho hn=>by
    obtain⟨K,g⟩:=j3bad o n a ho
    obtain⟨K2,g2⟩:=inNums o n (by omega)
    dsimp only at g g2
    refine .succ (.succ ⟨K+K2,fun k hk=>?_⟩)
    simp only[spec_l10Read_nums.j1]
    by_cases h:n<0
    · rw[if_pos h]
      simp only[spec_l10Read_nums.j2,if_true]
      exact g k (by omega)
    · rw[if_neg h,g2 (k+1) (by omega),decide_eq_true (hn.resolve_left h)]
      simp only[Option.bind_some,spec_l10Read_nums.j2,if_true]
      exact g k (by omega)
  have j1ok: ∀ (o:List Int) (n a:Int),o.length≤2000→0≤n→n ∉ o→∀ R,Evt (fun k=>spec_l10Read_nums.j3 k o n L a false) R→Evt (fun k=>spec_l10Read_nums.j1 k o n L a false) R:=fun o n a ho h0 hn R ⟨K,g⟩=>by
    obtain⟨K2,g2⟩:=inNums o n (by omega)
    dsimp only at g g2
    refine .succ (.succ ⟨K+K2,fun k hk=>?_⟩)
    simp only[spec_l10Read_nums.j1]
    rw[if_neg (by omega),g2 (k+1) (by omega),decide_eq_false hn]
    simp only[Option.bind_some,spec_l10Read_nums.j2,Bool.false_eq_true,if_false]
    exact g k (by omega)
  -- an item
  have item: ∀ (i:Nat) (o:List Int),i≤L.length→o.length≤i→(∃ v,i<L.length∧0≤v∧pItem (L.drop i)=some (v,L.drop (i+1))∧∀ R,Evt (fun k=>spec_l10Read_nums.j1 k o v L ((i+1:Nat):Int) false) R→Evt (fun k=>spec_l10Read_nums.l0 k o L (i:Int) false) R)∨(pItem (L.drop i)=none∧∃ v j,Evt (fun k=>spec_l10Read_nums.l0 k o L (i:Int) false) (v,j,true)):=fun i o hi ho=>by
    unfold pItem
    rcases numI L hL i hi with⟨v,h,e,g1,g2⟩|⟨e,g1,g2⟩
    · left
      have hv:0≤v:=by
        rw[List.drop_eq_getElem_cons h]at e
        simp only[pNum]at e
        split at e
        · rename_i h2
          cases e
          rcases hW L[i] (List.getElem_mem h)with⟨h3,_⟩|⟨_,h3⟩|⟨h3,_⟩
          · omega
          · exact h3
          · omega
        · cases e
      refine⟨v,h,hv,by rw[e],fun R ⟨K,f⟩=> .succ ⟨K,fun k hk=>?_⟩⟩
      simp only[spec_l10Read_nums.l0,hasNumE,numE,g1,g2,Option.bind_some,if_true,Bool.false_eq_true,if_false]
      exact f k hk
    · rw[e]
      rcases sNameI L hL calls i hi with⟨w,h,e2,g⟩|⟨e2,j,g⟩
      · obtain⟨K3,g3⟩:=callS w
        dsimp only at g3
        have step: ∀ R,Evt (fun k=>spec_l10Read_nums.j1 k o ((place w calls 0).getD (-1)) L ((i+1:Nat):Int) false) R→Evt (fun k=>spec_l10Read_nums.l0 k o L (i:Int) false) R:=fun R ⟨K,f⟩=> .succ ⟨K+K3,fun k hk=>by
          simp only[spec_l10Read_nums.l0,hasNumE,g1,g,g3 k (by omega),Option.bind_some,Bool.false_eq_true,if_false]
          exact f k (by omega)⟩
        simp only[e2]
        cases hp:place w calls 0 with
        | none=>
          rw[hp]at step
          exact .inr ⟨rfl,_,_,step _ (j1bad o (-1) _ false (by omega) (.inl (by omega)))⟩
        | some v=>
          rw[hp]at step
          exact .inl ⟨v,h,place_nn _ _ _ _ hp,rfl,step⟩
      · obtain⟨K3,g3⟩:=callS (⟨#[]⟩ :ByteArray)
        rw[no_call]at g3
        dsimp only at g3
        obtain⟨K,f⟩:=j1bad o (-1) j true (by omega) (.inl (by omega))
        refine .inr ⟨e2,put o (-1),j,.succ ⟨K+K3,fun k hk=>?_⟩⟩
        simp only[spec_l10Read_nums.l0,hasNumE,g1,g,g3 k (by omega),Option.bind_some,Bool.false_eq_true,if_false]
        exact f k (by omega)
  intro d
  induction d with
  | zero=>
    intro i o hd hi ho
    rcases item i o hi ho with⟨v,h,_⟩|⟨e,h⟩
    · omega
    · exact .inr ⟨rfl,h⟩
  | succ d ih=>
    intro i o hd hi ho
    simp only[pNums]
    rcases item i o hi ho with⟨v,h,h0,e,f⟩|⟨e,h⟩
    · rw[e]
      simp only[Option.bind_some]
      have hp:=put_le o v
      by_cases hv:v ∈ o
      · rw[if_pos hv]
        exact .inr ⟨rfl,_,_,f _ (j1bad o v _ false (by omega) (.inr hv))⟩
      · rw[if_neg hv]
        obtain⟨K4,g4⟩:=putV o v (by omega)
        dsimp only at g4
        rcases hasI L hL (i+1) (by omega) (⟨#[44]⟩ :ByteArray)with⟨h1,e1,g1⟩|⟨e1,g1⟩
        · rw[byTake_some e1]
          have step: ∀ R,Evt (fun k=>spec_l10Read_nums.l0 k (put o v) L ((i+1+1:Nat):Int) false) R→Evt (fun k=>spec_l10Read_nums.l0 k o L (i:Int) false) R:=fun R ⟨K,g⟩=>f _ (j1ok o v _ (by omega) h0 hv _ (.succ ⟨K+K4,fun k hk=>by
            simp only[spec_l10Read_nums.j3,g4 k (by omega),w1,g1,Option.bind_some,if_true]
            exact g k (by omega)⟩))
          rcases ih (i+1+1) (put o v) (by omega) (by omega) (by omega)with⟨w,j,h2,h3,e2,h4,g⟩|⟨e2,w,j,g⟩
          · exact .inl ⟨w,j,by omega,h3,e2,h4,step _ g⟩
          · exact .inr ⟨e2,w,j,step _ g⟩
        · rw[byTake_none e1]
          refine .inl ⟨put o v,i+1,by omega,by omega,rfl,by omega,f _ (j1ok o v _ (by omega) h0 hv _ (.succ ⟨K4,fun k hk=>?_⟩))⟩
          simp only[spec_l10Read_nums.j3,g4 k hk,w1,g1,Option.bind_some,Bool.false_eq_true,if_false]
    · rw[e]
      exact .inr ⟨rfl,h⟩
/-- What follows the numbers. -/
def tlS (k:Nat) (L:List S54) (a:Int) (b:Bool) (ns:List Int):Option (List Int×List S66×Int×Int×Int×Bool):=(spec_l10Read_takes.f L a b 1 (⟨#[105,102]⟩ :ByteArray)).bind fun t=>if t.1=true then spec_l10Read_rule.l0 k L t.2.1 t.2.2 ns [] 0 0 else endS k L t.2.1 t.2.2 ns []
theorem tlS_ (i:Nat) (hi:i≤L.length) (ns:List Int) (hn:ns.length≤4000):ResR L i (pTail ns (L.drop i)) (fun k=>tlS k L (i:Int) false ns):=by
  have w1:=takesE L hL hW 1 (⟨#[105,102]⟩ :ByteArray) (Mk.name 105 [102] (by decide))
  unfold ResR pTail
  rcases hasI L hL i hi (⟨#[105,102]⟩ :ByteArray)with⟨h1,e1,g1⟩|⟨e1,g1⟩
  · simp only[e1]
    have step: ∀ R,Evt (fun k=>spec_l10Read_rule.l0 k L ((i+1:Nat):Int) false ns [] 0 0) R→Evt (fun k=>tlS k L (i:Int) false ns) R:=fun R ⟨K,f⟩=>⟨K,fun k hk=>by
      simp only[tlS,w1,g1,Option.bind_some,if_true]
      exact f k hk⟩
    rcases condsS L hL hW (L.drop (i+1)).length (i+1) [] (by rw[List.length_drop];omega) (by omega) (by simp)with⟨v,j,h2,h3,e2,h4,_,f⟩|⟨e2,v,j,f⟩|⟨e2,v,j,h2,h3,h4,h5,f⟩
    · rw[e2]
      simp only[Option.bind_some]
      rcases endS_ L hL hW j h3 ns v with⟨x,j3,h7,h8,e4,e5,e6,g4⟩|⟨e4,x,j3,g4⟩
      · exact .inl ⟨x,j3,by omega,h8,e4,⟨by rw[e5];exact hn,by rw[e6];omega⟩,step _ (f _ _ _ _ g4)⟩
      · exact .inr (.inl ⟨e4,x,j3,step _ (f _ _ _ _ g4)⟩)
    · rw[e2]
      obtain⟨x,j3,g4⟩:=endSBad L hL hW j ns v
      exact .inr (.inl ⟨rfl,x,j3,step _ (f _ _ _ _ g4)⟩)
    · rw[e2]
      rcases endS_ L hL hW j h3 ns v with⟨x,j3,h7,h8,e4,e5,e6,g4⟩|⟨e4,x,j3,g4⟩
      · obtain⟨y,hy,hy2⟩:=h5
        exact .inr (.inr ⟨rfl,x,j3,by omega,h8,⟨by rw[e5];exact hn,by rw[e6];omega⟩,fun hr=>by
          have:=(hr.2.1 y (e6 ▸ hy)).2.2.2
          omega,step _ (f _ _ _ _ g4)⟩)
      · exact .inr (.inl ⟨rfl,x,j3,step _ (f _ _ _ _ g4)⟩)
  · simp only[e1]
    have step: ∀ R,Evt (fun k=>endS k L (i:Int) false ns []) R→Evt (fun k=>tlS k L (i:Int) false ns) R:=fun R ⟨K,f⟩=>⟨K,fun k hk=>by
      simp only[tlS,w1,g1,Option.bind_some,Bool.false_eq_true,if_false]
      exact f k hk⟩
    rcases endS_ L hL hW i hi ns []with⟨x,j3,h7,h8,e4,e5,e6,g4⟩|⟨e4,x,j3,g4⟩
    · exact .inl ⟨x,j3,by omega,h8,e4,⟨by rw[e5];exact hn,by rw[e6];decide⟩,step _ g4⟩
    · exact .inr (.inl ⟨e4,x,j3,step _ g4⟩)
theorem tlSBad (a:Int) (ns:List Int): ∃ x j,Evt (fun k=>tlS k L a true ns) (ruV x j true):=by
  have w1:=takesE L hL hW 1 (⟨#[105,102]⟩ :ByteArray) (Mk.name 105 [102] (by decide))
  obtain⟨x,j,K,g⟩:=endSBad L hL hW a ns []
  refine⟨x,j,K,fun k hk=>?_⟩
  simp only[tlS,w1,hasBad,Option.bind_some,Bool.false_eq_true,if_false]
  exact g k hk
theorem ruleSE (k:Nat) (a:Int) (b:Bool):spec_l10Read_rule.f k L a b=(spec_l10Read_wants.f L a b 1 (⟨#[111,110]⟩ :ByteArray)).bind fun r=>(spec_l10Read_nums.f k L r.1 r.2).bind fun n=>tlS k L n.2.1 n.2.2 n.1:=rfl
theorem ruleS (i:Nat) (hi:i≤L.length):ResR L i (pRule (L.drop i)) (fun k=>spec_l10Read_rule.f k L (i:Int) false):=by
  have w1:=wantsE L hL hW 1 (⟨#[111,110]⟩ :ByteArray) (Mk.name 111 [110] (by decide))
  have w2:=takesE L hL hW 1 (⟨#[97,110,121]⟩ :ByteArray) (Mk.name 97 [110,121] (by decide))
  unfold pRule
  rcases mustI L hL i hi (⟨#[111,110]⟩ :ByteArray)with⟨h1,e1,g1⟩|⟨e1,g1⟩
  · rw[e1]
    simp only[Option.bind_some]
    have go: ∀ (ns:List Int) (j:Nat) (h:i<j),Evt (fun k=>spec_l10Read_nums.f k L ((i+1:Nat):Int) false) (ns,(j:Int),false)→ResR L j (pTail ns (L.drop j)) (fun k=>tlS k L (j:Int) false ns)→ResR L i (pTail ns (L.drop j)) (fun k=>spec_l10Read_rule.f k L (i:Int) false):=fun ns j h ⟨K,f⟩ hr=>by
      dsimp only at f
      have step: ∀ R,Evt (fun k=>tlS k L (j:Int) false ns) R→Evt (fun k=>spec_l10Read_rule.f k L (i:Int) false) R:=fun R ⟨K2,f2⟩=>⟨K+K2,fun k hk=>by
        show spec_l10Read_rule.f k L (i:Int) false=_
        rw[ruleSE L hL hW k,w1,g1,Option.bind_some,f k (by omega),Option.bind_some]
        exact f2 k (by omega)⟩
      rcases hr with⟨x,j2,h2,h3,e2,h4,g⟩|⟨e2,x,j2,g⟩|⟨e2,x,j2,h2,h3,h4,h5,g⟩
      · exact .inl ⟨x,j2,by omega,h3,e2,h4,step _ g⟩
      · exact .inr (.inl ⟨e2,x,j2,step _ g⟩)
      · exact .inr (.inr ⟨e2,x,j2,by omega,h3,h4,h5,step _ g⟩)
    rcases hasI L hL (i+1) (by omega) (⟨#[97,110,121]⟩ :ByteArray)with⟨h2,e2,g2⟩|⟨e2,g2⟩
    · simp only[e2]
      refine go [] (i+1+1) (by omega) (.const fun k=>?_) (tlS_ L hL hW (i+1+1) (by omega) [] (by decide))
      simp only[spec_l10Read_nums.f,w2,g2,Option.bind_some,if_true]
    · simp only[e2]
      have st: ∀ R,Evt (fun k=>spec_l10Read_nums.l0 k [] L ((i+1:Nat):Int) false) R→Evt (fun k=>spec_l10Read_nums.f k L ((i+1:Nat):Int) false) R:=fun R ⟨K,f⟩=>⟨K,fun k hk=>by
        simp only[spec_l10Read_nums.f,w2,g2,Option.bind_some,Bool.false_eq_true,if_false]
        exact f k hk⟩
      rcases numsS L hL hW (L.drop (i+1)).length (i+1) [] (by rw[List.length_drop];omega) (by omega) (by simp)with⟨v,j,h3,h4,e3,h5,g3⟩|⟨e3,v,j,g3⟩
      · rw[e3]
        simp only[Option.bind_some]
        exact go v j (by omega) (st _ g3) (tlS_ L hL hW j h4 v (by omega))
      · rw[e3]
        obtain⟨K,f⟩:=st _ g3
        obtain⟨x,j2,K2,f2⟩:=tlSBad L hL hW j v
        refine .inr (.inl ⟨rfl,x,j2,K+K2,fun k hk=>?_⟩)
        show spec_l10Read_rule.f k L (i:Int) false=_
        rw[ruleSE L hL hW k,w1,g1,Option.bind_some,show spec_l10Read_nums.f k L ((i+1:Nat):Int) false=_ from f k (by omega),Option.bind_some]
        exact f2 k (by omega)
  · rw[e1]
    obtain⟨x,j2,K2,f2⟩:=tlSBad L hL hW (i:Int) []
    refine .inr (.inl ⟨rfl,x,j2,K2+1,fun k hk=>?_⟩)
    obtain⟨k,rfl⟩ : ∃ m,k=m+1:=⟨k - 1,by omega⟩
    show spec_l10Read_rule.f (k+1) L (i:Int) false=_
    rw[ruleSE L hL hW (k+1),w1,g1,Option.bind_some]
    simp only[spec_l10Read_nums.f,w2,hasBad,Option.bind_some,Bool.false_eq_true,if_false,spec_l10Read_nums.l0,if_true]
    exact f2 (k+1) (by omega)
end
/-! Policies, as they are read. -/
def none0:Int×Int×Int×List S43×Bool:=(0,0,0,[],false)
def restI2 (k:Nat) (L:List S54) (a:Int) (b:Bool) (n:Int):Option (Int×Int×Int×List S43×Bool):=(impl_reader_action.f k L a b).bind fun u=>(impl_reader_must.f L u.2.2.1 u.2.2.2 (⟨#[59]⟩ :ByteArray)).bind fun r=>impl_ReadPolicy.l0 k L L r.1 r.2 n u.1 u.2.1 []
def restI (k:Nat) (L:List S54):Option (Int×Int×Int×List S43×Bool):=(impl_reader_must.f L 0 false (⟨#[97,114,99,104]⟩ :ByteArray)).bind fun r=>(impl_reader_num.f L r.1 r.2).bind fun n=>(impl_reader_must.f L n.2.1 n.2.2 (⟨#[59]⟩ :ByteArray)).bind fun r=>(impl_reader_must.f L r.1 r.2 (⟨#[100,101,102,97,117,108,116]⟩ :ByteArray)).bind fun r=>restI2 k L r.1 r.2 n.1
def restS2 (k:Nat) (L:List S54) (a:Int) (b:Bool) (n:Int):Option (Int×Int×Int×List S43×Bool):=(spec_l10Read_action.f k L a b).bind fun u=>(spec_l10Read_wants.f L u.2.2.1 u.2.2.2 3 (⟨#[59]⟩ :ByteArray)).bind fun r=>spec_ReadPolicy.l0 k L r.1 r.2 n u.1 u.2.1 []
def restS (k:Nat) (L:List S54):Option (Int×Int×Int×List S43×Bool):=(spec_l10Read_wants.f L 0 false 1 (⟨#[97,114,99,104]⟩ :ByteArray)).bind fun r=>(spec_l10Read_num.f L r.1 r.2).bind fun n=>(spec_l10Read_wants.f L n.2.1 n.2.2 3 (⟨#[59]⟩ :ByteArray)).bind fun r=>(spec_l10Read_wants.f L r.1 r.2 1 (⟨#[100,101,102,97,117,108,116]⟩ :ByteArray)).bind fun r=>restS2 k L r.1 r.2 n.1
theorem readIE (k:Nat) (s:ByteArray):impl_ReadPolicy.f k s=(impl_SignsOf.f k s).bind fun t=>if t.2=true then restI k t.1 else some none0:=rfl
theorem readSE (k:Nat) (s:ByteArray):spec_ReadPolicy.f k s=(spec_SignsOf.f k s).bind fun t=>if t.2=true then restS k t.1 else some none0:=rfl
theorem badI (k:Nat) (L:List S54) (i a b c:Int) (acc:List S43):impl_ReadPolicy.l0 (k+1) L L i true a b c acc=some none0:=by
  simp only[impl_ReadPolicy.l0,if_true]
  rfl
theorem badS (k:Nat) (L:List S54) (i a b c:Int) (acc:List S43):spec_ReadPolicy.l0 (k+1) L i true a b c acc=some none0:=by
  simp only[spec_ReadPolicy.l0,if_true]
  rfl
section
variable (L:List S54) (hL:L.length≤2000)
include hL
theorem rest2BadI (a n:Int):Evt (fun k=>restI2 k L a true n) none0:=by
  obtain⟨u,d,j,K,g⟩:=actBad L hL a
  dsimp only at g
  refine⟨K+1,fun k hk=>?_⟩
  obtain⟨k,rfl⟩ : ∃ m,k=m+1:=⟨k - 1,by omega⟩
  simp only[restI2,g (k+1) (by omega),mustBad,Option.bind_some]
  exact badI ..
theorem drop_inj (i j:Nat) (hi:i≤L.length) (hj:j≤L.length) (h:L.drop i=L.drop j):i=j:=by
  have:=congrArg List.length h
  rw[List.length_drop,List.length_drop]at this
  omega
variable (hW: ∀ x ∈ L,SgW x)
include hW
theorem rest2BadS (a n:Int):Evt (fun k=>restS2 k L a true n) none0:=by
  have w2:=wantsE L hL hW 3 (⟨#[59]⟩ :ByteArray) (Mk.mark 59 [] (by decide))
  obtain⟨u,d,j,K,g⟩:=sActBad L hL a
  dsimp only at g
  refine⟨K+1,fun k hk=>?_⟩
  obtain⟨k,rfl⟩ : ∃ m,k=m+1:=⟨k - 1,by omega⟩
  simp only[restS2,g (k+1) (by omega),w2,mustBad,Option.bind_some]
  exact badS ..
/-- At the end. -/
theorem rulesEnd (a b c:Int) (acc:List S43) (ha:acc.length≤2000) (hB: ∀ y ∈ acc,Bd y): ∃ r:Bool,Evt (fun k=>spec_PolicyOk.f k a b c acc) r∧Evt (fun k=>spec_ReadPolicy.l0 k L (L.length:Int) false a b c acc) (if r=true then(a,b,c,acc,true)else none0)∧Evt (fun k=>impl_ReadPolicy.l0 k L L (L.length:Int) false a b c acc) (if r=true then(a,b,c,acc,true)else none0):=by
  obtain⟨r,⟨K1,h1⟩,⟨K2,h2⟩⟩:=pol a b c acc (by omega) (fun y hy=>⟨by have:=(hB y hy).1;omega,by have:=(hB y hy).2;omega⟩)
  dsimp only at h1 h2
  refine⟨r,⟨K1,h1⟩,.succ ⟨K1,fun k hk=>?_⟩,.succ ⟨K2,fun k hk=>?_⟩⟩
  · simp only[spec_ReadPolicy.l0,Bool.false_eq_true,if_false]
    rw[if_neg (by omega),h1 k hk,Option.bind_some]
    cases r <;> rfl
  · simp only[impl_ReadPolicy.l0,Bool.false_eq_true,if_false]
    rw[if_neg (by omega),h2 k hk,Option.bind_some]
    cases r <;> rfl
theorem polNo {a b c:Int} {acc:List S43} (ha:acc.length≤2000) (hB: ∀ y ∈ acc,Bd y) {y:S43} (hy:y ∈ acc) (hr: ¬ RuleR y.f0 y.f1 y.f2 y.f3) {r:Bool} (h:Evt (fun k=>spec_PolicyOk.f k a b c acc) r):r=false:=by
  cases r with
  | false=>rfl
  | true=>
    obtain⟨K,g⟩:=h
    exact absurd ((pol_inv a b c acc (by omega) (fun y hy=>⟨by have:=(hB y hy).1;omega,by have:=(hB y hy).2;omega⟩) (g K (Nat.le_refl _))).2.2.2 y hy) hr
theorem bd_snoc {acc:List S43} {x:S43} (hB: ∀ y ∈ acc,Bd y) (hx:Bd x): ∀ y ∈ acc ++ [x],Bd y:=fun y hy=>by
  rcases List.mem_append.1 hy with h|h
  · exact hB y h
  · rw[List.mem_singleton]at h
    exact h ▸ hx
theorem stepI (i:Nat) (hi:i<L.length) (a b c:Int) (acc:List S43) (ha:acc.length≤2000) (x:S43) (j:Int) (t:Bool) (h:Evt (fun k=>impl_reader_rule.f k L (i:Int) false) (ruV x j t)) (R:Int×Int×Int×List S43×Bool) (hR:Evt (fun k=>impl_ReadPolicy.l0 k L L j t a b c (acc ++ [x])) R):Evt (fun k=>impl_ReadPolicy.l0 k L L (i:Int) false a b c acc) R:=by
  obtain⟨K,g⟩:=h
  obtain⟨K2,g2⟩:=hR
  dsimp only at g g2
  refine .succ ⟨K+K2,fun k hk=>?_⟩
  rw[← g2 k (by omega)]
  conv=>lhs;unfold impl_ReadPolicy.l0
  simp only[Bool.false_eq_true,if_false]
  rw[if_pos (by omega),g k (by omega),Option.bind_some,if_pos (by omega)]
  rfl
theorem stepS (i:Nat) (hi:i<L.length) (a b c:Int) (acc:List S43) (ha:acc.length≤2000) (x:S43) (j:Int) (t:Bool) (h:Evt (fun k=>spec_l10Read_rule.f k L (i:Int) false) (ruV x j t)) (R:Int×Int×Int×List S43×Bool) (hR:Evt (fun k=>spec_ReadPolicy.l0 k L j t a b c (acc ++ [x])) R):Evt (fun k=>spec_ReadPolicy.l0 k L (i:Int) false a b c acc) R:=by
  obtain⟨K,g⟩:=h
  obtain⟨K2,g2⟩:=hR
  dsimp only at g g2
  refine .succ ⟨K+K2,fun k hk=>?_⟩
  rw[← g2 k (by omega)]
  conv=>lhs;unfold spec_ReadPolicy.l0
  simp only[Bool.false_eq_true,if_false]
  rw[if_pos (by omega),g k (by omega),Option.bind_some,if_pos (by omega)]
  rfl
/-- With a rule that is not right nothing comes of it. -/
theorem doomI (a b c:Int): ∀ d i (acc:List S43),L.length - i≤d→i≤L.length→acc.length≤i→(∀ y ∈ acc,Bd y)→(∃ y ∈ acc,¬ RuleR y.f0 y.f1 y.f2 y.f3)→Evt (fun k=>impl_ReadPolicy.l0 k L L (i:Int) false a b c acc) none0:=by
  intro d
  induction d with
  | zero=>
    intro i acc hd hi ha hB ⟨y,hy,hr⟩
    have:i=L.length:=by omega
    subst this
    obtain⟨r,h1,_,h3⟩:=rulesEnd L hL hW a b c acc (by omega) hB
    rw[polNo L hL hW (by omega) hB hy hr h1]at h3
    exact h3
  | succ d ih=>
    intro i acc hd hi ha hB ⟨y,hy,hr⟩
    by_cases hlt:i<L.length
    · rcases ruleI L hL i hi with⟨x,j,h1,h2,_,h3,g⟩|⟨_,x,j,g⟩|⟨_,x,j,h1,h2,h3,_,g⟩
      · exact stepI L hL hW i hlt a b c acc (by omega) x _ _ g _ (ih j (acc ++ [x]) (by omega) h2 (by simp;omega) (bd_snoc L hL hW hB h3) ⟨y,List.mem_append_left _ hy,hr⟩)
      · exact stepI L hL hW i hlt a b c acc (by omega) x _ _ g _ (.succ (.const fun k=>badI ..))
      · exact stepI L hL hW i hlt a b c acc (by omega) x _ _ g _ (ih j (acc ++ [x]) (by omega) h2 (by simp;omega) (bd_snoc L hL hW hB h3) ⟨y,List.mem_append_left _ hy,hr⟩)
    · have:i=L.length:=by omega
      subst this
      obtain⟨r,h1,_,h3⟩:=rulesEnd L hL hW a b c acc (by omega) hB
      rw[polNo L hL hW (by omega) hB hy hr h1]at h3
      exact h3
theorem doomS (a b c:Int): ∀ d i (acc:List S43),L.length - i≤d→i≤L.length→acc.length≤i→(∀ y ∈ acc,Bd y)→(∃ y ∈ acc,¬ RuleR y.f0 y.f1 y.f2 y.f3)→Evt (fun k=>spec_ReadPolicy.l0 k L (i:Int) false a b c acc) none0:=by
  intro d
  induction d with
  | zero=>
    intro i acc hd hi ha hB ⟨y,hy,hr⟩
    have:i=L.length:=by omega
    subst this
    obtain⟨r,h1,h2,_⟩:=rulesEnd L hL hW a b c acc (by omega) hB
    rw[polNo L hL hW (by omega) hB hy hr h1]at h2
    exact h2
  | succ d ih=>
    intro i acc hd hi ha hB ⟨y,hy,hr⟩
    by_cases hlt:i<L.length
    · rcases ruleS L hL hW i hi with⟨x,j,h1,h2,_,h3,g⟩|⟨_,x,j,g⟩|⟨_,x,j,h1,h2,h3,_,g⟩
      · exact stepS L hL hW i hlt a b c acc (by omega) x _ _ g _ (ih j (acc ++ [x]) (by omega) h2 (by simp;omega) (bd_snoc L hL hW hB h3) ⟨y,List.mem_append_left _ hy,hr⟩)
      · exact stepS L hL hW i hlt a b c acc (by omega) x _ _ g _ (.succ (.const fun k=>badS ..))
      · exact stepS L hL hW i hlt a b c acc (by omega) x _ _ g _ (ih j (acc ++ [x]) (by omega) h2 (by simp;omega) (bd_snoc L hL hW hB h3) ⟨y,List.mem_append_left _ hy,hr⟩)
    · have:i=L.length:=by omega
      subst this
      obtain⟨r,h1,h2,_⟩:=rulesEnd L hL hW a b c acc (by omega) hB
      rw[polNo L hL hW (by omega) hB hy hr h1]at h2
      exact h2
/-- What comes of a reading of a policy whose rules are read. -/
def Fin (a b c:Int) (p:Option (List S43)) (R:Int×Int×Int×List S43×Bool):Prop:=
  (∀ v,p=some v→Evt (fun k=>spec_PolicyOk.f k a b c v) true→R=(a,b,c,v,true))∧(R=none0∨∃ v,R=(a,b,c,v,true)∧p=some v∧v.length≤2000∧(∀ y ∈ v,Bd y)∧Evt (fun k=>spec_PolicyOk.f k a b c v) true)
theorem rulesB (a b c:Int): ∀ d i (acc:List S43),L.length - i≤d→i≤L.length→acc.length≤i→(∀ y ∈ acc,Bd y)→∃ R,Evt (fun k=>spec_ReadPolicy.l0 k L (i:Int) false a b c acc) R∧Evt (fun k=>impl_ReadPolicy.l0 k L L (i:Int) false a b c acc) R∧Fin a b c (pRules d acc (L.drop i)) R:=by
  have fin: ∀ (d:Nat) (acc:List S43),acc.length≤L.length→(∀ y ∈ acc,Bd y)→∃ R,Evt (fun k=>spec_ReadPolicy.l0 k L (L.length:Int) false a b c acc) R∧Evt (fun k=>impl_ReadPolicy.l0 k L L (L.length:Int) false a b c acc) R∧Fin a b c (pRules d acc (L.drop L.length)) R:=fun d acc ha hB=>by
    obtain⟨r,h1,h2,h3⟩:=rulesEnd L hL hW a b c acc (by omega) hB
    have e:pRules d acc (L.drop L.length)=some acc:=by
      rw[List.drop_length]
      cases d <;> rfl
    rw[e]
    refine⟨_,h2,h3,fun v hv ht=>?_,?_⟩
    · cases hv
      rw[Evt.uniq h1 ht]
      rfl
    · cases r with
      | false=>exact .inl rfl
      | true=>exact .inr ⟨acc,rfl,rfl,by omega,hB,h1⟩
  intro d
  induction d with
  | zero=>
    intro i acc hd hi ha hB
    have:i=L.length:=by omega
    subst this
    exact fin 0 acc ha hB
  | succ d ih=>
    intro i acc hd hi ha hB
    by_cases hlt:i<L.length
    · have eR:pRules (d+1) acc (L.drop i)=(pRule (L.drop i)).bind fun q=>pRules d (acc ++ [q.1]) q.2:=by
        rw[List.drop_eq_getElem_cons hlt]
        rfl
      rw[eR]
      have hS:=ruleS L hL hW i hi
      have hI:=ruleI L hL i hi
      cases hp:pRule (L.drop i)with
      | some q=>
        rw[hp]at hS hI
        rcases hS with⟨x,j,h1,h2,e,h3,g⟩|⟨e,_⟩|⟨e,_⟩
        · cases e
          rcases hI with⟨x',j',h1',h2',e',h3',g'⟩|⟨e',_⟩|⟨e',_⟩
          · have ex:x=x':=congrArg (·.1) (Option.some.inj e')
            have ej:j=j':=drop_inj L hL j j' h2 h2' (congrArg (·.2) (Option.some.inj e'))
            subst ex ej
            obtain⟨R,r1,r2,r3⟩:=ih j (acc ++ [x]) (by omega) h2 (by simp;omega) (bd_snoc L hL hW hB h3)
            exact⟨R,stepS L hL hW i hlt a b c acc (by omega) x _ _ g _ r1,stepI L hL hW i hlt a b c acc (by omega) x _ _ g' _ r2,r3⟩
          · cases e'
          · cases e'
        · cases e
        · cases e
      | none=>
        rw[hp]at hS hI
        refine⟨none0,?_,?_,fun v hv=>(by cases hv),.inl rfl⟩
        · rcases hS with⟨x,j,h1,h2,e,h3,g⟩|⟨e,x,j,g⟩|⟨e,x,j,h1,h2,h3,h4,g⟩
          · cases e
          · exact stepS L hL hW i hlt a b c acc (by omega) x _ _ g _ (.succ (.const fun k=>badS ..))
          · exact stepS L hL hW i hlt a b c acc (by omega) x _ _ g _ (doomS L hL hW a b c (L.length - j) j (acc ++ [x]) (by omega) h2 (by simp;omega) (bd_snoc L hL hW hB h3) ⟨x,by simp,h4⟩)
        · rcases hI with⟨x,j,h1,h2,e,h3,g⟩|⟨e,x,j,g⟩|⟨e,x,j,h1,h2,h3,h4,g⟩
          · cases e
          · exact stepI L hL hW i hlt a b c acc (by omega) x _ _ g _ (.succ (.const fun k=>badI ..))
          · exact stepI L hL hW i hlt a b c acc (by omega) x _ _ g _ (doomI L hL hW a b c (L.length - j) j (acc ++ [x]) (by omega) h2 (by simp;omega) (bd_snoc L hL hW hB h3) ⟨x,by simp,h4⟩)
    · have:i=L.length:=by omega
      subst this
      exact fin (d+1) acc ha hB
/-- What comes of signs. -/
def FinP (p:Option (Int×Int×Int×List S43)) (R:Int×Int×Int×List S43×Bool):Prop:=
  (∀ a b c v,p=some (a,b,c,v)→Evt (fun k=>spec_PolicyOk.f k a b c v) true→R=(a,b,c,v,true))∧(R=none0∨∃ a b c v,R=(a,b,c,v,true)∧p=some (a,b,c,v)∧v.length≤2000∧(∀ y ∈ v,Bd y)∧Evt (fun k=>spec_PolicyOk.f k a b c v) true)
theorem restB: ∃ R,Evt (fun k=>restS k L) R∧Evt (fun k=>restI k L) R∧FinP (pPolicy L) R:=by
  have w1:=wantsE L hL hW 1 (⟨#[97,114,99,104]⟩ :ByteArray) (Mk.name 97 [114,99,104] (by decide))
  have w2:=wantsE L hL hW 3 (⟨#[59]⟩ :ByteArray) (Mk.mark 59 [] (by decide))
  have w3:=wantsE L hL hW 1 (⟨#[100,101,102,97,117,108,116]⟩ :ByteArray) (Mk.name 100 [101,102,97,117,108,116] (by decide))
  have nope: ∀ {p:Option (Int×Int×Int×List S43)},p=none→FinP p none0:=fun h=>by
    subst h
    exact⟨fun a b c v h=>(by cases h),.inl rfl⟩
  have bad: ∀ a n:Int,(∀ k,restS k L=restS2 k L a true n)→(∀ k,restI k L=restI2 k L a true n)→Evt (fun k=>restS k L) none0∧Evt (fun k=>restI k L) none0:=fun a n h1 h2=>⟨(rest2BadS L hL hW a n).congr h1,(rest2BadI L hL a n).congr h2⟩
  unfold pPolicy
  rcases mustI L hL 0 (by omega) (⟨#[97,114,99,104]⟩ :ByteArray)with⟨h1,e1,g1⟩|⟨e1,g1⟩
  · rw[List.drop_zero]at e1
    rw[e1]
    simp only[Option.bind_some]
    rcases numI L hL (0+1) (by omega)with⟨n,h2,e2,_,g2⟩|⟨e2,_,g2⟩
    · rw[e2]
      simp only[Option.bind_some]
      rcases mustI L hL (0+1+1) (by omega) (⟨#[59]⟩ :ByteArray)with⟨h3,e3,g3⟩|⟨e3,g3⟩
      · rw[e3]
        simp only[Option.bind_some]
        rcases mustI L hL (0+1+1+1) (by omega) (⟨#[100,101,102,97,117,108,116]⟩ :ByteArray)with⟨h4,e4,g4⟩|⟨e4,g4⟩
        · rw[e4]
          simp only[Option.bind_some]
          have toS: ∀ k,restS k L=restS2 k L ((0+1+1+1+1:Nat):Int) false n:=fun k=>by
            rw[restS,w1,show impl_reader_must.f L 0 false _=_ from g1,Option.bind_some,numE,g2,Option.bind_some,w2,g3,Option.bind_some,w3,g4,Option.bind_some]
          have toI: ∀ k,restI k L=restI2 k L ((0+1+1+1+1:Nat):Int) false n:=fun k=>by
            rw[restI,show impl_reader_must.f L 0 false _=_ from g1,Option.bind_some,g2,Option.bind_some,g3,Option.bind_some,g4,Option.bind_some]
          have hS:=sActI L hL (0+1+1+1+1) (by omega)
          have hI:=actI L hL (0+1+1+1+1) (by omega)
          cases hp:pAct (L.drop (0+1+1+1+1))with
          | some q=>
            rw[hp]at hS hI
            rcases hS with⟨u,d,j,h5,h6,e5,K5,g5⟩|⟨e5,_⟩
            · cases e5
              rcases hI with⟨u',d',j',h5',h6',e5',K5',g5'⟩|⟨e5',_⟩
              · have eu:u=u':=congrArg (·.1) (Option.some.inj e5')
                have ed:d=d':=congrArg (·.2.1) (Option.some.inj e5')
                have ej:j=j':=drop_inj L hL j j' h6 h6' (congrArg (·.2.2) (Option.some.inj e5'))
                subst eu ed ej
                dsimp only at g5 g5'
                simp only[Option.bind_some]
                rcases mustI L hL j h6 (⟨#[59]⟩ :ByteArray)with⟨h7,e7,g7⟩|⟨e7,g7⟩
                · rw[e7]
                  simp only[Option.bind_some]
                  obtain⟨R,⟨K8,r1⟩,⟨K9,r2⟩,r3,r4⟩:=rulesB L hL hW n u d (L.drop (j+1)).length (j+1) [] (by rw[List.length_drop];omega) (by omega) (by simp) (fun y hy=>by simp at hy)
                  dsimp only at r1 r2
                  refine⟨R,⟨K5+K8,fun k hk=>?_⟩,⟨K5'+K9,fun k hk=>?_⟩,?_,?_⟩
                  · show restS k L=_
                    rw[toS,restS2,g5 k (by omega),Option.bind_some,w2,g7,Option.bind_some]
                    exact r1 k (by omega)
                  · show restI k L=_
                    rw[toI,restI2,g5' k (by omega),Option.bind_some,g7,Option.bind_some]
                    exact r2 k (by omega)
                  · intro a b c v hv ht
                    rw[Option.map_eq_some_iff]at hv
                    obtain⟨v',hv1,hv2⟩:=hv
                    cases hv2
                    exact r3 v hv1 ht
                  · rcases r4 with r4|⟨v,r5,r6,r7⟩
                    · exact .inl r4
                    · exact .inr ⟨n,u,d,v,r5,by rw[r6];rfl,r7⟩
                · rw[e7]
                  refine⟨none0,⟨K5+1,fun k hk=>?_⟩,⟨K5'+1,fun k hk=>?_⟩,nope rfl⟩
                  · obtain⟨k,rfl⟩ : ∃ m,k=m+1:=⟨k - 1,by omega⟩
                    show restS (k+1) L=_
                    rw[toS,restS2,g5 (k+1) (by omega),Option.bind_some,w2,g7,Option.bind_some]
                    exact badS ..
                  · obtain⟨k,rfl⟩ : ∃ m,k=m+1:=⟨k - 1,by omega⟩
                    show restI (k+1) L=_
                    rw[toI,restI2,g5' (k+1) (by omega),Option.bind_some,g7,Option.bind_some]
                    exact badI ..
              · cases e5'
            · cases e5
          | none=>
            rw[hp]at hS hI
            refine⟨none0,?_,?_,nope rfl⟩
            · rcases hS with⟨u,d,j,h5,h6,e5,K5,g5⟩|⟨e5,u,d,j,K5,g5⟩
              · cases e5
              · dsimp only at g5
                refine⟨K5+1,fun k hk=>?_⟩
                obtain⟨k,rfl⟩ : ∃ m,k=m+1:=⟨k - 1,by omega⟩
                show restS (k+1) L=_
                rw[toS,restS2,g5 (k+1) (by omega),Option.bind_some,w2,mustBad,Option.bind_some]
                exact badS ..
            · rcases hI with⟨u,d,j,h5,h6,e5,K5,g5⟩|⟨e5,u,d,j,K5,g5⟩
              · cases e5
              · dsimp only at g5
                refine⟨K5+1,fun k hk=>?_⟩
                obtain⟨k,rfl⟩ : ∃ m,k=m+1:=⟨k - 1,by omega⟩
                show restI (k+1) L=_
                rw[toI,restI2,g5 (k+1) (by omega),Option.bind_some,mustBad,Option.bind_some]
                exact badI ..
        · rw[e4]
          obtain⟨r1,r2⟩:=bad ((0+1+1+1:Nat):Int) n (fun k=>by
            rw[restS,w1,show impl_reader_must.f L 0 false _=_ from g1,Option.bind_some,numE,g2,Option.bind_some,w2,g3,Option.bind_some,w3,g4,Option.bind_some]) (fun k=>by
            rw[restI,show impl_reader_must.f L 0 false _=_ from g1,Option.bind_some,g2,Option.bind_some,g3,Option.bind_some,g4,Option.bind_some])
          exact⟨none0,r1,r2,nope rfl⟩
      · rw[e3]
        obtain⟨r1,r2⟩:=bad ((0+1+1:Nat):Int) n (fun k=>by
          rw[restS,w1,show impl_reader_must.f L 0 false _=_ from g1,Option.bind_some,numE,g2,Option.bind_some,w2,g3,Option.bind_some,w3,mustBad,Option.bind_some]) (fun k=>by
          rw[restI,show impl_reader_must.f L 0 false _=_ from g1,Option.bind_some,g2,Option.bind_some,g3,Option.bind_some,mustBad,Option.bind_some])
        exact⟨none0,r1,r2,nope rfl⟩
    · rw[e2]
      obtain⟨r1,r2⟩:=bad ((0+1:Nat):Int) 0 (fun k=>by
        rw[restS,w1,show impl_reader_must.f L 0 false _=_ from g1,Option.bind_some,numE,g2,Option.bind_some,w2,mustBad,Option.bind_some,w3,mustBad,Option.bind_some]) (fun k=>by
        rw[restI,show impl_reader_must.f L 0 false _=_ from g1,Option.bind_some,g2,Option.bind_some,mustBad,Option.bind_some,mustBad,Option.bind_some])
      exact⟨none0,r1,r2,nope rfl⟩
  · rw[List.drop_zero]at e1
    rw[e1]
    obtain⟨r1,r2⟩:=bad 0 0 (fun k=>by
      rw[restS,w1,show impl_reader_must.f L 0 false _=_ from g1,Option.bind_some,numE,numBad,Option.bind_some,w2,mustBad,Option.bind_some,w3,mustBad,Option.bind_some]
      rfl) (fun k=>by
      rw[restI,show impl_reader_must.f L 0 false _=_ from g1,Option.bind_some,numBad,Option.bind_some,mustBad,Option.bind_some,mustBad,Option.bind_some]
      rfl)
    exact⟨none0,r1,r2,nope rfl⟩
end
/-! What is written as signs is read as these signs. -/
theorem bt_list (s:ByteArray) (i:Nat) (h:i<s.toList.length):bt s (i:Int)=(s.toList[i].toNat:Int):=by
  have hz:s.toList.length=s.size:=by rw[ByteArray.toList_eq];rfl
  have hs:i<s.size:=by omega
  unfold bt
  rw[dif_pos (by simpa using hs)]
  congr 2
  simp only[ByteArray.toList_eq,Int.toNat_natCast]
  rfl
theorem tl_len (s:ByteArray):s.toList.length=s.size:=by rw[ByteArray.toList_eq];rfl
theorem bt_drop {s:ByteArray} {i:Nat} {b:UInt8} {r:List UInt8} (h:s.toList.drop i=b :: r):bt s (i:Int)=(b.toNat:Int)∧i<s.size∧s.toList.drop (i+1)=r:=by
  have hl:i<s.toList.length:=by
    rcases Nat.lt_or_ge i s.toList.length with h1|h1
    · exact h1
    · rw[List.drop_eq_nil_of_le h1]at h;cases h
  have h2:=List.drop_eq_getElem_cons hl
  rw[h]at h2
  injection h2 with h3 h4
  exact⟨by rw[bt_list s i hl,← h3],by rw[tl_len]at hl;exact hl,h4.symm⟩
theorem nil_drop {s:ByteArray} {i:Nat} (h:s.toList.drop i= []): ¬ i<s.size:=by
  have:=List.drop_eq_nil_iff.1 h
  rw[tl_len]at this
  omega
/-- A blank, or the end. -/
def Bl (r:List UInt8):Prop:=r= []∨∃ b t,r=b :: t∧(b=32∨b=10)
theorem runTo_list (s:ByteArray) (a b:Int) (ha:32<a) (hb:b<256): ∀ (w rest:List UInt8) (d i:Nat),s.toList.drop i=w ++ rest→(∀ x ∈ w,a≤(x.toNat:Int)∧(x.toNat:Int)≤b)→Bl rest→d+i=s.size→runTo s a b d i=i+w.length
  | [],rest,0,i,h,_,_,hd=>by simp[runTo]
  | [],rest,d+1,i,h,_,hr,hd=>by
    simp only[runTo]
    rcases hr with rfl|⟨c,t,rfl,hc⟩
    · have:=nil_drop h;omega
    · have:=(bt_drop h).1
      rw[if_neg (by rcases hc with rfl|rfl <;> (simp at this;omega))]
      simp
  | x :: w,rest,0,i,h,hw,hr,hd=>by have:=(bt_drop h).2.1;omega
  | x :: w,rest,d+1,i,h,hw,hr,hd=>by
    obtain⟨h1,h2,h3⟩:=bt_drop h
    have hx:=hw x List.mem_cons_self
    simp only[runTo]
    rw[if_pos (by rw[h1];exact hx),runTo_list s a b ha hb w rest d (i+1) h3 (fun y hy=>hw y (List.mem_cons_of_mem _ hy)) hr (by omega)]
    simp only[List.length_cons]
    omega
theorem ext_list (s:ByteArray) (i n:Nat):(s.extract i (i+n)).toList=(s.toList.drop i).take n:=by
  simp only[ByteArray.toList_eq,ByteArray.data_extract,Array.toList_extract]
  rw[List.extract_eq_take_drop]
  simp
/-! Texts, as they are read; and the law. -/
theorem valF_nn (s:ByteArray): ∀ (d i:Nat) (v:Int),(∀ m,i≤m→m<i+d→48≤bt s (m:Int)∧bt s (m:Int)≤57)→0≤v→0≤valF s d i v
  | 0,_,_,_,h=>h
  | d+1,i,v,hm,h=>by
    have:=hm i (by omega) (by omega)
    exact valF_nn s d (i+1) _ (fun m h1 h2=>hm m (by omega) (by omega)) (by omega)
theorem findM_mem (s:ByteArray) (i:Nat): ∀ l:List ByteArray,findM s i l ∈ l∨findM s i l=⟨#[]⟩
  | []=> .inr rfl
  | m :: r=>by
    simp only[findM]
    split
    · exact .inl List.mem_cons_self
    · rcases findM_mem s i r with h|h
      · exact .inl (List.mem_cons_of_mem _ h)
      · exact .inr h
theorem marks_b: ∀ m ∈ marks,∃ b r,m.toList=b :: r∧b.toNat<97:=by
  intro m hm
  simp only[marks,List.mem_cons,List.not_mem_nil,or_false]at hm
  rcases hm with rfl|rfl|rfl|rfl|rfl|rfl|rfl|rfl|rfl|rfl <;> exact⟨_,_,by rw[ByteArray.toList_eq],by decide⟩
/-- What is read as signs is well made. -/
theorem toks_wf (s:ByteArray): ∀ d i xs,toks s d i=some xs→i≤s.size→(∀ x ∈ xs,SgW x)∧xs.length≤s.size - i
  | 0,i,xs,h,hi=>by
    simp only[toks,Option.some.injEq]at h
    subst h
    exact⟨by simp,by simp⟩
  | d+1,i,xs,h,hi=>by
    simp only[toks]at h
    have more: ∀ (x:S54) (e:Nat),i<e→e≤s.size→SgW x→(toks s d e).map (x :: ·)=some xs→(∀ x ∈ xs,SgW x)∧xs.length≤s.size - i:=fun x e h1 h2 h3 h4=>by
      rw[Option.map_eq_some_iff]at h4
      obtain⟨ys,h5,rfl⟩:=h4
      obtain⟨h6,h7⟩:=toks_wf s d e ys h5 h2
      refine⟨fun y hy=>?_,by simp only[List.length_cons];omega⟩
      rcases List.mem_cons.1 hy with rfl|hy
      · exact h3
      · exact h6 y hy
    by_cases hlt:i<s.size
    · rw[if_pos hlt]at h
      have hd1:s.size - i=(s.size - i - 1)+1:=by omega
      split at h
      · obtain⟨h1,h2⟩:=toks_wf s d (i+1) xs h (by omega)
        exact⟨h1,by omega⟩
      · split at h
        · rename_i hl
          have hle:=runTo_le s 97 122 (s.size - i) i
          have hgt:i<runTo s 97 122 (s.size - i) i:=by
            rw[hd1]
            simp only[runTo,if_pos hl]
            have:=(runTo_le s 97 122 (s.size - i - 1) (i+1)).1
            omega
          split at h
          · cases h
          · refine more _ _ hgt (by omega) (.inl ⟨rfl,?_⟩) h
            have hsl:i<s.toList.length:=by rw[tl_len];exact hlt
            obtain⟨n,hn⟩ : ∃ n,runTo s 97 122 (s.size - i) i=i+(n+1):=⟨runTo s 97 122 (s.size - i) i - i - 1,by omega⟩
            refine⟨s.toList[i],(s.toList.drop (i+1)).take n,?_,?_⟩
            · show(s.extract i _).toList=_
              rw[hn,ext_list,List.drop_eq_getElem_cons hsl,List.take_succ_cons]
            · have:=bt_list s i hsl
              omega
        · split at h
          · rename_i hf
            have hle:=runTo_le s 48 57 (s.size - i) i
            have hin:=runTo_in s 48 57 (s.size - i) i
            have hgt:i<runTo s 48 57 (s.size - i) i:=by
              rw[hd1]
              simp only[runTo,if_pos hf]
              have:=(runTo_le s 48 57 (s.size - i - 1) (i+1)).1
              omega
            split at h
            · cases h
            · exact more _ _ hgt (by omega) (.inr (.inl ⟨rfl,valF_nn s _ i 0 (fun m h1 h2=>hin m h1 (by omega)) (by omega)⟩)) h
          · split at h
            · cases h
            · rename_i he
              have hz:=findM_sz s i marks marks_sz
              have h0:findM s i marks ∈ marks:=(findM_mem s i marks).resolve_right (fun c=>he (by rw[c,ByteArray.toList_eq]))
              have h2:=hz.2.resolve_left he
              have hp:1≤(findM s i marks).size:=by
                rcases Nat.eq_zero_or_pos (findM s i marks).size with h|h
                · exact absurd (by rw[ByteArray.toList_eq];exact List.eq_nil_of_length_eq_zero h) he
                · exact h
              exact more _ _ (by omega) h2 (.inr (.inr ⟨rfl,marks_b _ h0⟩)) h
    · rw[if_neg hlt]at h
      cases h
      exact⟨by simp,by simp⟩
theorem signsV_wf (s:ByteArray) {xs:List S54} (h:signsV s=(xs,true)):(∀ x ∈ xs,SgW x)∧xs.length≤2000:=by
  unfold signsV at h
  split at h
  · cases h
  · rename_i hs
    cases ht:toks s s.size 0 with
    | none=>rw[ht]at h;cases h
    | some r=>
      rw[ht]at h
      cases h
      rw[List.nil_append]
      obtain⟨h1,h2⟩:=toks_wf s s.size 0 r ht (by omega)
      exact⟨h1,by omega⟩
/-- What a text tells. -/
def pText (s:ByteArray):Option (Int×Int×Int×List S43):=if(signsV s).2=true then pPolicy (signsV s).1 else none
/-- Both read the same. -/
theorem readB (s:ByteArray): ∃ R,Evt (fun k=>spec_ReadPolicy.f k s) R∧Evt (fun k=>impl_ReadPolicy.f k s) R∧FinP (pText s) R:=by
  obtain⟨⟨K1,h1⟩,⟨K2,h2⟩⟩:=signsOf s
  dsimp only at h1 h2
  unfold pText
  cases hv:signsV s with
  | mk xs ok=>
    rw[hv]at h1 h2
    cases ok with
    | false=>
      refine⟨none0,⟨K1,fun k hk=>?_⟩,⟨K2,fun k hk=>?_⟩,fun a b c v h=>(by simp at h),.inl rfl⟩
      · show spec_ReadPolicy.f k s=_
        rw[readSE,h1 k hk]
        rfl
      · show impl_ReadPolicy.f k s=_
        rw[readIE,h2 k hk]
        rfl
    | true=>
      obtain⟨hW,hL⟩:=signsV_wf s hv
      obtain⟨R,⟨K3,r1⟩,⟨K4,r2⟩,r3⟩:=restB xs hL hW
      dsimp only at r1 r2
      refine⟨R,⟨K1+K3,fun k hk=>?_⟩,⟨K2+K4,fun k hk=>?_⟩,r3⟩
      · show spec_ReadPolicy.f k s=_
        rw[readSE,h1 k (by omega),Option.bind_some]
        exact r1 k (by omega)
      · show impl_ReadPolicy.f k s=_
        rw[readIE,h2 k (by omega),Option.bind_some]
        exact r2 k (by omega)
/-- What is read is small. -/
theorem FinP.small {p:Option (Int×Int×Int×List S43)} {R:Int×Int×Int×List S43×Bool} (h:FinP p R):R.2.2.2.1.length≤10∧∀ y ∈ R.2.2.2.1,y.f0.length≤4∧y.f1.length≤3:=by
  rcases h.2 with h|⟨a,b,c,v,h,_,h1,h2,K,g⟩
  · rw[h]
    exact⟨by decide,fun y hy=>by cases hy⟩
  · have:=pol_inv a b c v (by omega) (fun y hy=>⟨by have:=(h2 y hy).1;omega,by have:=(h2 y hy).2;omega⟩) (g K (Nat.le_refl _))
    rw[h]
    exact⟨this.2.2.1,fun y hy=>⟨(this.2.2.2 y hy).2.2.1,(this.2.2.2 y hy).2.2.2.1⟩⟩
theorem eqPolE (R:Int×Int×Int×List S43×Bool) (h:R.2.2.2.1.length≤10∧∀ y ∈ R.2.2.2.1,y.f0.length≤4∧y.f1.length≤3):Evt (fun k=>laws_eqPolicy.f k R.1 R.2.1 R.2.2.1 R.2.2.2.1 R.1 R.2.1 R.2.2.1 R.2.2.2.1) true:=
  Elaws_eqPolicy _ _ _ _ ⟨by omega,fun y hy=>⟨by have:=(h.2 y hy).1;omega,by have:=(h.2 y hy).2;omega⟩⟩
theorem condH_l0: ∀ (d i:Nat) (x:List S66) (q:Int),i+d=x.length→0≤q→q+6*d≤1000000→x.length≤1000000→∃ y,Evt (fun k=>laws_markCondS.l0 k x q (i:Int)) (q+6*d,y)∧Evt (fun k=>laws_heldCondS.l0 k y q (i:Int)) (q+6*d)∧y.length=x.length∧(∀ j,j<i→y[j]?=x[j]?)
  | 0,i,x,q,hi,hq,hb,hl=>by
    refine⟨x,.succ (.const fun k=>?_),.succ (.const fun k=>?_),rfl,fun _ _=>rfl⟩
    · simp only[laws_markCondS.l0]
      rw[if_neg (by omega)]
      simp
    · simp only[laws_heldCondS.l0]
      rw[if_neg (by omega)]
      simp
  | d+1,i,x,q,hi,hq,hb,hl=>by
    have hlt:i<x.length:=by omega
    obtain⟨y,⟨K,h⟩,⟨K2,h2⟩,hyl,hy⟩:=condH_l0 d (i+1) (x.set i ⟨q,⟨q+1,q+2⟩,q+3,⟨q+4,q+5⟩⟩) (q+6) (by rw[List.length_set];omega) (by omega) (by omega) (by rw[List.length_set];exact hl)
    rw[List.length_set]at hyl
    dsimp only at h h2
    have hyi:y[i]?=some ⟨q,⟨q+1,q+2⟩,q+3,⟨q+4,q+5⟩⟩:=by rw[hy i (by omega),List.getElem?_set_self hlt]
    have hlt':i<y.length:=by omega
    have hyg:rd_T66 y (i:Int)=⟨q,⟨q+1,q+2⟩,q+3,⟨q+4,q+5⟩⟩:=by
      rw[nrd_T66 y i hlt']
      rw[List.getElem?_eq_getElem hlt']at hyi
      exact Option.some.inj hyi
    have w1:wrap64 (q+1)=q+1:=w64 (by omega) (by omega)
    have w2:wrap64 (q+2)=q+2:=w64 (by omega) (by omega)
    have w3:wrap64 (q+3)=q+3:=w64 (by omega) (by omega)
    have w4:wrap64 (q+4)=q+4:=w64 (by omega) (by omega)
    have w5:wrap64 (q+5)=q+5:=w64 (by omega) (by omega)
    have w6:wrap64 (q+6)=q+6:=w64 (by omega) (by omega)
    have rs: ∀ v,rd_T66 (x.set i v) (i:Int)=v:=fun v=>by rw[nrd_T66 _ i (by rw[List.length_set];exact hlt),List.getElem_set_self]
    refine⟨y,.succ ⟨K,fun k hk=>?_⟩,.succ ⟨K2,fun k hk=>?_⟩,hyl,fun j hj=>?_⟩
    · simp only[laws_markCondS.l0]
      rw[if_pos (by omega),if_pos (by omega)]
      simp only[Option.bind_some,Int.toNat_natCast,nrd_T66 _ i hlt,rs,List.set_set,w1,w2,w3,w4,w5,w6,Int.add_assoc,Int.reduceAdd]
      rw[show wrap64 ((i:Int)+1)=((i+1:Nat):Int)from wsucc hlt (by omega),h k hk]
      refine congrArg some (Prod.ext ?_ rfl)
      show q+6+6*(d:Int)=q+6*((d+1:Nat):Int)
      clear w1 w2 w3 w4 w5 w6
      omega
    · simp only[laws_heldCondS.l0,hyg]
      simp only[w1,w2,w3,w4,w5,w6,Int.add_assoc,Int.reduceAdd,if_true]
      rw[if_pos (by omega),if_pos (by omega),show wrap64 ((i:Int)+1)=((i+1:Nat):Int)from wsucc hlt' (by omega),h2 k hk]
      refine congrArg some ?_
      clear w1 w2 w3 w4 w5 w6
      omega
    · rw[hy j (by omega),List.getElem?_set_ne (by omega)]
theorem ruleH_l0: ∀ (d i:Nat) (x:List S43) (q:Int),i+d=x.length→0≤q→q+24*d≤100000→x.length≤10→(∀ j (h:j<x.length),i≤j→x[j].f0.length≤4∧x[j].f1.length≤3)→∃ r y,Evt (fun k=>laws_markRuleS.l0 k x q (i:Int)) (r,y)∧Evt (fun k=>laws_heldRuleS.l0 k y q (i:Int)) r∧0≤r∧y.length=x.length∧(∀ j,j<i→y[j]?=x[j]?):=by
  intro d
  induction d with
  | zero=>
    intro i x q hi hq hb hl hB
    refine⟨q,x,.succ (.const fun k=>?_),.succ (.const fun k=>?_),hq,rfl,fun _ _=>rfl⟩
    · simp only[laws_markRuleS.l0]
      rw[if_neg (by omega)]
    · simp only[laws_heldRuleS.l0]
      rw[if_neg (by omega)]
  | succ d ih=>
    intro i x q hi hq hb hl hB
    have hlt:i<x.length:=by omega
    obtain⟨b0,b1⟩:=hB i hlt (Nat.le_refl _)
    obtain⟨u,⟨K1,h1⟩,⟨K2,h2⟩,_,_⟩:=markIntH_l0 x[i].f0.length 0 x[i].f0 q (by omega) hq (by omega) (by omega)
    obtain⟨v,⟨K3,h3⟩,⟨K4,h4⟩,_,_⟩:=condH_l0 x[i].f1.length 0 x[i].f1 (q+x[i].f0.length) (by omega) (by omega) (by omega) (by omega)
    generalize hs:q+(x[i].f0.length:Int)+6*(x[i].f1.length:Int)=s at h3 h4
    have e1:Aside0 (wrap64 (s+1)=s+1):=⟨w64 (by omega) (by omega)⟩
    have e2:Aside0 (wrap64 (s+1+1)=s+2):=⟨by rw[w64 (by omega) (by omega)];omega⟩
    obtain⟨r,y,⟨K5,h5⟩,⟨K6,h6⟩,hr,hyl,hy⟩:=ih (i+1) (x.set i ⟨u,v,s,s+1⟩) (s+2) (by rw[List.length_set];omega) (by omega) (by omega) (by rw[List.length_set];exact hl) (fun j hj hij=>by
      rw[List.length_set]at hj
      rw[List.getElem_set_ne (by omega)]
      exact hB j hj (by omega))
    rw[List.length_set]at hyl
    dsimp only at h1 h2 h3 h4 h5 h6
    have hyi:y[i]?=some ⟨u,v,s,s+1⟩:=by rw[hy i (by omega),List.getElem?_set_self hlt]
    have hlt':i<y.length:=by omega
    have hyg:rd_T43 y (i:Int)=⟨u,v,s,s+1⟩:=by
      rw[nrd_T43 y i hlt']
      rw[List.getElem?_eq_getElem hlt']at hyi
      exact Option.some.inj hyi
    refine⟨r,y,.succ ⟨K1+K3+K5,fun k hk=>?_⟩,.succ ⟨K2+K4+K6,fun k hk=>?_⟩,hr,hyl,fun j hj=>?_⟩
    · simp only[laws_markRuleS.l0]
      rw[if_pos (by omega),if_pos (by omega),nrd_T43 x i hlt,show laws_markIntS.f k x[i].f0 q=_ from h1 k (by omega)]
      simp only[Option.bind_some]
      rw[show laws_markCondS.f k x[i].f1 (q+(x[i].f0.length:Int))=_ from h3 k (by omega)]
      simp only[Option.bind_some,e1.out,e2.out,Int.toNat_natCast]
      rw[show wrap64 ((i:Int)+1)=((i+1:Nat):Int)from wsucc hlt (by omega)]
      exact h5 k (by omega)
    · simp only[laws_heldRuleS.l0,hyg]
      rw[if_pos (by omega),if_pos (by omega),show laws_heldIntS.f k u q=_ from h2 k (by omega)]
      simp only[Option.bind_some]
      rw[if_neg (by omega),show laws_heldCondS.f k v (q+(x[i].f0.length:Int))=_ from h4 k (by omega)]
      simp only[Option.bind_some,e1.out,e2.out,if_true]
      rw[if_neg (by omega),show wrap64 ((i:Int)+1)=((i+1:Nat):Int)from wsucc hlt' (by omega)]
      exact h6 k (by omega)
    · rw[hy j (by omega),List.getElem?_set_ne (by omega)]
theorem polH (a b c:Int) (x:List S43) (h:x.length≤10∧∀ y ∈ x,y.f0.length≤4∧y.f1.length≤3): ∃ r y,Evt (fun k=>laws_markPolicy.f k a b c x 1) (r,y)∧(∀ a b c,Evt (fun k=>laws_heldPolicy.f k a b c y 1) r)∧0≤r:=by
  obtain⟨r,y,h1,⟨K,h2⟩,h3,_⟩:=ruleH_l0 x.length 0 x 1 (by omega) (by omega) (by omega) h.1 (fun j hj _=>h.2 _ (List.getElem_mem hj))
  refine⟨r,y,h1,fun a b c=>⟨K,fun k hk=>?_⟩,h3⟩
  simp only[laws_heldPolicy.f]
  rw[show laws_heldRuleS.f k y 1=_ from h2 k hk,Option.bind_some,if_neg (by omega)]
theorem main (s:ByteArray) (hs:s.size≤140737488351232): ∃ k,laws_FnExactReadPolicy.f k s=some true:=by
  by_cases hz:(s.size:Int)>1048576
  · exact⟨0,by simp only[laws_FnExactReadPolicy.f];rw[if_pos hz]⟩
  obtain⟨R,⟨K1,h1⟩,⟨K2,h2⟩,hF⟩:=readB s
  obtain⟨K3,h3⟩:=eqPolE R hF.small
  obtain⟨r,y,⟨K4,h4⟩,hH,h0⟩:=polH R.1 R.2.1 R.2.2.1 R.2.2.2.1 hF.small
  obtain⟨K5,h5⟩:=hH R.1 R.2.1 R.2.2.1
  dsimp only at h1 h2 h3 h4 h5
  refine⟨K1+K2+K3+K4+K5+2,?_⟩
  obtain⟨k,hk⟩ : ∃ k,k=K1+K2+K3+K4+K5:=⟨_,rfl⟩
  rw[← hk]
  simp only[laws_FnExactReadPolicy.f]
  rw[if_neg hz,h1 (k+2) (by omega),Option.bind_some,h2 (k+2) (by omega),Option.bind_some,h3 (k+2) (by omega),Option.bind_some,if_pos rfl]
  simp only[laws_FnExactReadPolicy.j0,bne_self_eq_false,Bool.false_eq_true,if_false]
  rw[h4 (k+1) (by omega),Option.bind_some,h5 (k+1) (by omega),Option.bind_some,if_neg (by omega),if_pos rfl,h2 (k+1) (by omega),Option.bind_some,h3 (k+1) (by omega),Option.bind_some,if_pos rfl]
  simp only[laws_FnExactReadPolicy.j1,bne_self_eq_false,Bool.false_eq_true,if_false]
  rw[h5 k (by omega),Option.bind_some,if_neg (by omega),if_pos rfl]

end Go.Proofs.Ytfhjjfibblcklaa.PFnExactReadPolicy
end
section
/- FnExactReadPolicy: The program's ReadPolicy returns what the reference's returns, in memory of its own, for all texts. No conditions. -/
namespace Go.Proofs.Ytfhjjfibblcklaa.Pure
open Go Go.RowKit Go.Proofs.Ytfhjjfibblcklaa.PFnExactReadPolicy Go.Proofs.YtfhjjfibblcklaaW.PrintWords Go.Proofs.YtfhjjfibblcklaaW.PrintLast
theorem FnExactReadPolicy : laws_FnExactReadPolicy.Pure := by
 intro a0 h; exact main a0 h
end Go.Proofs.Ytfhjjfibblcklaa.Pure
end
section
/- FnExactReadPolicy: the row. No conditions. -/
namespace Go.Proofs.Ytfhjjfibblcklaa.fnExactReadPolicy
open Go.ChangeShapes Go.WideShapes Go.ChangeAt Go.RowKit
open Go.ChangeMaps (open_string shut_string)
set_option linter.unusedVariables false
theorem own : ownKnob Try.prog.godebug = none := by kernel_rfl
set_option maxRecDepth 100000 in
theorem lifted (os : Os) (started : os.Started) (H : Type) (enc : TypeId × Value → H) :
    ReturnsInHanded {} Try.checked os 3 .any (Rows.fnExactReadPolicySpec.pre6 enc Try.prog Try.f3 Rows.fnExactReadPolicyRow.domain false) (Rows.fnExactReadPolicySpec.post enc Try.prog Try.f3 false true false false) := by
  refine returnsInHanded_of_change_sized (C := Try.checked) own started (by kernel_rfl) Try.func3
    (ChangeSpec.witness6 (enc := enc) (C := Try.checked) false ⟨#[], #[.string ByteArray.empty], []⟩ 8 (by kernel_rfl) (by kernel_rfl) (by kernel_rfl) (by kernel_rfl)) ?_
  intro W base args ds gs before hval0 hW hcnd hsz0 _
  have hsz : (DataW.weightsEach Try.prog (Try.f3.params.toList ++ Rows.fnExactReadPolicySpec.plain.varTypes Try.prog) (ds ++ gs)).all (· ≤ reachBytes) = true := hsz0
  have hval : ∀ (j : Nat) t v, Try.f3.params[j]? = some t → args[j]? = some v → Value.okWide Try.prog W .any base t v := hval0
  have hW' := hW
  obtain ⟨p, q, hA0, hV, rfl, hfz, hnd⟩ := hW
  have hA : DataW.TrodAll enc Try.prog W 0 (fun _ => true) true Try.f3.params.toList args.toList ds p := hA0
  rw [Try.params3] at hA hval hsz
  obtain ⟨v0, vs0, d0, ds0, p0, q0, hargs, rfl, rfl, h0, r0⟩ := trodAll_cons hA
  obtain ⟨rfl, rfl, rfl⟩ := trodAll_nil r0
  obtain rfl : args = #[v0] := by cases args; simp_all
  obtain ⟨rfl, rfl⟩ := trodVars_none hV
  obtain ⟨a0, rfl, rfl, rfl, y0⟩ := open_string Try.underlying9 (hval 0 9 v0 rfl rfl) h0
  have w0 : a0.size ≤ 140737488351232 := by
    have z := sized_string hsz (j := 0) (t := 9) rfl rfl
    rw [Array.length_toList] at z
    exact z
  clear hA0 hval0 hsz0 hsz
  refine (PFnExactReadPolicy.laws_FnExactReadPolicy.walk Pure.FnExactReadPolicy a0 W w0).mono fun e W' ⟨he, bel⟩ => ?_
  subst he
  exact ⟨_, rfl, _, _, _, [], _, [], hW', trodAll_mk1 (shut_bool Try.underlying4 _), (trodAll_cons_mk (shut_string Try.underlying9 y0) trodAll_mk0), rfl, bel.frame _, fun h => by cases h⟩
theorem over : Rows.fnExactReadPolicyRow.holds Try.pinned (OpenSpec.ofChange Rows.fnExactReadPolicySpec) :=
  OpenClaim.holds_of_wide 3 Try.f3 rfl rfl rfl rfl rfl rfl rfl ⟨rfl, rfl, rfl, rfl, rfl⟩ rfl rfl rfl rfl rfl (by kernel_rfl) Try.func3 (by kernel_rfl)
    (of_decide_eq_true (by kernel_rfl)) (by unfold Func.isWrapper; first | (rw [if_pos (by decide +kernel)]; kernel_rfl) | (rw [if_neg (by decide +kernel)]; exact ⟨rfl, rfl⟩))
    (fun os started H enc _ => lifted os started H enc)
theorem proved : Rows.FnExactReadPolicySaid := over
#print axioms proved
end Go.Proofs.Ytfhjjfibblcklaa.fnExactReadPolicy
namespace Go.Proofs.Ytfhjjfibblcklaa
/-- The row, under a short name, for the claim. -/
theorem fnExactReadPolicy_holds : Rows.FnExactReadPolicySaid := fnExactReadPolicy.proved
end Go.Proofs.Ytfhjjfibblcklaa
end
