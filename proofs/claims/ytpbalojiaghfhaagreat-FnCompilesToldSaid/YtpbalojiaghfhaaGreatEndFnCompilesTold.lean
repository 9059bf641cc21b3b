/- FnCompilesTold: what is made of a drawn policy, right or not, is what the document tells. No conditions. -/
import Derived.Test.YtpbalojiaghfhaaGreatVWMore
import Derived.Lib.SlicesCompact
import Derived.Test.YtpbalojiaghfhaaGreatPFnCompilesToldyy
import Derived.Test.YtpbalojiaghfhaaGreatRows
import Derived.WalkKit
import Derived.ProofKit
import Derived.OpenShut
import Derived.ShutString
import Derived.ChangeOld
import Derived.Below
import Derived.SizedLaws
import Derived.Test.YtpbalojiaghfhaaGreatVWSized
section
/- Plain lemmas on numbers and lists for the pure statements: no program, no memory. -/
namespace Go.Proofs.YtpbalojiaghfhaaGreatW.PK
open Go Go.RowKit Go.Proofs.YtpbalojiaghfhaaGreatW.PrintWords
theorem w64 {x : Int} (h1 : -9223372036854775808 ≤ x) (h2 : x ≤ 9223372036854775807) : wrap64 x = x := by unfold wrap64; omega
theorem wsucc {i n : Nat} (h : i < n) (hn : n ≤ 9223372036854775807) : wrap64 ((i : Int) + 1) = ((i + 1 : Nat) : Int) := by unfold wrap64; omega
theorem getD_lt {α : Type} {xs : List α} {i : Nat} (z : α) (h : i < xs.length) : xs.getD ((i : Int)).toNat z = xs[i] := by
 rw [Int.toNat_natCast, List.getD_eq_getElem?_getD, List.getElem?_eq_getElem h]
 rfl
theorem take_succ_eq {α : Type} {xs ys : List α} {i : Nat} (hx : i < xs.length) (hy : i < ys.length) (h : xs.take i = ys.take i) (e : xs[i] = ys[i]) : xs.take (i + 1) = ys.take (i + 1) := by
 rw [List.take_succ_eq_append_getElem hx, List.take_succ_eq_append_getElem hy, h, e]
theorem take_set {α : Type} {xs : List α} {i : Nat} (v : α) : (xs.set i v).take i = xs.take i := by
 rw [List.take_set_of_le (Nat.le_refl _)]
/-- Rounds: a thing that is so from K rounds on. -/
theorem ev_of {α : Type} {g : Nat → Option α} {r : α} (K : Nat) (h : ∀ k, K ≤ k → g k = some r) : ∃ K, ∀ k, K ≤ k → g k = some r := ⟨K, h⟩
end Go.Proofs.YtpbalojiaghfhaaGreatW.PK
end
section
/- Values that a function comes to from some number of rounds on, and the loops over lists: plain lemmas. -/
namespace Go.Proofs.YtpbalojiaghfhaaGreatW.PK
open Go Go.RowKit Go.Proofs.YtpbalojiaghfhaaGreatW.PrintWords
def Evt {α : Type} (g : Nat → Option α) (v : α) : Prop := ∃ K, ∀ k, K ≤ k → g k = some v
theorem Evt.const {α : Type} {g : Nat → Option α} {v : α} (h : ∀ k, g k = some v) : Evt g v := ⟨0, fun k _ => h k⟩
theorem Evt.succ {α : Type} {g : Nat → Option α} {v : α} (h : Evt (fun k => g (k + 1)) v) : Evt g v := by
  obtain ⟨K, h⟩ := h
  refine ⟨K + 1, fun k hk => ?_⟩
  obtain ⟨k, rfl⟩ : ∃ m, k = m + 1 := ⟨k - 1, by omega⟩
  exact h k (by omega)
theorem Evt.bind {α β : Type} {g : Nat → Option α} {h : α → Nat → Option β} {a : α} {b : β} (h1 : Evt g a) (h2 : Evt (h a) b) : Evt (fun k => (g k).bind fun x => h x k) b := by
  obtain ⟨K1, h1⟩ := h1
  obtain ⟨K2, h2⟩ := h2
  refine ⟨K1 + K2, fun k hk => ?_⟩
  show (g k).bind _ = _
  rw [h1 k (by omega)]
  exact h2 k (by omega)
theorem Evt.congr {α : Type} {g g' : Nat → Option α} {v : α} (h : Evt g v) (e : ∀ k, g' k = g k) : Evt g' v := by
  obtain ⟨K, h⟩ := h
  exact ⟨K, fun k hk => (e k).trans (h k hk)⟩
theorem Evt.uniq {α : Type} {g : Nat → Option α} {v u : α} (h : Evt g v) (h' : Evt g u) : v = u := by
  obtain ⟨K, h⟩ := h
  obtain ⟨K', h'⟩ := h'
  exact Option.some.inj ((h (K + K') (by omega)).symm.trans (h' (K + K') (by omega)))
/-- There is a value. -/
def Tot {α : Type} (g : Nat → Option α) : Prop := ∃ v, Evt g v
theorem Tot.const {α : Type} {g : Nat → Option α} {v : α} (h : ∀ k, g k = some v) : Tot g := ⟨v, .const h⟩
theorem Tot.some {α : Type} {v : α} : Tot (fun _ => some v) := ⟨v, .const fun _ => rfl⟩
theorem Tot.succ {α : Type} {g : Nat → Option α} (h : Tot (fun k => g (k + 1))) : Tot g := by
  obtain ⟨v, h⟩ := h
  exact ⟨v, h.succ⟩
theorem Tot.bind {α β : Type} {g : Nat → Option α} {h : α → Nat → Option β} (h1 : Tot g) (h2 : ∀ a, Evt g a → Tot (h a)) : Tot (fun k => (g k).bind fun x => h x k) := by
  obtain ⟨a, h1⟩ := h1
  obtain ⟨b, h2⟩ := h2 a h1
  exact ⟨b, h1.bind h2⟩
theorem Tot.ite {α : Type} {c : Prop} [Decidable c] {g h : Nat → Option α} (h1 : c → Tot g) (h2 : ¬ c → Tot h) : Tot (fun k => if c then g k else h k) := by
  by_cases hc : c
  · simp only [if_pos hc]
    exact h1 hc
  · simp only [if_neg hc]
    exact h2 hc
theorem Tot.congr {α : Type} {g g' : Nat → Option α} (h : Tot g) (e : ∀ k, g' k = g k) : Tot g' := by
  obtain ⟨v, h⟩ := h
  exact ⟨v, h.congr e⟩
/-- Down from a list's end. -/
theorem down {T : Nat → Prop} {n : Nat} (h0 : T n) (h1 : ∀ i, i < n → T (i + 1) → T i) : ∀ d i, i + d = n → T i
  | 0, i, h => by
    have : i = n := by omega
    subst this
    exact h0
  | d + 1, i, h => h1 i (by omega) (down h0 h1 d (i + 1) (by omega))
/-- A loop that goes through. -/
theorem Evt.pass {β : Type} {F : Nat → Int → Option β} {n : Nat} {r : β} (h0 : Evt (fun k => F (k + 1) (n : Int)) r) (h1 : ∀ i : Nat, i < n → ∃ K, ∀ k, K ≤ k → F (k + 1) (i : Int) = F k ((i + 1 : Nat) : Int)) : Evt (fun k => F k 0) r :=
  down (T := fun i => Evt (fun k => F k (i : Int)) r) (n := n) (.succ h0) (fun i hi ih => by
    obtain ⟨K1, h1⟩ := h1 i hi
    obtain ⟨K2, h2⟩ := ih
    refine Evt.succ ⟨K1 + K2, fun k hk => ?_⟩
    show F (k + 1) (i : Int) = _
    rw [h1 k (by omega)]
    exact h2 k (by omega)) n 0 (by omega)
/-- A list copied, member by member. -/
theorem Evt.to {A B : Type} {F : Nat → List B → Int → Option (List B)} {x : List A} {conv : A → B} (h0 : ∀ k y, F (k + 1) y (x.length : Int) = some y)
    (h1 : ∀ (i : Nat) (h : i < x.length), ∃ K, ∀ k, K ≤ k → ∀ y : List B, y.length = x.length → F (k + 1) y (i : Int) = F k (y.set i (conv x[i])) ((i + 1 : Nat) : Int)) (y0 : List B) (hy0 : y0.length = x.length) : Evt (fun k => F k y0 0) (x.map conv) := by
  have key : ∀ y : List B, y.length = x.length → (∀ j, j < 0 → y[j]? = (x.map conv)[j]?) → Evt (fun k => F k y ((0 : Nat) : Int)) (x.map conv) := by
    have h := down (T := fun i => ∀ y : List B, y.length = x.length → (∀ j, j < i → y[j]? = (x.map conv)[j]?) → Evt (fun k => F k y (i : Int)) (x.map conv)) (n := x.length) ?_ ?_
    · exact h x.length 0 (by omega)
    · intro y hy hj
      refine .succ (.const fun k => (h0 k y).trans (congrArg some (List.ext_getElem? fun j => ?_)))
      rcases Nat.lt_or_ge j x.length with h | h
      · exact hj j h
      · rw [List.getElem?_eq_none (by omega), List.getElem?_eq_none (by rw [List.length_map]; omega)]
    · intro i hi ih y hy hj
      obtain ⟨K1, h1⟩ := h1 i hi
      obtain ⟨K2, h2⟩ := ih (y.set i (conv x[i])) (by rw [List.length_set]; exact hy) (fun j h => by
        rcases Nat.lt_or_ge j i with h3 | h3
        · rw [List.getElem?_set_ne (by omega)]
          exact hj j h3
        · have : j = i := by omega
          subst this
          rw [List.getElem?_set_self (by omega), List.getElem?_map, List.getElem?_eq_getElem hi]
          rfl)
      refine .succ ⟨K1 + K2, fun k hk => ?_⟩
      show F (k + 1) y (i : Int) = _
      rw [h1 k (by omega) y hy]
      exact h2 k (by omega)
  exact key y0 hy0 (fun j h => by omega)
/-- A measure that goes down a list. -/
theorem Evt.sz {F : Nat → Int → Int → Option Int} {n : Nat} {P : Nat → Prop} (h0 : ∀ k q, F (k + 1) q (n : Int) = some q)
    (h1 : ∀ i : Nat, i < n → ∀ q : Int, 0 ≤ q → q ≤ 1048576 → ∃ s : Int, s ≤ q ∧ (0 ≤ s → P i) ∧ ∃ K, ∀ k, K ≤ k → F (k + 1) q (i : Int) = if s < 0 then some (-1) else F k s ((i + 1 : Nat) : Int)) (q : Int) (hq : 0 ≤ q) (hq' : q ≤ 1048576) :
    ∃ s : Int, s ≤ q ∧ (0 ≤ s → ∀ i, i < n → P i) ∧ Evt (fun k => F k q 0) s := by
  have h := down (T := fun i => ∀ q : Int, 0 ≤ q → q ≤ 1048576 → ∃ s : Int, s ≤ q ∧ (0 ≤ s → ∀ j, i ≤ j → j < n → P j) ∧ Evt (fun k => F k q (i : Int)) s) (n := n) ?_ ?_ n 0 (by omega) q hq hq'
  · obtain ⟨s, a, b, c⟩ := h
    exact ⟨s, a, fun hs i hi => b hs i (by omega) hi, c⟩
  · intro q _ _
    exact ⟨q, Int.le_refl _, fun _ j h2 h3 => by omega, .succ (.const fun k => h0 k q)⟩
  · intro i hi ih q hq hq'
    obtain ⟨s, hs, hP, K, hK⟩ := h1 i hi q hq hq'
    by_cases hn : s < 0
    · refine ⟨-1, by omega, fun h => by omega, .succ ⟨K, fun k hk => ?_⟩⟩
      show F (k + 1) q (i : Int) = _
      rw [hK k hk, if_pos hn]
    · obtain ⟨u, hu, hU, K2, hK2⟩ := ih s (by omega) (by omega)
      refine ⟨u, by omega, fun h j h2 h3 => ?_, .succ ⟨K + K2, fun k hk => ?_⟩⟩
      · rcases Nat.lt_or_ge i j with h4 | h4
        · exact hU h j (by omega) h3
        · have : i = j := by omega
          subst this
          exact hP (by omega)
      · show F (k + 1) q (i : Int) = _
        rw [hK k (by omega), if_neg hn]
        exact hK2 k (by omega)
end Go.Proofs.YtpbalojiaghfhaaGreatW.PK
end
section
/- The pure law of FnCompilesTold: what is made of a drawn policy, right or not, is what the document tells. No conditions. -/
set_option linter.unusedSimpArgs false
set_option linter.unusedVariables false
set_option linter.unusedSectionVars false
namespace Go.Proofs.YtpbalojiaghfhaaGreat.PFnCompilesTold
open Go Go.RowKit Go.Proofs.YtpbalojiaghfhaaGreatW.PrintWords Go.Proofs.YtpbalojiaghfhaaGreatW.PrintLast Go.Proofs.YtpbalojiaghfhaaGreatW.PK
set_option linter.unusedSectionVars false
theorem nrd (l:List Int) (i:Nat) (h:i<l.length):rd l (i:Int)=l[i]:=getD_lt _ h
theorem nrd_T118 (l:List S118) (i:Nat) (h:i<l.length):rd_T118 l (i:Int)=l[i]:=getD_lt _ h
theorem nrd_T78 (l:List S78) (i:Nat) (h:i<l.length):rd_T78 l (i:Int)=l[i]:=getD_lt _ h
theorem nrd_T86 (l:List S86) (i:Nat) (h:i<l.length):rd_T86 l (i:Int)=l[i]:=getD_lt _ h
theorem inS (a b c:Int):spec_l01In.f a b c=some (decide (b≤a∧a≤c)):=by
  unfold spec_l01In.f
  by_cases h:a≥b
  · rw[if_pos h]
    exact congrArg some (by rw[Bool.eq_iff_iff];simp;omega)
  · rw[if_neg h]
    exact congrArg some (by rw[Bool.eq_iff_iff];simp;omega)
theorem inI (a b c:Int):impl_within.f a b c=some (decide (b≤a∧a≤c)):=inS a b c
theorem halfS (a:Int):spec_HalfOk.f a=some (decide (0≤a∧a≤4294967295)):=by
  unfold spec_HalfOk.f
  rw[inS]
  rfl
theorem halfI (a:Int):impl_HalfOk.f a=some (decide (0≤a∧a≤4294967295)):=halfS a
theorem wideS (a b:Int):spec_WideOk.f a b=some (decide ((0≤a∧a≤4294967295)∧(0≤b∧b≤4294967295))):=by
  unfold spec_WideOk.f
  simp only[halfS,Option.bind_some,decide_eq_true_eq]
  split
  · rename_i h
    exact congrArg some (by rw[Bool.eq_iff_iff];simp[h])
  · rename_i h
    exact congrArg some (by rw[Bool.eq_iff_iff];simp[h])
theorem condS (a b c d e f:Int):spec_CondOk.f a b c d e f=some (decide ((0≤a∧a≤2)∧((0≤b∧b≤4294967295)∧(0≤c∧c≤4294967295))∧((0≤e∧e≤4294967295)∧(0≤f∧f≤4294967295))∧1≤d∧d≤6)):=by
  unfold spec_CondOk.f
  simp only[inS,wideS,Option.bind_some,decide_eq_true_eq]
  repeat' split
  all_goals (refine congrArg some ?_;rw[Bool.eq_iff_iff];simp only[Bool.false_eq_true,decide_eq_true_eq,false_iff])
  all_goals omega
theorem condI (a b c d e f:Int):impl_CondOk.f a b c d e f=some (decide ((0≤a∧a≤2)∧((0≤b∧b≤4294967295)∧(0≤c∧c≤4294967295))∧((0≤e∧e≤4294967295)∧(0≤f∧f≤4294967295))∧1≤d∧d≤6)):=condS a b c d e f
def lw (a b:Int):S86:=⟨⟨#[]⟩,⟨a,b,0,0⟩,⟨#[]⟩,⟨#[]⟩⟩
def la (a b:Int) (s t:ByteArray):S86:=⟨⟨#[]⟩,⟨a,b,0,0⟩,s,t⟩
def lp (s:ByteArray):S86:=⟨s,⟨0,0,0,0⟩,⟨#[]⟩,⟨#[]⟩⟩
def cSame (a b c e f:Int) (s1 s2 s3:ByteArray):List S86:=[lw 1 (wrap64 (3+wrap64 (2*a))),lw 2 b,la 3 e (s1 ++ ⟨#[97]⟩) s3,lp (s1 ++ ⟨#[97]⟩),lw 1 (wrap64 (2+wrap64 (2*a))),lw 2 c,la 3 f s2 s3]
def cAbove (a b c e f o:Int) (s1 s2 s3:ByteArray):List S86:=[lw 1 (wrap64 (3+wrap64 (2*a))),lw 2 b,la 4 e s2 (s1 ++ ⟨#[97]⟩),lp (s1 ++ ⟨#[97]⟩),la 3 e (s1 ++ ⟨#[98]⟩) s3,lp (s1 ++ ⟨#[98]⟩),lw 1 (wrap64 (2+wrap64 (2*a))),lw 2 c,la o f s2 s3]
theorem sameS (a b c d e f:Int) (s1 s2 s3:ByteArray) (h:s1.size≤9000000000000000000):spec_l12Same.f a b c d e f s1 s2 s3=some (cSame a b c e f s1 s2 s3):=by
  simp only[spec_l12Same.f,spec_l12Half.f,spec_l11Word.f,spec_l11Asks.f,Option.bind_some,if_true,Bool.false_eq_true,if_false,if_pos (show s1.size+1≤9223372036854775807 by omega)]
  rfl
theorem aboveS (a b c d e f o:Int) (s1 s2 s3:ByteArray) (h:s1.size≤9000000000000000000):spec_l12Above.f a b c d e f o s1 s2 s3=some (cAbove a b c e f o s1 s2 s3):=by
  simp only[spec_l12Above.f,spec_l12Half.f,spec_l11Word.f,spec_l11Asks.f,Option.bind_some,if_true,Bool.false_eq_true,if_false,if_pos (show s1.size+1≤9223372036854775807 by omega)]
  rfl
/-- The lines of a condition: the same on both sides, and few. -/
def cLines (a b c d e f:Int) (s1 s2 s3:ByteArray):List S86:=
  if(0≤a∧a≤2)∧((0≤b∧b≤4294967295)∧(0≤c∧c≤4294967295))∧((0≤e∧e≤4294967295)∧(0≤f∧f≤4294967295))∧1≤d∧d≤6 then
    (if d=1 then cSame a b c e f s1 s2 s3 else if d=2 then cSame a b c e f s1 s3 s2 else if d=5 then cAbove a b c e f 4 s1 s2 s3 else if d=6 then cAbove a b c e f 5 s1 s2 s3 else if d=4 then cAbove a b c e f 4 s1 s3 s2 else cAbove a b c e f 5 s1 s3 s2)
  else []
theorem cLines_len (a b c d e f:Int) (s1 s2 s3:ByteArray):(cLines a b c d e f s1 s2 s3).length≤9:=by
  unfold cLines
  repeat' split
  all_goals simp[cSame,cAbove]
theorem linesS (a b c d e f:Int) (s1 s2 s3:ByteArray) (h:s1.size≤9000000000000000000):spec_CondLines.f a b c d e f s1 s2 s3=some (cLines a b c d e f s1 s2 s3):=by
  unfold spec_CondLines.f cLines
  rw[condS]
  simp only[Option.bind_some,decide_eq_true_eq,sameS _ _ _ _ _ _ s1 _ _ h,aboveS _ _ _ _ _ _ _ s1 _ _ h]
  by_cases hc:(0≤a∧a≤2)∧((0≤b∧b≤4294967295)∧(0≤c∧c≤4294967295))∧((0≤e∧e≤4294967295)∧(0≤f∧f≤4294967295))∧1≤d∧d≤6
  · simp only[if_pos hc]
    repeat' split
    all_goals rfl
  · simp only[if_neg hc]
theorem aboveI (k:Nat) (a b c d e f o:Int) (s1 s2 s3:ByteArray):impl_CondLines.j0 (k+1) s2 s3 (s1 ++ ⟨#[97]⟩) (s1 ++ ⟨#[98]⟩) [lw 1 (wrap64 (3+wrap64 (2*a))),lw 2 b] [lw 1 (wrap64 (2+wrap64 (2*a))),lw 2 c] o a b c d e f=some (cAbove a b c e f o s1 s2 s3):=by
  simp only[impl_CondLines.j0,impl_ask.f,impl_place.f,Option.bind_some]
  rfl
theorem linesI (k:Nat) (a b c d e f:Int) (s1 s2 s3:ByteArray) (h:s1.size≤9000000000000000000):impl_CondLines.f (k+1) a b c d e f s1 s2 s3=some (cLines a b c d e f s1 s2 s3):=by
  unfold impl_CondLines.f cLines
  rw[condI]
  simp only[Option.bind_some,decide_eq_true_eq]
  by_cases hc:(0≤a∧a≤2)∧((0≤b∧b≤4294967295)∧(0≤c∧c≤4294967295))∧((0≤e∧e≤4294967295)∧(0≤f∧f≤4294967295))∧1≤d∧d≤6
  · rw[if_pos hc,if_pos hc,if_pos (by omega)]
    simp only[impl_word.f,impl_ask.f,impl_place.f,Option.bind_some]
    have j:=fun o s2 s3=>aboveI k a b c d e f o s1 s2 s3
    unfold lw at j
    by_cases h1:d=1
    · subst h1
      rfl
    by_cases h2:d=2
    · subst h2
      rfl
    by_cases h3:d=3
    · subst h3
      exact j 5 s3 s2
    by_cases h4:d=4
    · subst h4
      exact j 4 s3 s2
    by_cases h5:d=5
    · subst h5
      exact j 4 s2 s3
    have h6:d=6:=by omega
    subst h6
    exact j 5 s2 s3
  · rw[if_neg hc,if_neg hc]
theorem fig (d:Int) (h0:0≤d) (h1:d<10):(⟨#[48,49,50,51,52,53,54,55,56,57,97,98,99,100,101,102]⟩ :ByteArray).extract d.toNat (d+1).toNat=strOfNums [(48+d) % 256]:=by
  have:d=0∨d=1∨d=2∨d=3∨d=4∨d=5∨d=6∨d=7∨d=8∨d=9:=by omega
  rcases this with h|h|h|h|h|h|h|h|h|h <;> subst h <;> rfl
/-- A number in figures: the same on both sides. -/
theorem decimal_l0 (n:Int) (hn:0≤n): ∀ (m:Nat) (x:Int) (s:ByteArray),0≤x→x≤m→m≤1000000000000→m+s.size≤9000000000000000000→∃ v,Evt (fun k=>spec_Decimal.l0 k x false s) v∧Evt (fun k=>impl_Decimal.l0 k n s x) v∧v.size≤m+s.size:=by
  intro m
  induction m with
  | zero=>
    intro x s h0 h1 _ h2
    have hx:x=0:=by omega
    subst hx
    refine⟨s,.succ (.const fun k=>?_),.succ (.const fun k=>?_),by omega⟩
    · simp only[spec_Decimal.l0]
      simp
    · simp only[impl_Decimal.l0]
      rw[if_pos trivial,if_neg (by omega)]
  | succ m ih=>
    intro x s h0 h1 hm h2
    by_cases hx:x=0
    · subst hx
      refine⟨s,.succ (.const fun k=>?_),.succ (.const fun k=>?_),by omega⟩
      · simp only[spec_Decimal.l0]
        simp
      · simp only[impl_Decimal.l0]
        rw[if_pos trivial,if_neg (by omega)]
    · have ed:x.tdiv 10=x / 10:=Int.tdiv_eq_ediv_of_nonneg h0
      have em:x.tmod 10=x % 10:=Int.tmod_eq_emod_of_nonneg h0
      have e10:wrap64 (x / 10)=x / 10:=w64 (by omega) (by omega)
      have e48:wrap64 (48+x % 10)=48+x % 10:=w64 (by omega) (by omega)
      have en:wrap64 (-(x % 10))= -(x % 10):=w64 (by omega) (by omega)
      have ex:mx (x % 10) (-(x % 10))=x % 10:=by unfold mx;split <;> omega
      have e1:wrap64 (x % 10+1)=x % 10+1:=w64 (by omega) (by omega)
      have hf:=fig (x % 10) (by omega) (by omega)
      have hs:(strOfNums [(48+x % 10) % 256]).size=1:=rfl
      obtain⟨v,⟨K1,g1⟩,⟨K2,g2⟩,hv⟩:=ih (x / 10) (strOfNums [(48+x % 10) % 256] ++ s) (by omega) (by omega) (by omega) (by rw[ByteArray.size_append,hs];omega)
      rw[ByteArray.size_append,hs]at hv
      dsimp only at g1 g2
      refine⟨v,.succ ⟨K1,fun k hk=>?_⟩,.succ ⟨K2,fun k hk=>?_⟩,by omega⟩
      · simp only[spec_Decimal.l0,spec_l01Figure.f,ed,em,e10,e48]
        rw[if_neg hx,if_neg (by omega),if_pos (by omega)]
        simp only[Option.bind_some]
        rw[if_pos (by rw[hs];omega)]
        exact g1 k hk
      · simp only[impl_Decimal.l0,ed,em,e10,en,ex,e1,hf]
        rw[if_neg hx,if_pos (by omega),if_pos (by omega),if_pos (by omega),if_pos (by rw[hs];omega)]
        exact g2 k hk
theorem decimal (n:Nat) (hn:n≤1000000000000): ∃ v,Evt (fun k=>spec_Decimal.f k (n:Int)) v∧Evt (fun k=>impl_Decimal.f k (n:Int)) v∧v.size≤n+1:=by
  by_cases h:(n:Int)=0
  · exact⟨⟨#[48]⟩,.const fun k=>by simp only[spec_Decimal.f];rw[if_pos h],.const fun k=>by simp only[impl_Decimal.f];rw[if_pos h],by show 1≤_;omega⟩
  · obtain⟨v,⟨K1,g1⟩,⟨K2,g2⟩,hv⟩:=decimal_l0 (n:Int) (by omega) n (n:Int) ⟨#[]⟩ (by omega) (by omega) hn (by show n+0≤_;omega)
    dsimp only at g1 g2
    have e:decide ((n:Int)<0)=false:=by simp
    refine⟨v,⟨K1,fun k hk=>?_⟩,⟨K2,fun k hk=>?_⟩,Nat.le_trans hv (by show n+0≤_;omega)⟩
    · simp only[spec_Decimal.f,e]
      rw[if_neg h]
      exact g1 k hk
    · simp only[impl_Decimal.f]
      rw[if_neg h]
      exact g2 k hk
theorem resI (a b:Int):impl_ResultOf.f a b=spec_ResultOf.f a b:=rfl
theorem res (a b:Int): ∃ v,spec_ResultOf.f a b=some v:=by
  simp only[spec_ResultOf.f,inS,Option.bind_some,decide_eq_true_eq]
  repeat' split
  all_goals exact⟨_,rfl⟩
/-- The lines of a rule: the same on both sides, and not too many. -/
theorem rl_l0 (x:List Int) (l:List S118) (a b:Int) (s1 s2:ByteArray) (hn:l.length≤1048576) (hs:s1.size≤1000000000000000000) :
    ∃ O:List S86,O.length≤10*l.length+1∧Evt (fun k=>spec_RuleLines.l0 k s1 s2 [] ((0:Nat):Int) x l a b) O∧Evt (fun k=>impl_RuleLines.l0 k s1 s2 [] l (l.length:Int) ((0:Nat):Int) x l a b) O:=by
  refine down (T:=fun i=> ∀ o:List S86,o.length≤10*i→∃ O:List S86,O.length≤10*l.length+1∧Evt (fun k=>spec_RuleLines.l0 k s1 s2 o (i:Int) x l a b) O∧Evt (fun k=>impl_RuleLines.l0 k s1 s2 o l (l.length:Int) (i:Int) x l a b) O) (n:=l.length) ?_ ?_ l.length 0 (by omega) [] (by simp)
  · intro o ho
    obtain⟨v,hv⟩:=res a b
    refine⟨o ++ [lw 8 v],by simp;omega,.succ (.const fun k=>?_),.succ (.const fun k=>?_)⟩
    · simp only[spec_RuleLines.l0,spec_l11Word.f,hv,Option.bind_some]
      rw[if_neg (by omega),if_pos (by omega)]
      rfl
    · simp only[impl_RuleLines.l0,impl_word.f,resI,hv,Option.bind_some]
      rw[if_neg (by omega),if_pos (by omega)]
      rfl
  · intro i hi ih o ho
    obtain⟨t,⟨K1,d1⟩,⟨K2,d2⟩,ht⟩:=decimal i (by omega)
    have hc:=cLines_len l[i].f0 l[i].f1.f0 l[i].f1.f1 l[i].f2 l[i].f3.f0 l[i].f3.f1 (s1 ++ t) ((s1 ++ ⟨#[110]⟩) ++ t) s2
    have hz:(s1 ++ t).size≤9000000000000000000:=by rw[ByteArray.size_append];omega
    have hS:=linesS l[i].f0 l[i].f1.f0 l[i].f1.f1 l[i].f2 l[i].f3.f0 l[i].f3.f1 (s1 ++ t) ((s1 ++ ⟨#[110]⟩) ++ t) s2 hz
    have hI:=fun k=>linesI k l[i].f0 l[i].f1.f0 l[i].f1.f1 l[i].f2 l[i].f3.f0 l[i].f3.f1 (s1 ++ t) ((s1 ++ ⟨#[110]⟩) ++ t) s2 hz
    generalize cLines l[i].f0 l[i].f1.f0 l[i].f1.f1 l[i].f2 l[i].f3.f0 l[i].f3.f1 (s1 ++ t) ((s1 ++ ⟨#[110]⟩) ++ t) s2=L at hc hS hI
    have z1:(s1 ++ (⟨#[110]⟩ :ByteArray)).size=s1.size+1:=ByteArray.size_append
    obtain⟨O,hO,⟨K3,h1⟩,⟨K4,h2⟩⟩:=ih (o ++ L ++ [lp ((s1 ++ ⟨#[110]⟩) ++ t)]) (by simp;omega)
    dsimp only at d1 d2 h1 h2
    refine⟨O,hO,.succ ⟨K1+K3+1,fun k hk=>?_⟩,.succ ⟨K2+K4+1,fun k hk=>?_⟩⟩
    · simp only[spec_RuleLines.l0]
      rw[if_pos (by omega),if_pos (by omega),d1 k (by omega)]
      simp only[Option.bind_some]
      rw[if_pos (by rw[z1];omega),if_pos (by omega),if_pos (by omega),nrd_T118 l i hi,hS]
      simp only[Option.bind_some]
      rw[if_pos (by omega)]
      rw[if_pos (by rw[List.length_append];omega),wsucc hi (by omega)]
      exact h1 k (by omega)
    · simp only[impl_RuleLines.l0]
      obtain⟨k,rfl⟩ : ∃ m,k=m+1:=⟨k - 1,by omega⟩
      rw[if_pos (by omega),if_pos (by omega),if_pos (by omega),if_pos (by omega),d2 (k+1) (by omega)]
      simp only[Option.bind_some]
      rw[if_pos (by rw[z1];omega),if_pos (by omega),nrd_T118 l i hi,hI]
      simp only[Option.bind_some,impl_place.f]
      rw[if_pos (by omega)]
      rw[if_pos (by rw[List.length_append];omega),wsucc hi (by omega)]
      exact h2 (k+1) (by omega)
theorem ruleLines (x:List Int) (l:List S118) (a b:Int) (s1 s2:ByteArray) (hn:l.length≤1048576) (hs:s1.size≤1000000000000000000) :
    ∃ O:List S86,O.length≤10*l.length+1∧Evt (fun k=>spec_RuleLines.f k x l a b s1 s2) O∧Evt (fun k=>impl_RuleLines.f k x l a b s1 s2) O:=rl_l0 x l a b s1 s2 hn hs
theorem nums_in (x:List Int) (a:Int) (hn:x.length≤4611686018427387904): ∃ q:Int,Evt (fun k=>spec_l09In.f k x a) (decide (q≥0))∧Evt (fun k=>slices_Index_int_int.f k x a) q:=by
  refine down (T:=fun i=> ∃ q:Int,Evt (fun k=>spec_l09In.l0 k x a (i:Int)) (decide (q≥0))∧Evt (fun k=>slices_Index_int_int.l0 k x a (x.length:Int) (i:Int)) q) (n:=x.length) ?_ ?_ x.length 0 (by omega)
  · exact⟨-1,.succ (.const fun k=>by simp only[spec_l09In.l0];rw[if_neg (by omega)];rfl),.succ (.const fun k=>by simp only[slices_Index_int_int.l0];rw[if_neg (by omega)])⟩
  · intro i hi ih
    by_cases h:x[i]=a
    · refine⟨(i:Int),.succ (.const fun k=>?_),.succ (.const fun k=>?_)⟩
      · simp only[spec_l09In.l0]
        rw[if_pos (by omega),if_pos (by omega),nrd x i hi,if_pos h]
        simp
      · simp only[slices_Index_int_int.l0]
        rw[if_pos (by omega),if_pos (by omega),if_pos (by omega),nrd x i hi,if_pos h.symm]
    · obtain⟨q,⟨K1,h1⟩,⟨K2,h2⟩⟩:=ih
      dsimp only at h1 h2
      refine⟨q,.succ ⟨K1,fun k hk=>?_⟩,.succ ⟨K2,fun k hk=>?_⟩⟩
      · simp only[spec_l09In.l0]
        rw[if_pos (by omega),if_pos (by omega),nrd x i hi,if_neg h,wsucc hi (by omega)]
        exact h1 k hk
      · simp only[slices_Index_int_int.l0]
        rw[if_pos (by omega),if_pos (by omega),if_pos (by omega),nrd x i hi,if_neg (fun e=>h e.symm),wsucc hi (by omega)]
        exact h2 k hk
/-- Two rows that rise and bear the same are one. -/
theorem riseEq: ∀ xs ys:List Int,xs.Pairwise (· < ·)→ys.Pairwise (· < ·)→(∀ a,a ∈ xs ↔ a ∈ ys)→xs=ys
  | [],[],_,_,_=>rfl
  | [],y :: ys,_,_,h=>absurd ((h y).2 List.mem_cons_self) (by simp)
  | x :: xs,[],_,_,h=>absurd ((h x).1 List.mem_cons_self) (by simp)
  | x :: xs,y :: ys,hx,hy,h=>by
    rw[List.pairwise_cons]at hx hy
    have e:x=y:=by
      rcases List.mem_cons.1 ((h x).1 List.mem_cons_self)with e|e
      · exact e
      rcases List.mem_cons.1 ((h y).2 List.mem_cons_self)with e2|e2
      · exact e2.symm
      have h1:=hx.1 y e2
      have h2:=hy.1 x e
      omega
    subst e
    rw[riseEq xs ys hx.2 hy.2 (fun a=>⟨fun ha=>by
      rcases List.mem_cons.1 ((h a).1 (List.mem_cons_of_mem _ ha))with e|e
      · have:=hx.1 a ha;omega
      · exact e,fun ha=>by
      rcases List.mem_cons.1 ((h a).2 (List.mem_cons_of_mem _ ha))with e|e
      · have:=hy.1 a ha;omega
      · exact e⟩)]
theorem getArr (zs:List Int) (j:Nat) (h:j<zs.length):zs.toArray[j]! = zs[j]:=by simp[h]
theorem compact_mem (zs:List Int) (a:Int):a ∈ Lib.compact zs ↔ a ∈ zs:=by
  unfold Lib.compact Lib.compactUpTo
  rw[List.mem_map]
  constructor
  · rintro ⟨j,hj,rfl⟩
    rw[List.mem_filter,List.mem_range]at hj
    rw[getArr zs j hj.1]
    exact List.getElem_mem _
  · intro ha
    obtain⟨j,hj,rfl⟩:=List.getElem_of_mem ha
    have key: ∀ m j (hj:j<zs.length),j≤m→∃ i,i ∈ (List.range zs.length).filter (Lib.keeps zs.toArray)∧zs.toArray[i]! = zs[j]:=by
      intro m
      induction m with
      | zero=>
        intro j hj hm
        have:j=0:=by omega
        subst this
        refine⟨0,?_,getArr zs 0 hj⟩
        rw[List.mem_filter,List.mem_range]
        exact⟨hj,by simp[Lib.keeps]⟩
      | succ m ih=>
        intro j hj hm
        by_cases hk:Lib.keeps zs.toArray j=true
        · exact⟨j,by rw[List.mem_filter,List.mem_range];exact⟨hj,hk⟩,getArr zs j hj⟩
        · have hk2: ¬ (j=0∨zs.toArray[j]!≠zs.toArray[j - 1]!):=by simpa only[Lib.keeps,decide_eq_true_eq] using hk
          have h0:j≠0:=fun h=>hk2 (.inl h)
          have he:zs.toArray[j]! = zs.toArray[j - 1]!:=Classical.byContradiction fun h=>hk2 (.inr h)
          obtain⟨i,hi,e⟩:=ih (j - 1) (by omega) (by omega)
          exact⟨i,hi,by rw[e,← getArr zs (j - 1) (by omega),← he,getArr zs j hj]⟩
    exact key j j hj (Nat.le_refl _)
theorem compact_rise (zs:List Int) (h:zs.Pairwise (· ≤ ·)):(Lib.compact zs).Pairwise (· < ·):=by
  unfold Lib.compact Lib.compactUpTo
  rw[List.pairwise_map]
  have hlt:((List.range zs.length).filter (Lib.keeps zs.toArray)).Pairwise (· < ·):=List.Pairwise.filter _ List.pairwise_lt_range
  refine List.Pairwise.imp_of_mem ?_ hlt
  intro i j hi hj hij
  rw[List.mem_filter,List.mem_range]at hi hj
  have hk:j=0∨zs.toArray[j]!≠zs.toArray[j - 1]!:=by simpa only[Lib.keeps,decide_eq_true_eq] using hj.2
  have hne:zs.toArray[j]!≠zs.toArray[j - 1]!:=hk.resolve_left (by omega)
  have mono: ∀ a b (ha:a<zs.length) (hb:b<zs.length),a≤b→zs[a]≤zs[b]:=by
    intro a b ha hb hab
    rcases Nat.lt_or_ge a b with hab|hab
    · exact List.pairwise_iff_getElem.1 h a b ha hb hab
    · have:a=b:=by omega
      subst this
      exact Int.le_refl _
  rw[getArr zs i hi.1,getArr zs j hj.1]
  rw[getArr zs j hj.1,getArr zs (j - 1) (by omega)]at hne
  have h1:=mono i (j - 1) hi.1 (by omega) (by omega)
  have h2:=mono (j - 1) j (by omega) hj.1 (by omega)
  omega
theorem sort_rise (zs:List Int):(zs.mergeSort fun x y=>decide (x≤y)).Pairwise (· ≤ ·):=by
  have h:=List.pairwise_mergeSort (le:=fun x y:Int=>decide (x≤y)) (fun a b c h1 h2=>by simp at h1 h2 ⊢;omega) (fun a b=>by simp;omega) zs
  exact h.imp (fun h=>by simpa using h)
/-- What a number put into a rising row makes of it. -/
def put (x:List Int) (a:Int):List Int:=if a ∈ x then x else x.filter (fun b=>decide (b<a)) ++ [a] ++ x.filter (fun b=>decide (b>a))
theorem put_mem (x:List Int) (a b:Int):b ∈ put x a ↔ b ∈ x∨b=a:=by
  unfold put
  split
  · rename_i h
    exact⟨.inl,fun hb=>hb.elim id (fun e=>e ▸ h)⟩
  · rename_i h
    simp only[List.mem_append,List.mem_filter,List.mem_singleton,decide_eq_true_eq]
    constructor
    · rintro ((h1|h1)|h1)
      · exact .inl h1.1
      · exact .inr h1
      · exact .inl h1.1
    · rintro (h1|h1)
      · have hne:b≠a:=fun e=>h (e ▸ h1)
        rcases Int.lt_or_gt_of_ne hne with h2|h2
        · exact .inl (.inl ⟨h1,h2⟩)
        · exact .inr ⟨h1,h2⟩
      · exact .inl (.inr h1)
theorem put_rise (x:List Int) (a:Int) (h:x.Pairwise (· < ·)):(put x a).Pairwise (· < ·):=by
  unfold put
  split
  · exact h
  · rw[List.pairwise_append,List.pairwise_append]
    refine⟨⟨h.filter _,by simp,fun u hu v hv=>?_⟩,h.filter _,fun u hu v hv=>?_⟩
    · rw[List.mem_filter,decide_eq_true_eq]at hu
      rw[List.mem_singleton]at hv
      omega
    · rw[List.mem_filter,decide_eq_true_eq]at hv
      rcases List.mem_append.1 hu with hu|hu
      · rw[List.mem_filter,decide_eq_true_eq]at hu
        omega
      · rw[List.mem_singleton]at hu
        omega
theorem put_len (x:List Int) (a:Int):(put x a).length≤x.length+1∨2*x.length+1<(put x a).length:=by
  unfold put
  split
  · exact .inl (by omega)
  · refine .inl ?_
    have key: ∀ l:List Int,(l.filter (fun b=>decide (b<a))).length+(l.filter (fun b=>decide (b>a))).length≤l.length:=by
      intro l
      induction l with
      | nil=>simp
      | cons b l ih=>
        by_cases h1:b<a
        · rw[List.filter_cons_of_pos (by simpa using h1),List.filter_cons_of_neg (by simp;omega)]
          simp only[List.length_cons]
          omega
        · by_cases h2:b>a
          · rw[List.filter_cons_of_neg (by simpa using h1),List.filter_cons_of_pos (by simpa using h2)]
            simp only[List.length_cons]
            omega
          · rw[List.filter_cons_of_neg (by simpa using h1),List.filter_cons_of_neg (by simpa using h2)]
            simp only[List.length_cons]
            omega
    have:=key x
    simp only[List.length_append,List.length_cons,List.length_nil]
    omega
theorem inNums (x:List Int) (a:Int) (hn:x.length≤4611686018427387904):Evt (fun k=>spec_l09In.f k x a) (decide (a ∈ x)):=by
  have key:=down (T:=fun i=>Evt (fun k=>spec_l09In.l0 k x a (i:Int)) (decide (a ∈ x.drop i))) (n:=x.length) ?_ ?_ x.length 0 (by omega)
  · exact key
  · refine .succ (.const fun k=>?_)
    simp only[spec_l09In.l0]
    rw[if_neg (by omega),List.drop_length]
    simp
  · rintro i hi ⟨K,h⟩
    dsimp only at h
    refine .succ ⟨K,fun k hk=>?_⟩
    simp only[spec_l09In.l0]
    rw[if_pos (by omega),if_pos (by omega),nrd x i hi,List.drop_eq_getElem_cons hi]
    by_cases e:x[i]=a
    · rw[if_pos e]
      simp[e]
    · rw[if_neg e,wsucc hi (by omega),h k hk]
      refine congrArg some ?_
      rw[decide_eq_decide,List.mem_cons]
      exact⟨.inr,fun h=>h.resolve_left (fun h=>e h.symm)⟩
theorem put_l1 (x:List Int) (a:Int) (hn:x.length≤2000000000000): ∀ d i (o:List Int),i+d=x.length→o.length+d≤16000000000000→Evt (fun k=>spec_l10Put.l1 k x a o (i:Int)) (o ++ (x.drop i).filter (fun b=>decide (b>a)))
  | 0,i,o,hi,ho=>by
    refine .succ (.const fun k=>?_)
    simp only[spec_l10Put.l1]
    rw[if_neg (by omega),List.drop_eq_nil_of_le (by omega)]
    simp
  | d+1,i,o,hi,ho=>by
    have hlt:i<x.length:=by omega
    rw[List.drop_eq_getElem_cons hlt]
    by_cases h:x[i]>a
    · obtain⟨K,g⟩:=put_l1 x a hn d (i+1) (o ++ [x[i]]) (by omega) (by simp;omega)
      refine .succ ⟨K,fun k hk=>?_⟩
      simp only[spec_l10Put.l1]
      rw[if_pos (by omega),if_pos (by omega),nrd x i hlt,if_pos h,if_pos (by omega),wsucc hlt (by omega),List.filter_cons_of_pos (by simpa using h)]
      have:=g k hk
      rw[List.append_assoc]at this
      exact this
    · obtain⟨K,g⟩:=put_l1 x a hn d (i+1) o (by omega) (by omega)
      refine .succ ⟨K,fun k hk=>?_⟩
      simp only[spec_l10Put.l1]
      rw[if_pos (by omega),if_pos (by omega),nrd x i hlt,if_neg h,wsucc hlt (by omega),List.filter_cons_of_neg (by simpa using h)]
      exact g k hk
theorem put_l0 (x:List Int) (a:Int) (hn:x.length≤2000000000000): ∀ d i (o:List Int),i+d=x.length→o.length+d≤4000000000000→Evt (fun k=>spec_l10Put.l0 k x a o (i:Int)) (o ++ (x.drop i).filter (fun b=>decide (b<a)) ++ [a] ++ x.filter (fun b=>decide (b>a)))
  | 0,i,o,hi,ho=>by
    obtain⟨K,g⟩:=put_l1 x a hn x.length 0 (o ++ [a]) (by omega) (by simp;omega)
    refine .succ ⟨K,fun k hk=>?_⟩
    simp only[spec_l10Put.l0]
    rw[if_neg (by omega),if_pos (by omega),List.drop_eq_nil_of_le (by omega)]
    simpa using g k hk
  | d+1,i,o,hi,ho=>by
    have hlt:i<x.length:=by omega
    rw[List.drop_eq_getElem_cons hlt]
    by_cases h:x[i]<a
    · obtain⟨K,g⟩:=put_l0 x a hn d (i+1) (o ++ [x[i]]) (by omega) (by simp;omega)
      refine .succ ⟨K,fun k hk=>?_⟩
      simp only[spec_l10Put.l0]
      rw[if_pos (by omega),if_pos (by omega),nrd x i hlt,if_pos h,if_pos (by omega),wsucc hlt (by omega),List.filter_cons_of_pos (by simpa using h)]
      have:=g k hk
      simp only[List.append_assoc,List.cons_append,List.nil_append]at this ⊢
      exact this
    · obtain⟨K,g⟩:=put_l0 x a hn d (i+1) o (by omega) (by omega)
      refine .succ ⟨K,fun k hk=>?_⟩
      simp only[spec_l10Put.l0]
      rw[if_pos (by omega),if_pos (by omega),nrd x i hlt,if_neg h,wsucc hlt (by omega),List.filter_cons_of_neg (by simpa using h)]
      exact g k hk
theorem putV (x:List Int) (a:Int) (hn:x.length≤2000000000000):Evt (fun k=>spec_l10Put.f k x a) (put x a):=by
  obtain⟨K1,h1⟩:=inNums x a (by omega)
  obtain⟨K2,h2⟩:=put_l0 x a hn x.length 0 [] (by omega) (by simp;omega)
  dsimp only at h1 h2
  refine⟨K1+K2,fun k hk=>?_⟩
  simp only[spec_l10Put.f,h1 k (by omega),Option.bind_some,put,decide_eq_true_eq]
  by_cases h:a ∈ x
  · rw[if_pos h,if_pos h]
  · rw[if_neg h,if_neg h]
    have:=h2 k (by omega)
    simpa using this
section
variable (a b c:Int) (R:List S78) (hR:R.length≤1048576) (hb: ∀ y ∈ R,y.f0.length≤1048576)
include hR hb
theorem nums_l1 (i:Nat) (hi:i<R.length): ∀ d j (x:List Int),j+d=R[i].f0.length→x.length+d≤2000000000000→x.Pairwise (· < ·)→∃ y:List Int,y.Pairwise (· < ·)∧y.length≤x.length+d∧(∀ u,u ∈ y ↔ u ∈ x∨u ∈ R[i].f0.drop j)∧∀ O,Evt (fun k=>spec_NumsOf.l0 k y ((i+1:Nat):Int) a b c R) O→Evt (fun k=>spec_NumsOf.l1 k x (i:Int) (j:Int) a b c R) O
  | 0,j,x,hj,hx,hr=>by
    refine⟨x,hr,by omega,fun u=>?_,fun O ⟨K,h⟩=> .succ ⟨K,fun k hk=>?_⟩⟩
    · rw[List.drop_eq_nil_of_le (by omega)]
      simp
    · dsimp only at h
      simp only[spec_NumsOf.l1]
      rw[if_pos (by omega),if_pos (by omega),nrd_T78 R i hi,if_neg (by omega),wsucc hi (by omega)]
      exact h k hk
  | d+1,j,x,hj,hx,hr=>by
    have hlt:j<R[i].f0.length:=by omega
    have hlb:=hb R[i] (List.getElem_mem hi)
    have hl:=put_len x R[i].f0[j]
    obtain⟨K1,h1⟩:=putV x R[i].f0[j] (by omega)
    have hl2:(put x R[i].f0[j]).length≤x.length+1:=by
      rcases hl with hl|hl
      · exact hl
      · exfalso
        have h3:(put x R[i].f0[j]).length≤x.length+1+x.length:=by
          unfold put
          split
          · omega
          · have g1:=List.length_filter_le (fun b=>decide (b<R[i].f0[j])) x
            have g2:=List.length_filter_le (fun b=>decide (b>R[i].f0[j])) x
            simp only[List.length_append,List.length_cons,List.length_nil]
            omega
        omega
    obtain⟨y,hy,hyl,hym,hyE⟩:=nums_l1 i hi d (j+1) (put x R[i].f0[j]) (by omega) (by omega) (put_rise x _ hr)
    dsimp only at h1
    refine⟨y,hy,by omega,fun u=>?_,fun O hO=>?_⟩
    · rw[hym u,put_mem,List.drop_eq_getElem_cons hlt,List.mem_cons]
      constructor
      · rintro ((h|h)|h)
        · exact .inl h
        · exact .inr (.inl h)
        · exact .inr (.inr h)
      · rintro (h|h|h)
        · exact .inl (.inl h)
        · exact .inl (.inr h)
        · exact .inr h
    · obtain⟨K,h⟩:=hyE O hO
      dsimp only at h
      refine .succ ⟨K+K1,fun k hk=>?_⟩
      simp only[spec_NumsOf.l1]
      rw[if_pos (by omega),if_pos (by omega),nrd_T78 R i hi,if_pos (by omega),if_pos (by omega),nrd R[i].f0 j hlt,h1 k (by omega)]
      simp only[Option.bind_some]
      rw[wsucc hlt (by omega)]
      exact h k (by omega)
theorem nums_l0: ∀ d i (x:List Int),i+d=R.length→x.length+1048576*d≤2000000000000→x.Pairwise (· < ·)→∃ O:List Int,Evt (fun k=>spec_NumsOf.l0 k x (i:Int) a b c R) O∧O.Pairwise (· < ·)∧O.length≤x.length+1048576*d∧O.length≤x.length+((R.drop i).map (fun y=>y.f0.length)).sum∧∀ u,u ∈ O ↔ u ∈ x∨u ∈ (R.drop i).flatMap (·.f0)
  | 0,i,x,hi,hx,hr=>by
    refine⟨x,.succ (.const fun k=>?_),hr,by omega,by omega,fun u=>?_⟩
    · simp only[spec_NumsOf.l0]
      rw[if_neg (by omega)]
    · rw[List.drop_eq_nil_of_le (by omega)]
      simp
  | d+1,i,x,hi,hx,hr=>by
    have hlt:i<R.length:=by omega
    have hlb:=hb R[i] (List.getElem_mem hlt)
    obtain⟨y,hy,hyl,hym,hyE⟩:=nums_l1 a b c R hR hb i hlt R[i].f0.length 0 x (by omega) (by omega) hr
    obtain⟨O,hO,hOr,hOl,hOl2,hOm⟩:=nums_l0 d (i+1) y (by omega) (by omega) hy
    obtain⟨K,h⟩:=hyE O hO
    dsimp only at h
    refine⟨O,.succ ⟨K,fun k hk=>?_⟩,hOr,by omega,by rw[List.drop_eq_getElem_cons hlt,List.map_cons,List.sum_cons];omega,fun u=>?_⟩
    · simp only[spec_NumsOf.l0]
      rw[if_pos (by omega)]
      exact h k hk
    · rw[hOm u,hym u,List.drop_eq_getElem_cons hlt,List.flatMap_cons,List.mem_append,List.drop_zero,or_assoc]
theorem numsI_l0: ∀ d i (x:List Int),i+d=R.length→x.length+1048576*d≤2000000000000→Evt (fun k=>impl_NumsOf.l0 k x R (R.length:Int) (i:Int)) (Lib.compact ((x ++ (R.drop i).flatMap (·.f0)).mergeSort fun x y=>decide (x≤y)))
  | 0,i,x,hi,hx=>by
    refine .succ (.const fun k=>?_)
    simp only[impl_NumsOf.l0]
    rw[if_neg (by omega),List.drop_eq_nil_of_le (by omega)]
    simp only[slices_Sort_int_int.f,slices_Compact_int_int.f]
    rw[if_pos (by omega)]
    simp
  | d+1,i,x,hi,hx=>by
    have hlt:i<R.length:=by omega
    have hlb:=hb R[i] (List.getElem_mem hlt)
    obtain⟨K,h⟩:=numsI_l0 d (i+1) (x ++ R[i].f0) (by omega) (by rw[List.length_append];omega)
    dsimp only at h
    refine .succ ⟨K,fun k hk=>?_⟩
    simp only[impl_NumsOf.l0]
    rw[if_pos (by omega),if_pos (by omega),if_pos (by omega),nrd_T78 R i hlt,if_pos (by omega),wsucc hlt (by omega),List.drop_eq_getElem_cons hlt,List.flatMap_cons,← List.append_assoc]
    exact h k hk
theorem numsOf: ∃ O:List Int,O.length≤1100000000000∧O.length≤(R.map (fun y=>y.f0.length)).sum∧O.Pairwise (· < ·)∧(∀ u,u ∈ O ↔ u ∈ R.flatMap (·.f0))∧Evt (fun k=>spec_NumsOf.f k a b c R) O∧Evt (fun k=>impl_NumsOf.f k a b c R) O:=by
  obtain⟨O,hO,hr,hl,hl2,hm⟩:=nums_l0 a b c R hR hb R.length 0 [] (by omega) (by simp;omega) (by simp)
  have hI:=numsI_l0 R hR hb R.length 0 [] (by omega) (by simp;omega)
  have e:Lib.compact ((([] :List Int) ++ (R.drop 0).flatMap (fun y:S78=>y.f0)).mergeSort fun x y=>decide (x≤y))=O:=riseEq _ _ (compact_rise _ (sort_rise _)) hr (fun u=>by
    rw[compact_mem,List.mem_mergeSort,hm u]
    simp)
  rw[e]at hI
  exact⟨O,by simp at hl;omega,by simpa using hl2,hr,fun u=>by rw[hm u];simp,hO,hI⟩
end
section
variable (a b c n:Int) (R:List S78) (t:Bool) (s:ByteArray) (hR:R.length≤1048576) (hb: ∀ y ∈ R,y.f0.length≤1048576∧y.f1.length≤1048576) (hs:s.size≤1000000000)
include hR hb hs
theorem chainSkip (v:Int) (hv:spec_ResultOf.f b c=some v) (o:List S86) (ho:o.length≤1000000000): ∀ d i,i+d=R.length→26≤i→Evt (fun k=>impl_ChainLines.l0 k n t s o R (R.length:Int) (i:Int) a b c R) (o ++ [lw 8 v])
  | 0,i,hi,h26=>by
    refine .succ (.const fun k=>?_)
    simp only[impl_ChainLines.l0,impl_word.f,resI,hv,Option.bind_some]
    rw[if_neg (by omega),if_pos (by omega)]
    rfl
  | d+1,i,hi,h26=>by
    obtain⟨K,h⟩:=chainSkip v hv o ho d (i+1) (by omega) (by omega)
    dsimp only at h
    refine .succ ⟨K+1,fun k hk=>?_⟩
    obtain⟨k,rfl⟩ : ∃ m,k=m+1:=⟨k - 1,by omega⟩
    simp only[impl_ChainLines.l0]
    rw[if_pos (by omega),if_pos (by omega),if_pos (by omega),if_pos (by omega)]
    simp only[impl_ChainLines.j1,if_true]
    rw[wsucc (show i<R.length by omega) (by omega)]
    exact h k (by omega)
/-- What a rule adds to the chain. -/
theorem chainAdd (i:Nat) (hi:i<R.length) (o:List S86) (ho:o.length≤500000000): ∃ L:List S86,L.length≤10*R[i].f1.length+2∧(∀ O,Evt (fun k=>spec_ChainLines.l0 k n t s (o ++ L) ((i+1:Nat):Int) a b c R) O→
    Evt (fun k=>((some (([(wrap64 (97+(i:Int))) % 256] :List Int):List Int)).bind fun y425=>(if s.size+(strOfNums y425).size≤9223372036854775807 then(if(s ++ (strOfNums y425)).size+1≤9223372036854775807 then((spec_RuleLines.f k R[i].f0 R[i].f1 R[i].f2 R[i].f3 (s ++ (strOfNums y425)) ((s ++ (strOfNums y425)) ++ (⟨#[122]⟩ :ByteArray))).bind fun t428=>(if o.length+t428.length<1759218604441 then((some (o ++ t428:List S86)).bind fun y431=>(if y431.length<1759218604441 then(spec_ChainLines.l0 k n t s (y431 ++ [(⟨(s ++ (strOfNums y425)) ++ (⟨#[122]⟩ :ByteArray),⟨0,0,0,0⟩,(⟨#[]⟩ :ByteArray),(⟨#[]⟩ :ByteArray)⟩ :S86)]) (wrap64 ((i:Int)+1)) a b c R)else(none)))else(none)))else(none))else(none)))) O)∧
    (∀ O,Evt (fun k=>impl_ChainLines.l0 k n t s (o ++ L) R (R.length:Int) ((i+1:Nat):Int) a b c R) O→Evt (fun k=>impl_ChainLines.j1 k n t s o (i:Int) R (R.length:Int) (i:Int) false a b c R R[i].f0 R[i].f1 R[i].f2 R[i].f3) O):=by
  obtain⟨_,hl⟩:=hb R[i] (List.getElem_mem hi)
  have z1:(strOfNums [(wrap64 (97+(i:Int))) % 256]).size=1:=rfl
  have z2:(s ++ strOfNums [(wrap64 (97+(i:Int))) % 256]).size=s.size+1:=by rw[ByteArray.size_append,z1]
  obtain⟨O,hO,⟨K1,h1⟩,⟨K2,h2⟩⟩:=ruleLines R[i].f0 R[i].f1 R[i].f2 R[i].f3 (s ++ strOfNums [(wrap64 (97+(i:Int))) % 256]) ((s ++ strOfNums [(wrap64 (97+(i:Int))) % 256]) ++ (⟨#[122]⟩ :ByteArray)) hl (by omega)
  dsimp only at h1 h2
  refine⟨O ++ [lp ((s ++ strOfNums [(wrap64 (97+(i:Int))) % 256]) ++ (⟨#[122]⟩ :ByteArray))],by simp;omega,fun V ⟨K,h⟩=>⟨K+K1,fun k hk=>?_⟩,fun V ⟨K,h⟩=> .succ ⟨K+K2,fun k hk=>?_⟩⟩
  · dsimp only at h
    simp only[Option.bind_some]
    rw[if_pos (by omega),if_pos (by omega),h1 k (by omega)]
    simp only[Option.bind_some]
    rw[if_pos (by omega),if_pos (by rw[List.length_append];omega),wsucc hi (by omega)]
    rw[← List.append_assoc]at h
    exact h k (by omega)
  · dsimp only at h
    simp only[impl_ChainLines.j1,Option.bind_some,Bool.false_eq_true,if_false]
    rw[if_pos (by omega),if_pos (by omega),h2 k (by omega)]
    simp only[Option.bind_some,impl_place.f]
    rw[if_pos (by omega),if_pos (by rw[List.length_append];omega),wsucc hi (by omega)]
    rw[← List.append_assoc]at h
    exact h k (by omega)
theorem chainB (M:Nat) (hM:M≤300000000) (hsum:10*(R.map (fun y=>y.f1.length)).sum+52≤M): ∃ O:List S86,O.length≤M+1∧Evt (fun k=>spec_ChainLines.f k a b c R n t s) O∧Evt (fun k=>impl_ChainLines.f k a b c R n t s) O:=by
  obtain⟨v,hv⟩:=res b c
  have key:=down (T:=fun i=> ∀ o:List S86,o.length+10*((R.drop i).map (fun y=>y.f1.length)).sum+2*(26 - i)≤M→∃ O:List S86,O.length≤M+1∧Evt (fun k=>spec_ChainLines.l0 k n t s o (i:Int) a b c R) O∧Evt (fun k=>impl_ChainLines.l0 k n t s o R (R.length:Int) (i:Int) a b c R) O) (n:=min 26 R.length) ?_ ?_ (min 26 R.length) 0 (by omega) [] (by simpa using hsum)
  · exact key
  · intro o ho
    have h26:min 26 R.length≤26:=Nat.min_le_left _ _
    refine⟨o ++ [lw 8 v],by simp;omega,.succ (.succ (.const fun k=>?_)),?_⟩
    · simp only[spec_ChainLines.l0,spec_ChainLines.j1]
      by_cases h:((min 26 R.length:Nat):Int)<(R.length:Int)
      · rw[if_pos h,decide_eq_false (by omega)]
        simp only[Bool.false_eq_true,if_false,spec_l11Word.f,hv,Option.bind_some]
        rw[if_pos (by omega)]
        rfl
      · rw[if_neg h]
        simp only[Bool.false_eq_true,if_false,spec_l11Word.f,hv,Option.bind_some]
        rw[if_pos (by omega)]
        rfl
    · by_cases h:R.length≤26
      · refine .succ (.const fun k=>?_)
        simp only[impl_ChainLines.l0,impl_word.f,resI,hv,Option.bind_some]
        rw[if_neg (by omega),if_pos (by omega)]
        rfl
      · exact chainSkip a b c n R t s hR hb hs v hv o (by omega) (R.length - min 26 R.length) (min 26 R.length) (by omega) (by omega)
  · intro i hi ih o ho
    have hlt:i<R.length:=by omega
    have hi26:i<26:=by omega
    obtain⟨b0,b1⟩:=hb R[i] (List.getElem_mem hlt)
    obtain⟨L,hL,aS,aI⟩:=chainAdd a b c n R t s hR hb hs i hlt o (by omega)
    have hdr:((R.drop i).map (fun y=>y.f1.length)).sum=R[i].f1.length+((R.drop (i+1)).map (fun y=>y.f1.length)).sum:=by rw[List.drop_eq_getElem_cons hlt,List.map_cons,List.sum_cons]
    obtain⟨O1,hO1,⟨K1,s1⟩,⟨K2,i1⟩⟩:=ih o (by omega)
    obtain⟨O2,hO2,s2,i2⟩:=ih (o ++ L) (by rw[List.length_append];omega)
    obtain⟨K3,s3⟩:=aS O2 s2
    obtain⟨K4,i3⟩:=aI O2 i2
    obtain⟨q,⟨K5,n1⟩,⟨K6,n2⟩⟩:=nums_in R[i].f0 n (by omega)
    dsimp only at s1 i1 s3 i3 n1 n2
    have eS: ∀ k,spec_ChainLines.l0 (k+1+1) n t s o (i:Int) a b c R=spec_ChainLines.j1 (k+1) n t s o (i:Int) true a b c R:=fun k=>by
      rw[spec_ChainLines.l0]
      rw[if_pos (by omega),decide_eq_true (by omega)]
    by_cases h0:(R[i].f0.length:Int)>0
    · cases t with
      | true=>
        refine⟨O1,hO1,.succ (.succ ⟨K1,fun k hk=>?_⟩),.succ (.succ ⟨K2,fun k hk=>?_⟩)⟩
        · dsimp only
          rw[eS]
          simp only[spec_ChainLines.j1,if_true]
          rw[if_pos (by omega),if_pos (by omega),nrd_T78 R i hlt,if_pos h0,wsucc hlt (by omega)]
          exact s1 k hk
        · simp only[impl_ChainLines.l0,impl_ChainLines.j1]
          rw[if_pos (by omega),if_pos (by omega),if_pos (by omega),if_neg (by omega),nrd_T78 R i hlt,if_pos h0]
          simp only[if_true]
          rw[wsucc hlt (by omega)]
          exact i1 k hk
      | false=>
        by_cases hq:q≥0
        · refine⟨O2,hO2,.succ (.succ ⟨K3+K5,fun k hk=>?_⟩),.succ ⟨K4+K6,fun k hk=>?_⟩⟩
          · dsimp only
            rw[eS]
            simp only[spec_ChainLines.j1,if_true]
            rw[if_pos (by omega),if_pos (by omega),nrd_T78 R i hlt,if_pos h0,if_neg (by simp),n1 k (by omega),decide_eq_true hq]
            simp only[Option.bind_some,if_true]
            have g:=s3 k (by omega)
            simp only[Option.bind_some]at g
            exact g
          · simp only[impl_ChainLines.l0]
            rw[if_pos (by omega),if_pos (by omega),if_pos (by omega),if_neg (by omega),nrd_T78 R i hlt,if_pos h0,if_neg (by simp)]
            simp only[slices_Contains_int_int.f,n2 k (by omega),Option.bind_some,decide_eq_true hq,Bool.not_true]
            exact i3 k (by omega)
        · refine⟨O1,hO1,.succ (.succ ⟨K1+K5,fun k hk=>?_⟩),.succ (.succ ⟨K2+K6,fun k hk=>?_⟩)⟩
          · dsimp only
            rw[eS]
            simp only[spec_ChainLines.j1,if_true]
            rw[if_pos (by omega),if_pos (by omega),nrd_T78 R i hlt,if_pos h0,if_neg (by simp),n1 k (by omega),decide_eq_false hq]
            simp only[Option.bind_some,Bool.false_eq_true,if_false]
            rw[wsucc hlt (by omega)]
            exact s1 k (by omega)
          · simp only[impl_ChainLines.l0]
            rw[if_pos (by omega),if_pos (by omega),if_pos (by omega),if_neg (by omega),nrd_T78 R i hlt,if_pos h0,if_neg (by simp)]
            simp only[slices_Contains_int_int.f,n2 (k+1) (by omega),Option.bind_some,decide_eq_false hq,Bool.not_false]
            simp only[impl_ChainLines.j1,if_true]
            rw[wsucc hlt (by omega)]
            exact i1 k (by omega)
    · refine⟨O2,hO2,.succ (.succ ⟨K3,fun k hk=>?_⟩),.succ ⟨K4,fun k hk=>?_⟩⟩
      · dsimp only
        rw[eS]
        simp only[spec_ChainLines.j1,if_true]
        rw[if_pos (by omega),if_pos (by omega),nrd_T78 R i hlt,if_neg h0]
        have g:=s3 k (by omega)
        simp only[Option.bind_some]at g ⊢
        exact g
      · simp only[impl_ChainLines.l0]
        rw[if_pos (by omega),if_pos (by omega),if_pos (by omega),if_neg (by omega),nrd_T78 R i hlt,if_neg h0]
        exact i3 k (by omega)
end
section
variable (a b c:Int) (R:List S78) (C:Nat) (hC:C≤400000000) (hch: ∀ (n:Int) (t:Bool) (s:ByteArray),s.size≤1000000000→∃ O:List S86,O.length≤C∧Evt (fun k=>spec_ChainLines.f k a b c R n t s) O∧Evt (fun k=>impl_ChainLines.f k a b c R n t s) O)
include hC hch
/-- A tree over numbers: the same on both sides, and no longer than its leaves make it. -/
theorem tree: ∀ (m:Nat) (l:List Int) (s:ByteArray),l.length≤m→s.size+l.length≤900000000→(2*C+6)*l.length≤1700000000000→∃ O:List S86,(O.length+3≤(2*C+6)*l.length∨l.length=0∧O.length≤C)∧Evt (fun k=>spec_TreeLines.f k a b c R l s) O∧Evt (fun k=>impl_TreeLines.f k a b c R l s) O:=by
  intro m
  induction m with
  | zero=>
    intro l s hl hs hD
    obtain⟨O,hO,⟨K1,h1⟩,⟨K2,h2⟩⟩:=hch 0 true s (by omega)
    dsimp only at h1 h2
    refine⟨O,.inr ⟨by omega,hO⟩,.succ ⟨K1,fun k hk=>?_⟩,.succ ⟨K2,fun k hk=>?_⟩⟩
    · simp only[spec_TreeLines.f]
      rw[if_pos (by omega),h1 k hk]
      rfl
    · simp only[impl_TreeLines.f]
      rw[if_pos (by omega),h2 k hk]
      rfl
  | succ m ih=>
    intro l s hl hs hD
    by_cases h0:l.length=0
    · exact ih l s (by omega) hs hD
    by_cases h1:l.length=1
    · have zy:(s ++ (⟨#[121]⟩ :ByteArray)).size=s.size+1:=by rw[ByteArray.size_append];rfl
      have zx:(s ++ (⟨#[120]⟩ :ByteArray)).size=s.size+1:=by rw[ByteArray.size_append];rfl
      obtain⟨O1,hO1,⟨K1,g1⟩,⟨K2,g2⟩⟩:=hch (rd l 0) false (s ++ (⟨#[121]⟩ :ByteArray)) (by omega)
      obtain⟨O2,hO2,⟨K3,g3⟩,⟨K4,g4⟩⟩:=hch 0 true (s ++ (⟨#[120]⟩ :ByteArray)) (by omega)
      dsimp only at g1 g2 g3 g4
      have hlen:((([la 3 (rd l 0) (s ++ (⟨#[121]⟩ :ByteArray)) (s ++ (⟨#[120]⟩ :ByteArray)),lp (s ++ (⟨#[121]⟩ :ByteArray))] ++ O1) ++ [lp (s ++ (⟨#[120]⟩ :ByteArray))]) ++ O2).length=3+O1.length+O2.length:=by simp;omega
      have hl1:([la 3 (rd l 0) (s ++ (⟨#[121]⟩ :ByteArray)) (s ++ (⟨#[120]⟩ :ByteArray)),lp (s ++ (⟨#[121]⟩ :ByteArray))]).length=2:=rfl
      refine⟨(([la 3 (rd l 0) (s ++ (⟨#[121]⟩ :ByteArray)) (s ++ (⟨#[120]⟩ :ByteArray)),lp (s ++ (⟨#[121]⟩ :ByteArray))] ++ O1) ++ [lp (s ++ (⟨#[120]⟩ :ByteArray))]) ++ O2,.inl (by rw[hlen,h1];omega),.succ ⟨K1+K3,fun k hk=>?_⟩,.succ ⟨K2+K4,fun k hk=>?_⟩⟩
      · clear ih
        as_aux_lemma=>
          dsimp only
          rw[spec_TreeLines.f,if_neg (by omega),if_pos (by omega),if_pos (by omega),if_pos (by omega)]
          simp only[spec_l11Asks.f,Option.bind_some]
          rw[g1 k (by omega)]
          simp only[Option.bind_some]
          rw[if_pos (by simp only[List.length_cons,List.length_nil];omega),if_pos (by simp only[List.length_append,List.length_cons,List.length_nil];omega),g3 k (by omega)]
          simp only[Option.bind_some]
          rw[if_pos (by simp only[List.length_append,List.length_cons,List.length_nil];omega)]
          rfl
      · clear ih
        as_aux_lemma=>
          dsimp only
          rw[impl_TreeLines.f,if_neg (by omega),if_pos (by omega),if_pos (by omega),if_pos (by omega)]
          simp only[impl_ask.f,impl_place.f,Option.bind_some]
          rw[g2 k (by omega)]
          simp only[Option.bind_some]
          rw[if_pos (by simp only[List.length_cons,List.length_nil];omega),if_pos (by simp only[List.length_append,List.length_cons,List.length_nil];omega),g4 k (by omega)]
          simp only[Option.bind_some]
          rw[if_pos (by simp only[List.length_append,List.length_cons,List.length_nil];omega)]
          rfl
    · have zl:(s ++ (⟨#[108]⟩ :ByteArray)).size=s.size+1:=by rw[ByteArray.size_append];rfl
      have zh:(s ++ (⟨#[104]⟩ :ByteArray)).size=s.size+1:=by rw[ByteArray.size_append];rfl
      have e1:Aside0 (wrap64 ((l.length:Int) / 2)=((l.length / 2:Nat):Int)):=⟨by rw[w64 (by omega) (by omega)];omega⟩
      have hp:(l.take (l.length / 2)).length=l.length / 2:=by rw[List.length_take];omega
      have hq:(l.drop (l.length / 2)).length=l.length - l.length / 2:=List.length_drop
      have hDs:(2*C+6)*l.length=(2*C+6)*(l.length / 2)+(2*C+6)*(l.length - l.length / 2):=by rw[← Nat.mul_add];congr 1;omega
      obtain⟨O1,hO1,⟨K1,g1⟩,⟨K2,g2⟩⟩:=ih (l.take (l.length / 2)) (s ++ (⟨#[108]⟩ :ByteArray)) (by omega) (by omega) (by rw[hp];omega)
      obtain⟨O2,hO2,⟨K3,g3⟩,⟨K4,g4⟩⟩:=ih (l.drop (l.length / 2)) (s ++ (⟨#[104]⟩ :ByteArray)) (by omega) (by omega) (by rw[hq];omega)
      rw[hp]at hO1
      rw[hq]at hO2
      replace hO1:=hO1.resolve_right (by omega)
      replace hO2:=hO2.resolve_right (by omega)
      dsimp only at g1 g2 g3 g4
      generalize (2*C+6)*(l.length / 2)=D1 at hO1 hDs
      generalize (2*C+6)*(l.length - l.length / 2)=D2 at hO2 hDs
      have hlen:((([la 5 (rd l ((l.length / 2:Nat):Int)) (s ++ (⟨#[104]⟩ :ByteArray)) (s ++ (⟨#[108]⟩ :ByteArray)),lp (s ++ (⟨#[108]⟩ :ByteArray))] ++ O1) ++ [lp (s ++ (⟨#[104]⟩ :ByteArray))]) ++ O2).length=3+O1.length+O2.length:=by simp;omega
      refine⟨(([la 5 (rd l ((l.length / 2:Nat):Int)) (s ++ (⟨#[104]⟩ :ByteArray)) (s ++ (⟨#[108]⟩ :ByteArray)),lp (s ++ (⟨#[108]⟩ :ByteArray))] ++ O1) ++ [lp (s ++ (⟨#[104]⟩ :ByteArray))]) ++ O2,.inl (by rw[hlen,hDs];omega),.succ ⟨K1+K3,fun k hk=>?_⟩,.succ ⟨K2+K4,fun k hk=>?_⟩⟩
      · clear ih
        as_aux_lemma=>
          simp only[spec_TreeLines.f,spec_l11Asks.f,Option.bind_some,e1.out,Int.toNat_natCast]
          rw[if_neg (by omega),if_neg (by omega),if_pos (by omega),if_pos (by omega),if_pos (by omega),if_pos (by omega),g1 k (by omega)]
          simp only[Option.bind_some]
          rw[if_pos (by simp only[List.length_cons,List.length_nil];omega),if_pos (by simp only[List.length_append,List.length_cons,List.length_nil];omega),g3 k (by omega)]
          simp only[Option.bind_some]
          rw[if_pos (by simp only[List.length_append,List.length_cons,List.length_nil];omega)]
          rfl
      · clear ih
        as_aux_lemma=>
          simp only[impl_TreeLines.f,impl_ask.f,impl_place.f,Option.bind_some,e1.out,Int.toNat_natCast]
          rw[if_neg (by omega),if_neg (by omega),if_pos (by omega),if_pos (by omega),if_pos (by omega),if_pos (by omega),g2 k (by omega)]
          simp only[Option.bind_some]
          rw[if_pos (by simp only[List.length_cons,List.length_nil];omega),if_pos (by simp only[List.length_append,List.length_cons,List.length_nil];omega),g4 k (by omega)]
          simp only[Option.bind_some]
          rw[if_pos (by simp only[List.length_append,List.length_cons,List.length_nil];omega)]
          rfl
end
/-- So many conditions and so many leaves, and what their lines come to. -/
theorem leaves (c n:Nat) (h:6*c+n≤1048576):(2*(10*c+53)+6)*n≤1700000000000:=by
  have h1:(2*(10*c+53)+6)*n=20*(c*n)+112*n:=by rw[Nat.add_mul,Nat.mul_add,Nat.add_mul,← Nat.mul_assoc 2 10 c,Nat.mul_assoc (2*10) c n];omega
  have h2:6*(c*n)≤274877906944:=by
    have e:n≤1048576 - 6*c:=by omega
    have h3:6*c*n≤6*c*(1048576 - 6*c):=Nat.mul_le_mul_left _ e
    have h4: ∀ x:Nat,x≤1048576→x*(1048576 - x)≤274877906944:=by
      intro x hx
      obtain⟨y,hy⟩ : ∃ y,x+y=1048576:=⟨1048576 - x,by omega⟩
      have:1048576 - x=y:=by omega
      rw[this]
      rcases Nat.le_total x 524288 with hx2|hx2
      · obtain⟨d,hd⟩ : ∃ d,x+d=524288:=⟨524288 - x,by omega⟩
        have hy2:y=524288+d:=by omega
        have hx3:x=524288 - d:=by omega
        have:x*y+d*d=524288*524288:=by
          subst hy2
          have:x*(524288+d)+d*d=x*524288+(x+d)*d:=by rw[Nat.mul_add,Nat.add_mul,Nat.add_assoc]
          rw[this,hd,Nat.mul_comm x 524288,← Nat.mul_add,hd]
        omega
      · obtain⟨d,hd⟩ : ∃ d,y+d=524288:=⟨524288 - y,by omega⟩
        have hx3:x=524288+d:=by omega
        have:x*y+d*d=524288*524288:=by
          subst hx3
          have:(524288+d)*y+d*d=524288*y+d*(y+d):=by rw[Nat.mul_add,Nat.add_mul,Nat.add_assoc]
          rw[this,hd,Nat.mul_comm d 524288,← Nat.mul_add,hd]
        omega
    have:=h4 (6*c) (by omega)
    rw[← Nat.mul_assoc]
    omega
  omega
theorem askS (a:Int):spec_l06Ask.f a=some (decide (3≤a∧a≤6)):=by
 unfold spec_l06Ask.f
 rw[inS]
 rfl
theorem askI (a b c d:Int):impl_Ins_asks.f a b c d=some (decide (3≤a∧a≤6)):=askS a
def InsP (a b c d:Int):Prop:=(1≤a∧a≤8)∧(0≤b∧b≤4294967295)∧(0≤c∧c≤15)∧(0≤d∧d≤15)∧((3≤a∧a≤6)∨(c=0∧d=0))∧(a=1→b<8)∧(a=7→b<400)
instance (a b c d:Int):Decidable (InsP a b c d):=by unfold InsP;infer_instance
theorem okS (k:Nat) (hk:2≤k) (a b c d:Int):spec_InsOk.f k a b c d=some (decide (InsP a b c d)):=by
 obtain⟨k,rfl⟩ : ∃ m,k=m+2:=⟨k - 2,by omega⟩
 have e: ∀ x:Bool,(x=true ↔ InsP a b c d)→some x=some (decide (InsP a b c d)):=fun x h=>congrArg some (by rw[Bool.eq_iff_iff,h];simp)
 unfold spec_InsOk.f
 simp only[inS,halfS,askS,spec_InsOk.j0,spec_InsOk.j1,Option.bind_some,decide_eq_true_eq,Bool.not_eq_true',decide_eq_false_iff_not]
 repeat' split
 all_goals (refine e _ ?_;clear e;unfold InsP;(try simp only[Bool.false_eq_true,bne_iff_ne,ne_eq,decide_eq_true_eq,false_iff,true_iff,Classical.not_not]at *))
 all_goals (first|contradiction|omega)
theorem okI (k:Nat) (hk:2≤k) (a b c d:Int):impl_InsOk.f k a b c d=some (decide (InsP a b c d)):=by
 obtain⟨k,rfl⟩ : ∃ m,k=m+2:=⟨k - 2,by omega⟩
 have e: ∀ x:Bool,(x=true ↔ InsP a b c d)→some x=some (decide (InsP a b c d)):=fun x h=>congrArg some (by rw[Bool.eq_iff_iff,h];simp)
 unfold impl_InsOk.f
 simp only[inI,halfI,askI,impl_InsOk.j0,Option.bind_some,decide_eq_true_eq,bne_iff_ne]
 repeat' split
 all_goals (refine e _ ?_;clear e;unfold InsP;(try simp only[Bool.false_eq_true,bne_iff_ne,ne_eq,decide_eq_true_eq,false_iff,true_iff,Classical.not_not]at *))
 all_goals (first|contradiction|omega)
theorem rd_nat86 (l:List S86) (i:Nat) (h:i<l.length):rd_T86 l (i:Int)=l[i]:=getD_lt _ h
/-- The first place from an index on. -/
def Fst (Q:Nat→Prop) (n i:Nat) (v:Int):Prop:=(∃ j,i≤j∧j<n∧Q j∧v=(j:Int)∧∀ m,i≤m→m<j→ ¬ Q m)∨(v= -1∧∀ m,i≤m→m<n→ ¬ Q m)
def PZ (x:S86):Prop:=x.f1.f0=0∧x.f1.f1=0∧x.f1.f2=0∧x.f1.f3=0
instance (x:S86):Decidable (PZ x):=by unfold PZ;infer_instance
def QS (L:List S86) (s:List UInt8) (j:Nat):Prop:= ∃ h:j<L.length,PZ L[j]∧L[j].f0.toList=s
def QI (L:List S86) (s:List UInt8) (j:Nat):Prop:= ∃ h:j<L.length,L[j].f1.f0=0∧L[j].f0.toList=s
theorem Fst.here {Q:Nat→Prop} {n i:Nat} (h:i<n) (hq:Q i):Fst Q n i (i:Int):= .inl ⟨i,Nat.le_refl _,h,hq,rfl,fun m h1 h2=>by omega⟩
theorem Fst.next {Q:Nat→Prop} {n i:Nat} {v:Int} (hq: ¬ Q i) (h:Fst Q n (i+1) v):Fst Q n i v:=by
  rcases h with⟨j,h1,h2,h3,h4,h5⟩|⟨h1,h2⟩
  · refine .inl ⟨j,by omega,h2,h3,h4,fun m h6 h7=>?_⟩
    rcases Nat.lt_or_ge i m with h8|h8
    · exact h5 m h8 h7
    · have:m=i:=by omega
      subst this
      exact hq
  · refine .inr ⟨h1,fun m h6 h7=>?_⟩
    rcases Nat.lt_or_ge i m with h8|h8
    · exact h2 m h8 h7
    · have:m=i:=by omega
      subst this
      exact hq
theorem atS_l0 (L:List S86) (s:ByteArray) (hn:L.length≤4611686018427387904): ∀ d i,i+d=L.length→∃ v,(∀ k,d<k→spec_l11At.l0 k L s (i:Int)=some v)∧Fst (QS L s.toList) L.length i v
  | 0,i,hi=>by
    refine⟨-1,fun k hk=>?_,.inr ⟨rfl,fun m h1 h2=>by omega⟩⟩
    obtain⟨k,rfl⟩ : ∃ m,k=m+1:=⟨k - 1,by omega⟩
    simp only[spec_l11At.l0]
    rw[if_neg (by omega)]
  | d+1,i,hi=>by
    have hlt:i<L.length:=by omega
    by_cases hq:QS L s.toList i
    · refine⟨i,fun k hk=>?_,.here hlt hq⟩
      obtain⟨k,rfl⟩ : ∃ m,k=m+1:=⟨k - 1,by omega⟩
      obtain⟨_,h1,h2⟩:=hq
      simp only[spec_l11At.l0,spec_l11Place.f]
      rw[if_pos (by omega),if_pos (by omega),rd_nat86 L i hlt]
      simp only[Option.bind_some]
      rw[if_pos (by obtain⟨a,b,c,d⟩:=h1;simp[a,b,c,d]),if_pos h2]
    · obtain⟨v,h1,h2⟩:=atS_l0 L s hn d (i+1) (by omega)
      refine⟨v,fun k hk=>?_,h2.next hq⟩
      obtain⟨k,rfl⟩ : ∃ m,k=m+1:=⟨k - 1,by omega⟩
      simp only[spec_l11At.l0,spec_l11Place.f]
      rw[if_pos (by omega),if_pos (by omega),rd_nat86 L i hlt,wsucc hlt (by omega)]
      simp only[Option.bind_some]
      by_cases hp:PZ L[i]
      · rw[if_pos (by obtain⟨a,b,c,d⟩:=hp;simp[a,b,c,d]),if_neg fun h=>hq ⟨hlt,hp,h⟩]
        exact h1 k (by omega)
      · rw[if_neg (by unfold PZ at hp;simp;grind)]
        exact h1 k (by omega)
theorem atI_l0 (L:List S86) (s:ByteArray) (hn:L.length≤4611686018427387904): ∀ d i,i+d=L.length→∃ v,(∀ k,d<k→impl_placeOf.l0 k L s (i:Int)=some v)∧Fst (QI L s.toList) L.length i v
  | 0,i,hi=>by
    refine⟨-1,fun k hk=>?_,.inr ⟨rfl,fun m h1 h2=>by omega⟩⟩
    obtain⟨k,rfl⟩ : ∃ m,k=m+1:=⟨k - 1,by omega⟩
    simp only[impl_placeOf.l0]
    rw[if_neg (by omega)]
  | d+1,i,hi=>by
    have hlt:i<L.length:=by omega
    by_cases hq:QI L s.toList i
    · refine⟨i,fun k hk=>?_,.here hlt hq⟩
      obtain⟨k,rfl⟩ : ∃ m,k=m+1:=⟨k - 1,by omega⟩
      obtain⟨_,h1,h2⟩:=hq
      simp only[impl_placeOf.l0,impl_Line_isPlace.f]
      rw[if_pos (by omega),if_pos (by omega),rd_nat86 L i hlt]
      simp only[Option.bind_some]
      rw[if_pos (by simp[h1]),if_pos h2]
    · obtain⟨v,h1,h2⟩:=atI_l0 L s hn d (i+1) (by omega)
      refine⟨v,fun k hk=>?_,h2.next hq⟩
      obtain⟨k,rfl⟩ : ∃ m,k=m+1:=⟨k - 1,by omega⟩
      simp only[impl_placeOf.l0,impl_Line_isPlace.f]
      rw[if_pos (by omega),if_pos (by omega),rd_nat86 L i hlt,wsucc hlt (by omega)]
      simp only[Option.bind_some]
      by_cases hp:L[i].f1.f0=0
      · rw[if_pos (by simp[hp]),if_neg fun h=>hq ⟨hlt,hp,h⟩]
        exact h1 k (by omega)
      · rw[if_neg (by simp[hp])]
        exact h1 k (by omega)
theorem atS (L:List S86) (s:ByteArray) (hn:L.length≤1048576): ∃ v,(∀ k,L.length<k→spec_l11At.f k L s=some v)∧Fst (QS L s.toList) L.length 0 v:=
  atS_l0 L s (by omega) L.length 0 (by omega)
theorem atI (L:List S86) (s:ByteArray) (hn:L.length≤1048576) (a:Nat) (ha:a<L.length): ∃ v,(∀ k,L.length<k→impl_placeOf.f k L s (a:Int)=some v)∧Fst (QI L s.toList) L.length (a+1) v:=by
  obtain⟨v,h1,h2⟩:=atI_l0 L s (by omega) (L.length - (a+1)) (a+1) (by omega)
  refine⟨v,fun k hk=>?_,h2⟩
  unfold impl_placeOf.f
  rw[wsucc ha (by omega)]
  exact h1 k (by omega)
theorem atI0 (L:List S86) (s:ByteArray) (hn:L.length≤1048576): ∃ v,(∀ k,L.length<k→impl_placeOf.f k L s (-1)=some v)∧Fst (QI L s.toList) L.length 0 v:=by
  obtain⟨v,h1,h2⟩:=atI_l0 L s (by omega) L.length 0 (by omega)
  refine⟨v,fun k hk=>?_,h2⟩
  unfold impl_placeOf.f
  rw[show wrap64 (-1+1)=((0:Nat):Int)from w64 (by omega) (by omega)]
  exact h1 k hk
def SL (x:S86) (i v0 v2 v3:Int):Prop:=
  (PZ x∧(1≤(x.f0.size:Int)∧(x.f0.size:Int)≤12)∧x.f2.toList= []∧x.f3.toList= []∧v0=i)∨
  (¬ PZ x∧x.f0.toList= []∧x.f1.f2=0∧x.f1.f3=0∧(x.f1.f0=7→x.f1.f1=0)∧InsP x.f1.f0 x.f1.f1 x.f1.f2 x.f1.f3∧
    ((x.f1.f0=7∧x.f3.toList= []∧v2>i)∨((3≤x.f1.f0∧x.f1.f0≤6)∧v2>i∧v3>i)∨(¬ x.f1.f0=7∧ ¬ (3≤x.f1.f0∧x.f1.f0≤6)∧x.f2.toList= []∧x.f3.toList= [])))
instance (x:S86) (i v0 v2 v3:Int):Decidable (SL x i v0 v2 v3):=by unfold SL;infer_instance
def IL (x:S86) (i w0 w2 w3:Int):Prop:=
  (PZ x∧(1≤(x.f0.size:Int)∧(x.f0.size:Int)≤12)∧x.f2.toList= []∧x.f3.toList= []∧w0=i)∨
  (¬ x.f1.f0=0∧x.f0.toList= []∧x.f1.f2=0∧x.f1.f3=0∧(x.f1.f0=7→x.f1.f1=0)∧InsP x.f1.f0 x.f1.f1 x.f1.f2 x.f1.f3∧
    ((x.f1.f0=7∧x.f3.toList= []∧w2≥0)∨((3≤x.f1.f0∧x.f1.f0≤6)∧w2≥0∧w3≥0)∨(¬ x.f1.f0=7∧ ¬ (3≤x.f1.f0∧x.f1.f0≤6)∧x.f2.toList= []∧x.f3.toList= [])))
instance (x:S86) (i v0 v2 v3:Int):Decidable (IL x i v0 v2 v3):=by unfold IL;infer_instance
theorem eqb {b:Bool} {P:Prop} [Decidable P] (h:b=true ↔ P):some b=some (decide P):=congrArg some (by rw[Bool.eq_iff_iff,h];simp)
set_option maxHeartbeats 1000000 in
theorem lineS (L:List S86) (i:Nat) (hi:i<L.length) (k:Nat) (hk:5≤k) (v0 v2 v3:Int) (h0: ∀ m,k≤m+1→spec_l11At.f m L L[i].f0=some v0) (h2: ∀ m,k≤m+1→spec_l11At.f m L L[i].f2=some v2) (h3: ∀ m,k≤m+1→spec_l11At.f m L L[i].f3=some v3) :
    spec_l11Line.f k L (i:Int)=some (decide (SL L[i] i v0 v2 v3)):=by
  obtain⟨k,rfl⟩ : ∃ m,k=m+1:=⟨k - 1,by omega⟩
  simp only[spec_l11Line.f,spec_l11Place.f]
  rw[if_pos (by omega),if_pos (by omega),rd_nat86 L i hi]
  simp only[Option.bind_some,inS,okS _ (show 2≤k+1 by omega),h0 _ (Nat.le_succ _),spec_l11Line.j0,askS,h2 _ (Nat.le_refl _),h3 _ (Nat.le_refl _),decide_eq_true_eq]
  have eP:((L[i].f1.f0 == 0 && (L[i].f1.f1 == 0 && (L[i].f1.f2 == 0 && (L[i].f1.f3 == 0))))=true)=PZ L[i]:=by
    unfold PZ
    simp
  simp only[eP]
  generalize L[i]=x
  by_cases hp:PZ x
  · rw[if_pos hp]
    repeat' split
    all_goals (refine eqb ?_;unfold SL;grind)
  · rw[if_neg hp]
    repeat' split
    all_goals (refine eqb ?_;unfold SL;grind)
set_option maxHeartbeats 1000000 in
theorem lineI (L:List S86) (i:Nat) (hi:i<L.length) (k:Nat) (hk:5≤k) (v0 v2 v3:Int) (h0: ∀ m,k≤m+1→impl_placeOf.f m L L[i].f0 (-1)=some v0) (h2: ∀ m,k≤m+1→impl_placeOf.f m L L[i].f2 (i:Int)=some v2) (h3: ∀ m,k≤m+1→impl_placeOf.f m L L[i].f3 (i:Int)=some v3) :
    impl_lineOk.f k L (i:Int)=some (decide (IL L[i] i v0 v2 v3)):=by
  obtain⟨k,rfl⟩ : ∃ m,k=m+1:=⟨k - 1,by omega⟩
  simp only[impl_lineOk.f,impl_Line_isPlace.f]
  rw[if_pos (by omega),if_pos (by omega),rd_nat86 L i hi]
  simp only[Option.bind_some,inI,okI _ (show 2≤k+1 by omega),h0 _ (Nat.le_succ _),impl_lineOk.j0,askI,h2 _ (Nat.le_refl _),h3 _ (Nat.le_refl _),decide_eq_true_eq]
  have eP:((L[i].f1.f0 == 0 && (L[i].f1.f1 == 0 && (L[i].f1.f2 == 0 && (L[i].f1.f3 == 0))))=true)=PZ L[i]:=by
    unfold PZ
    simp
  simp only[eP]
  generalize L[i]=x
  by_cases hp:x.f1.f0=0
  · rw[if_pos (by simp[hp])]
    repeat' split
    all_goals (refine eqb ?_;unfold IL;grind [PZ])
  · rw[if_neg (by simp[hp])]
    repeat' split
    all_goals (refine eqb ?_;unfold IL;grind [PZ])
theorem Fst.uniq {Q Q':Nat→Prop} {n i:Nat} {v v':Int} (h:Fst Q n i v) (h':Fst Q' n i v') (e: ∀ m,m<n→(Q m ↔ Q' m)):v=v':=by
  rcases h with⟨j,h1,h2,h3,h4,h5⟩|⟨h1,h2⟩
  · rcases h' with⟨j',g1,g2,g3,g4,g5⟩|⟨g1,g2⟩
    · have:j=j':=by
        rcases Nat.lt_trichotomy j j' with h|h|h
        · exact absurd ((e j h2).1 h3) (g5 j h1 h)
        · exact h
        · exact absurd ((e j' g2).2 g3) (h5 j' g1 h)
      omega
    · exact absurd ((e j h2).1 h3) (g2 j h1 h2)
  · rcases h' with⟨j',g1,g2,g3,g4,g5⟩|⟨g1,g2⟩
    · exact absurd ((e j' g2).2 g3) (h2 j' g1 g2)
    · omega
theorem allLoop {F:Nat→Int→Option Bool} {n:Nat} {P:Nat→Prop} (h0: ∀ k,F (k+1) (n:Int)=some true)
    (h1: ∀ i:Nat,i<n→∃ b,(b=true ↔ P i)∧∃ K,∀ k,K≤k→F (k+1) (i:Int)=if b=true then F k ((i+1:Nat):Int)else some false): ∃ b,Evt (fun k=>F k 0) b∧(b=true ↔ ∀ i,i<n→P i):=by
  have h:=down (T:=fun i=> ∃ b,Evt (fun k=>F k (i:Int)) b∧(b=true ↔ ∀ j,i≤j→j<n→P j)) (n:=n) ?_ ?_ n 0 (by omega)
  · obtain⟨b,h2,h3⟩:=h
    exact⟨b,h2,h3.trans ⟨fun h j hj=>h j (Nat.zero_le _) hj,fun h j _ hj=>h j hj⟩⟩
  · exact⟨true,.succ (.const fun k=>h0 k),by simp;intro j h2 h3;omega⟩
  · intro i hi ⟨b,⟨K,hK⟩,hb⟩
    obtain⟨b',hb',K',hK'⟩:=h1 i hi
    cases b' with
    | true=>
      refine⟨b,.succ ⟨K+K',fun k hk=>?_⟩,hb.trans ⟨fun h j h2 h3=>?_,fun h j h2 h3=>h j (by omega) h3⟩⟩
      · show F (k+1) (i:Int)=_
        rw[hK' k (by omega),if_pos rfl]
        exact hK k (by omega)
      · rcases Nat.lt_or_ge i j with h4|h4
        · exact h j h4 h3
        · have:i=j:=by omega
          subst this
          exact hb'.1 rfl
    | false=>
      refine⟨false,.succ ⟨K',fun k hk=>?_⟩,⟨(fun h=>by cases h),fun h=>absurd (hb'.2 (h i (Nat.le_refl _) hi)) (by simp)⟩⟩
      show F (k+1) (i:Int)=_
      rw[hK' k (by omega),if_neg (by simp)]
def SAll (L:List S86):Prop:= ∀ j (h:j<L.length),∀ v0 v2 v3,Fst (QS L L[j].f0.toList) L.length 0 v0→Fst (QS L L[j].f2.toList) L.length 0 v2→Fst (QS L L[j].f3.toList) L.length 0 v3→SL L[j] j v0 v2 v3
def IAll (L:List S86):Prop:= ∀ j (h:j<L.length),∀ v0 v2 v3,Fst (QI L L[j].f0.toList) L.length 0 v0→Fst (QI L L[j].f2.toList) L.length (j+1) v2→Fst (QI L L[j].f3.toList) L.length (j+1) v3→IL L[j] j v0 v2 v3
theorem sAll (L:List S86) (hn:L.length≤1048576): ∃ b,Evt (fun k=>spec_LinesOk.l0 k L 0) b∧(b=true ↔ SAll L):=by
  obtain⟨b,h1,h2⟩:=allLoop (F:=fun k i=>spec_LinesOk.l0 k L i) (n:=L.length) (P:=fun j=> ∀ h:j<L.length,∀ v0 v2 v3,Fst (QS L L[j].f0.toList) L.length 0 v0→Fst (QS L L[j].f2.toList) L.length 0 v2→Fst (QS L L[j].f3.toList) L.length 0 v3→SL L[j] j v0 v2 v3)
    (fun k=>by simp only[spec_LinesOk.l0];rw[if_neg (by omega)]) (fun i hi=>by
      obtain⟨v0,a0,b0⟩:=atS L L[i].f0 hn
      obtain⟨v2,a2,b2⟩:=atS L L[i].f2 hn
      obtain⟨v3,a3,b3⟩:=atS L L[i].f3 hn
      refine⟨decide (SL L[i] i v0 v2 v3),?_,L.length+10,fun k hk=>?_⟩
      · rw[decide_eq_true_eq]
        refine⟨fun h _ u0 u2 u3 c0 c2 c3=>?_,fun h=>h hi v0 v2 v3 b0 b2 b3⟩
        rw[← b0.uniq c0 (fun _ _=> .rfl),← b2.uniq c2 (fun _ _=> .rfl),← b3.uniq c3 (fun _ _=> .rfl)]
        exact h
      · simp only[spec_LinesOk.l0]
        rw[if_pos (by omega),lineS L i hi k (by omega) v0 v2 v3 (fun m hm=>a0 m (by omega)) (fun m hm=>a2 m (by omega)) (fun m hm=>a3 m (by omega)),wsucc hi (by omega)]
        rfl)
  exact⟨b,h1,h2.trans ⟨fun h j hj=>h j hj hj,fun h j hj _=>h j hj⟩⟩
theorem iAll (L:List S86) (hn:L.length≤1048576): ∃ b,Evt (fun k=>impl_LinesOk.l0 k L (L.length:Int) 0) b∧(b=true ↔ IAll L):=by
  obtain⟨b,h1,h2⟩:=allLoop (F:=fun k i=>impl_LinesOk.l0 k L (L.length:Int) i) (n:=L.length) (P:=fun j=> ∀ h:j<L.length,∀ v0 v2 v3,Fst (QI L L[j].f0.toList) L.length 0 v0→Fst (QI L L[j].f2.toList) L.length (j+1) v2→Fst (QI L L[j].f3.toList) L.length (j+1) v3→IL L[j] j v0 v2 v3)
    (fun k=>by simp only[impl_LinesOk.l0];rw[if_neg (by omega)]) (fun i hi=>by
      obtain⟨v0,a0,b0⟩:=atI0 L L[i].f0 hn
      obtain⟨v2,a2,b2⟩:=atI L L[i].f2 hn i hi
      obtain⟨v3,a3,b3⟩:=atI L L[i].f3 hn i hi
      refine⟨decide (IL L[i] i v0 v2 v3),?_,L.length+10,fun k hk=>?_⟩
      · rw[decide_eq_true_eq]
        refine⟨fun h _ u0 u2 u3 c0 c2 c3=>?_,fun h=>h hi v0 v2 v3 b0 b2 b3⟩
        rw[← b0.uniq c0 (fun _ _=> .rfl),← b2.uniq c2 (fun _ _=> .rfl),← b3.uniq c3 (fun _ _=> .rfl)]
        exact h
      · simp only[impl_LinesOk.l0]
        rw[if_pos (by omega),lineI L i hi k (by omega) v0 v2 v3 (fun m hm=>a0 m (by omega)) (fun m hm=>a2 m (by omega)) (fun m hm=>a3 m (by omega)),wsucc hi (by omega)]
        rfl)
  exact⟨b,h1,h2.trans ⟨fun h j hj=>h j hj hj,fun h j hj _=>h j hj⟩⟩
/-- Both ask the same of all lines: where all are right, each place is bare and bears a name of its own. -/
theorem qs_qi {L:List S86} (H: ∀ j (h:j<L.length),L[j].f1.f0=0→PZ L[j]) (s:List UInt8) (m:Nat):QS L s m ↔ QI L s m:=
  ⟨fun ⟨h,h1,h2⟩=>⟨h,h1.1,h2⟩,fun ⟨h,h1,h2⟩=>⟨h,H m h h1,h2⟩⟩
theorem fstS (L:List S86) (hn:L.length≤1048576) (s:ByteArray): ∃ v,Fst (QS L s.toList) L.length 0 v:=by
  obtain⟨v,_,h⟩:=atS L s hn
  exact⟨v,h⟩
theorem fstI (L:List S86) (hn:L.length≤1048576) (s:ByteArray) (i:Nat) (hi:i≤L.length): ∃ v,Fst (QI L s.toList) L.length i v:=by
  obtain⟨v,_,h⟩:=atI_l0 L s (by omega) (L.length - i) i (by omega)
  exact⟨v,h⟩
theorem all_iff (L:List S86) (hn:L.length≤1048576):SAll L ↔ IAll L:=by
  constructor
  · intro hS
    have H: ∀ j (h:j<L.length),L[j].f1.f0=0→PZ L[j]:=fun j h e=>by
      obtain⟨v0,h0⟩:=fstS L hn L[j].f0
      obtain⟨v2,h2⟩:=fstS L hn L[j].f2
      obtain⟨v3,h3⟩:=fstS L hn L[j].f3
      rcases hS j h v0 v2 v3 h0 h2 h3 with h4|h4
      · exact h4.1
      · have h5:=h4.2.2.2.2.2.1
        unfold InsP at h5
        omega
    have up: ∀ (s:ByteArray) (j:Nat) (v w:Int),Fst (QS L s.toList) L.length 0 v→Fst (QI L s.toList) L.length (j+1) w→v>j→w≥0:=fun s j v w h1 h2 h3=>by
      rcases h1 with⟨m,_,m2,m3,m4,_⟩|⟨m1,_⟩
      · rcases h2 with⟨u,_,_,_,u4,_⟩|⟨_,u2⟩
        · omega
        · exact absurd ((qs_qi H _ m).1 m3) (u2 m (by omega) m2)
      · omega
    intro j h w0 w2 w3 g0 g2 g3
    obtain⟨v0,h0⟩:=fstS L hn L[j].f0
    obtain⟨v2,h2⟩:=fstS L hn L[j].f2
    obtain⟨v3,h3⟩:=fstS L hn L[j].f3
    have e0:=h0.uniq g0 (fun m _=>qs_qi H _ m)
    have u2:=up _ j v2 w2 h2 g2
    have u3:=up _ j v3 w3 h3 g3
    rcases hS j h v0 v2 v3 h0 h2 h3 with⟨a,b,c,d,e⟩|⟨a,b,c,d,e,f,g⟩
    · exact .inl ⟨a,b,c,d,by omega⟩
    · refine .inr ⟨by unfold InsP at f;omega,b,c,d,e,f,?_⟩
      rcases g with⟨g1,g2,g3⟩|⟨g1,g2,g3⟩|g
      · exact .inl ⟨g1,g2,u2 g3⟩
      · exact .inr (.inl ⟨g1,u2 g2,u3 g3⟩)
      · exact .inr (.inr g)
  · intro hI
    have hW: ∀ j (h:j<L.length),∃ w0 w2 w3,Fst (QI L L[j].f0.toList) L.length 0 w0∧Fst (QI L L[j].f2.toList) L.length (j+1) w2∧Fst (QI L L[j].f3.toList) L.length (j+1) w3∧IL L[j] j w0 w2 w3:=fun j h=>by
      obtain⟨v0,h0⟩:=fstI L hn L[j].f0 0 (by omega)
      obtain⟨v2,h2⟩:=fstI L hn L[j].f2 (j+1) h
      obtain⟨v3,h3⟩:=fstI L hn L[j].f3 (j+1) h
      exact⟨v0,v2,v3,h0,h2,h3,hI j h v0 v2 v3 h0 h2 h3⟩
    have H: ∀ j (h:j<L.length),L[j].f1.f0=0→PZ L[j]:=fun j h e=>by
      obtain⟨w0,w2,w3,_,_,_,h4⟩:=hW j h
      rcases h4 with h4|h4
      · exact h4.1
      · exact absurd e h4.1
    have dn: ∀ (s:ByteArray) (j:Nat) (v w:Int),Fst (QS L s.toList) L.length 0 v→Fst (QI L s.toList) L.length (j+1) w→w≥0→v>j:=fun s j v w h1 h2 h3=>by
      rcases h2 with⟨m,m1,m2,m3,m4,_⟩|⟨m1,_⟩
      · obtain⟨w0,w2,w3,g0,_,_,g4⟩:=hW m m2
        obtain⟨_,m5,m6⟩:=m3
        have hz:=H m m2 m5
        have e0:w0=m:=by
          rcases g4 with g4|g4
          · exact g4.2.2.2.2
          · exact absurd m5 g4.1
        rw[m6]at g0
        have:=h1.uniq g0 (fun m _=>qs_qi H _ m)
        omega
      · omega
    intro j h v0 v2 v3 h0 h2 h3
    obtain⟨w0,w2,w3,g0,g2,g3,hl⟩:=hW j h
    have e0:=h0.uniq g0 (fun m _=>qs_qi H _ m)
    have u2:=dn _ j v2 w2 h2 g2
    have u3:=dn _ j v3 w3 h3 g3
    rcases hl with⟨a,b,c,d,e⟩|⟨a,b,c,d,e,f,g⟩
    · exact .inl ⟨a,b,c,d,by omega⟩
    · refine .inr ⟨fun h=>a h.1,b,c,d,e,f,?_⟩
      rcases g with⟨g1,g2,g3⟩|⟨g1,g2,g3⟩|g
      · exact .inl ⟨g1,g2,u2 g3⟩
      · exact .inr (.inl ⟨g1,u2 g2,u3 g3⟩)
      · exact .inr (.inr g)
/-- Both answer alike. -/
theorem linesOk (L:List S86) (hn:L.length≤1048576): ∃ b,Evt (fun k=>spec_LinesOk.f k L) b∧Evt (fun k=>impl_LinesOk.f k L) b∧(b=true→(1≤L.length∧L.length≤600)∧SAll L∧IAll L∧∃ h:L.length - 1<L.length,L[L.length - 1].f1.f0=8):=by
  by_cases h1:1≤(L.length:Int)∧(L.length:Int)≤600
  · have e:wrap64 ((L.length:Int) - 1)=((L.length - 1:Nat):Int):=by unfold wrap64;omega
    have hlt:L.length - 1<L.length:=by omega
    by_cases h8:(L[L.length - 1].f1.f0)=8
    · obtain⟨b,⟨K,hb⟩,hbi⟩:=sAll L hn
      obtain⟨b',⟨K',hb'⟩,hbi'⟩:=iAll L hn
      have eb:b'=b:=by rw[Bool.eq_iff_iff,hbi,hbi',all_iff L hn]
      subst eb
      refine⟨b',.succ ⟨K+1,fun k hk=>?_⟩,.succ ⟨K'+1,fun k hk=>?_⟩,fun h=>⟨by omega,hbi.1 h,hbi'.1 h,hlt,h8⟩⟩
      · simp only[spec_LinesOk.f,inS,Option.bind_some,decide_eq_true_eq]
        rw[if_pos h1,e,if_pos (by omega),if_pos (by omega),rd_nat86 L _ hlt,h8]
        simp only[spec_LinesOk.j0]
        rw[if_neg (by simp)]
        exact hb k (by omega)
      · simp only[impl_LinesOk.f,inI,Option.bind_some,decide_eq_true_eq]
        rw[if_pos h1,e,if_pos (by omega),if_pos (by omega),rd_nat86 L _ hlt,h8]
        simp only[impl_LinesOk.j0]
        rw[if_neg (by simp)]
        exact hb' k (by omega)
    · refine⟨false,.succ (.const fun k=>?_),.succ (.const fun k=>?_),fun h=>by cases h⟩
      · simp only[spec_LinesOk.f,inS,Option.bind_some,decide_eq_true_eq]
        rw[if_pos h1,e,if_pos (by omega),if_pos (by omega),rd_nat86 L _ hlt]
        simp only[spec_LinesOk.j0]
        rw[if_pos (by simp[h8])]
      · simp only[impl_LinesOk.f,inI,Option.bind_some,decide_eq_true_eq]
        rw[if_pos h1,e,if_pos (by omega),if_pos (by omega),rd_nat86 L _ hlt]
        simp only[impl_LinesOk.j0]
        rw[if_pos (by simp[h8])]
  · refine⟨false,.succ (.const fun k=>?_),.succ (.const fun k=>?_),fun h=>by cases h⟩
    · simp only[spec_LinesOk.f,inS,Option.bind_some,decide_eq_true_eq]
      rw[if_neg h1]
      simp only[spec_LinesOk.j0,if_true]
    · simp only[impl_LinesOk.f,inI,Option.bind_some,decide_eq_true_eq]
      rw[if_neg h1]
      simp only[impl_LinesOk.j0,if_true]
/-- Sizes before an index, summed up. -/
def pre (o:List Int) (i:Nat):Int:=(o.take i).sum
theorem pre_succ {o:List Int} {i:Nat} (h:i<o.length):pre o (i+1)=pre o i+o[i]:=by
  unfold pre
  rw[List.take_succ_eq_append_getElem h,List.sum_append]
  simp
theorem pre_bound {o:List Int} (ho: ∀ j (h:j<o.length),0≤o[j]∧o[j]≤3): ∀ i,i≤o.length→0≤pre o i∧pre o i≤3*i
  | 0,_=>by simp[pre]
  | i+1,h=>by
    have:=pre_bound ho i (by omega)
    have:=ho i (by omega)
    rw[pre_succ (by omega)]
    omega
theorem nrdI (l:List Int) (i:Nat) (h:i<l.length):rd l (i:Int)=l[i]:=getD_lt _ h
def ones:List Int→Nat
  | []=>0
  | x :: l=>(if x=1 then 1 else 0)+ones l
theorem ones_le: ∀ l:List Int,ones l≤l.length
  | []=>Nat.le_refl _
  | x :: l=>by
    have:=ones_le l
    simp only[ones,List.length_cons]
    split <;> omega
theorem ones_set: ∀ (l:List Int) (i:Nat) (h:i<l.length),l[i]=1→ones (l.set i 3)+1=ones l
  | x :: l,0,h,e=>by
    simp only[List.getElem_cons_zero]at e
    subst e
    simp[ones]
    omega
  | x :: l,i+1,h,e=>by
    simp only[List.getElem_cons_succ]at e
    have:=ones_set l i (by simpa using h) e
    simp only[List.set_cons_succ,ones]
    omega
/-- Where each word begins. -/
theorem begins (o:List Int) (hn:o.length≤600) (ho: ∀ j (h:j<o.length),0≤o[j]∧o[j]≤3): ∃ B:List Int,B.length=o.length∧(∀ i (h:i<B.length),B[i]=pre o i)∧Evt (fun k=>spec_l11Begins.f k o) B:=by
  have key:=down (T:=fun i=> ∀ b:List Int,b.length=i→(∀ j (h:j<b.length),b[j]=pre o j)→∃ B:List Int,B.length=o.length∧(∀ j (h:j<B.length),B[j]=pre o j)∧Evt (fun k=>spec_l11Begins.l0 k o b (pre o i) (i:Int)) B) (n:=o.length) ?_ ?_ o.length 0 (by omega) [] rfl (by simp)
  · obtain⟨B,h1,h2,h3⟩:=key
    exact⟨B,h1,h2,h3⟩
  · intro b hb hj
    refine⟨b,hb,hj,.succ (.const fun k=>?_)⟩
    simp only[spec_l11Begins.l0]
    rw[if_neg (by omega)]
  · intro i hi ih b hb hj
    have b1:=pre_bound ho i (by omega)
    have b2:=ho i hi
    obtain⟨B,h1,h2,K,h3⟩:=ih (b ++ [pre o i]) (by simp;omega) (fun j h=>by
      rcases Nat.lt_or_ge j b.length with h4|h4
      · rw[List.getElem_append_left h4]
        exact hj j h4
      · have:j=b.length:=by simp at h;omega
        subst this
        rw[List.getElem_append_right (Nat.le_refl _)]
        simp
        rw[hb])
    refine⟨B,h1,h2,.succ ⟨K,fun k hk=>?_⟩⟩
    simp only[spec_l11Begins.l0]
    rw[if_pos (by omega),if_pos (by omega),if_pos (by omega),nrdI o i hi,w64 (x:=pre o i+o[i]) (by omega) (by omega),wsucc hi (by omega)]
    have:=h3 k hk
    rw[pre_succ hi]at this
    exact this
/-- How much stands between. -/
theorem betw (o:List Int) (hn:o.length≤600) (ho: ∀ j (h:j<o.length),0≤o[j]∧o[j]≤3) (y:Nat) (hy:y≤o.length): ∀ (d i:Nat) (t:Int),i+d=y→0≤t→t≤3*i→Evt (fun k=>impl_between.l0 k o t (y:Int) (i:Int)) (t+(pre o y - pre o i)):=by
  intro d
  induction d with
  | zero=>
    intro i t h _ _
    have:i=y:=by omega
    subst this
    refine .succ (.const fun k=>?_)
    simp only[impl_between.l0]
    rw[if_neg (by omega)]
    simp
  | succ d ih=>
    intro i t h h0 h3
    have hi:i<o.length:=by omega
    have b2:=ho i hi
    obtain⟨K,hK⟩:=ih (i+1) (t+o[i]) (by omega) (by omega) (by omega)
    refine .succ ⟨K,fun k hk=>?_⟩
    simp only[impl_between.l0]
    rw[if_pos (by omega),if_pos (by omega),if_pos (by omega),nrdI o i hi,w64 (x:=t+o[i]) (by omega) (by omega),wsucc hi (by omega)]
    have:=hK k hk
    dsimp only at this
    rw[this,pre_succ hi]
    refine congrArg some ?_
    omega
/-- Where the ways of right lines lead: both sides find the same place, behind the line. -/
theorem wayTo {L:List S86} (hn:L.length≤1048576) (hS:SAll L) (hI:IAll L) {i:Nat} (hi:i<L.length) (ha:3≤L[i].f1.f0∧L[i].f1.f0≤6) (s:ByteArray) (hs:s=L[i].f2∨s=L[i].f3) :
    ∃ y:Nat,i<y∧y<L.length∧s.toList≠[]∧(∀ k,L.length<k→spec_l11At.f k L s=some (y:Int))∧(∀ k,L.length<k→impl_placeOf.f k L s (i:Int)=some (y:Int)):=by
  have H: ∀ j (h:j<L.length),L[j].f1.f0=0→PZ L[j]:=fun j h e=>by
    obtain⟨w0,h0⟩:=fstI L hn L[j].f0 0 (by omega)
    obtain⟨w2,h2⟩:=fstI L hn L[j].f2 (j+1) h
    obtain⟨w3,h3⟩:=fstI L hn L[j].f3 (j+1) h
    rcases hI j h w0 w2 w3 h0 h2 h3 with h4|h4
    · exact h4.1
    · exact absurd e h4.1
  obtain⟨v,hv,fv⟩:=atS L s hn
  obtain⟨w,hw,fw⟩:=atI L s hn i hi
  have hgt:v>i:=by
    obtain⟨v0,f0⟩:=fstS L hn L[i].f0
    obtain⟨v2,f2⟩:=fstS L hn L[i].f2
    obtain⟨v3,f3⟩:=fstS L hn L[i].f3
    have hl:=hS i hi v0 v2 v3 f0 f2 f3
    have hz: ¬ PZ L[i]:=fun h=>by unfold PZ at h;omega
    rcases hl with h|⟨_,_,_,_,_,_,h|h|h⟩
    · exact absurd h.1 hz
    · omega
    · rcases hs with e|e
      · subst e
        rw[fv.uniq f2 (fun _ _=> .rfl)]
        exact h.2.1
      · subst e
        rw[fv.uniq f3 (fun _ _=> .rfl)]
        exact h.2.2
    · exact absurd ha h.2.1
  rcases fv with⟨m,_,m2,m3,m4,m5⟩|⟨m1,_⟩
  · have hwm:w=(m:Int):=by
      rcases fw with⟨u,u1,u2,u3,u4,u5⟩|⟨_,u2⟩
      · have q1: ¬ m<u:=fun h=>u5 m (by omega) h ((qs_qi H _ m).1 m3)
        have q2: ¬ u<m:=fun h=>m5 u (Nat.zero_le _) h ((qs_qi H _ u).2 u3)
        omega
      · exact absurd ((qs_qi H _ m).1 m3) (u2 m (by omega) m2)
    refine⟨m,by omega,m2,?_,fun k hk=>(hv k hk).trans (by rw[m4]),fun k hk=>(hw k hk).trans (by rw[hwm])⟩
    obtain⟨_,p1,p2⟩:=m3
    obtain⟨v0,f0⟩:=fstS L hn L[m].f0
    obtain⟨v2,f2⟩:=fstS L hn L[m].f2
    obtain⟨v3,f3⟩:=fstS L hn L[m].f3
    rcases hS m m2 v0 v2 v3 f0 f2 f3 with h|h
    · intro e
      rw[← p2]at e
      rw[ByteArray.toList_eq]at e
      have h5:L[m].f0.data.size=0:=by simpa using congrArg List.length e
      have h6:L[m].f0.size=L[m].f0.data.size:=rfl
      have:=h.2.1
      omega
    · exact absurd p1 h.1
  · omega
/-- Sizes that may stand for right lines. -/
def OkS (L:List S86) (o:List Int):Prop:=o.length=L.length∧(∀ j (h:j<o.length),0≤o[j]∧o[j]≤3)∧(∀ j (h:j<o.length) (h':j<L.length),3≤L[j].f1.f0∧L[j].f1.f0≤6→o[j]=1∨o[j]=3)∧(∀ j (h:j<o.length) (h':j<L.length),¬ (3≤L[j].f1.f0∧L[j].f1.f0≤6)→o[j]=if L[j].f1.f0=0 then 0 else 1)
theorem OkS.set {L:List S86} {o:List Int} (h:OkS L o) (i:Nat) (hi:i<L.length) (hask:3≤L[i].f1.f0∧L[i].f1.f0≤6):OkS L (o.set i 3):=by
  obtain⟨h1,h2,h3,h4⟩:=h
  refine⟨by rw[List.length_set];exact h1,fun j hj=>?_,fun j hj hj' ha=>?_,fun j hj hj' ha=>?_⟩
  · rw[List.length_set]at hj
    rw[List.getElem_set]
    split
    · omega
    · exact h2 j hj
  · rw[List.length_set]at hj
    rw[List.getElem_set]
    split
    · exact .inr rfl
    · exact h3 j hj hj' ha
  · rw[List.length_set]at hj
    rw[List.getElem_set]
    split
    · rename_i e
      subst e
      exact absurd hask ha
    · exact h4 j hj hj' ha
/-- The ways, as the reference keeps them. -/
def OkW (L:List S86) (Y N:List Int):Prop:=Y.length=L.length∧N.length=L.length∧∀ j (h:j<L.length) (h1:j<Y.length) (h2:j<N.length),(L[j].f2.toList≠[]→∀ v,(∀ k,L.length<k→spec_l11At.f k L L[j].f2=some v)→Y[j]=v)∧(L[j].f3.toList≠[]→∀ v,(∀ k,L.length<k→spec_l11At.f k L L[j].f3=some v)→N[j]=v)
theorem ways (L:List S86) (hn:L.length≤600): ∃ Y N,OkW L Y N∧Evt (fun k=>spec_l11Ways.f k L) (Y,N):=by
  have key:=down (T:=fun i=> ∀ y n:List Int,y.length=i→n.length=i→(∀ j (h:j<L.length) (h1:j<y.length) (h2:j<n.length),(L[j].f2.toList≠[]→∀ v,(∀ k,L.length<k→spec_l11At.f k L L[j].f2=some v)→y[j]=v)∧(L[j].f3.toList≠[]→∀ v,(∀ k,L.length<k→spec_l11At.f k L L[j].f3=some v)→n[j]=v))→∃ Y N,OkW L Y N∧Evt (fun k=>spec_l11Ways.l0 k L y n (i:Int)) (Y,N)) (n:=L.length) ?_ ?_ L.length 0 (by omega) [] [] rfl rfl (by simp)
  · exact key
  · intro y n hy hm hj
    exact⟨y,n,⟨hy,hm,hj⟩,.succ (.const fun k=>by simp only[spec_l11Ways.l0];rw[if_neg (by omega)])⟩
  · intro i hi ih y n hy hm hj
    obtain⟨a,ha,_⟩:=atS L L[i].f2 (by omega)
    obtain⟨b,hb,_⟩:=atS L L[i].f3 (by omega)
    have ext: ∀ u v:Int,(L[i].f2.toList≠[]→u=a)→(L[i].f3.toList≠[]→v=b)→∃ Y N,OkW L Y N∧Evt (fun k=>spec_l11Ways.l0 k L (y ++ [u]) (n ++ [v]) ((i+1:Nat):Int)) (Y,N):=fun u v hu hv=>by
      refine ih (y ++ [u]) (n ++ [v]) (by simp;omega) (by simp;omega) (fun j h h1 h2=>?_)
      rcases Nat.lt_or_ge j i with h4|h4
      · rw[List.getElem_append_left (by omega),List.getElem_append_left (by omega)]
        exact hj j h (by omega) (by omega)
      · have:j=i:=by simp at h1;omega
        subst this
        have e1:(y ++ [u])[j]=u:=by rw[List.getElem_append_right (by omega)];simp
        have e2:(n ++ [v])[j]=v:=by rw[List.getElem_append_right (by omega)];simp
        rw[e1,e2]
        refine⟨fun h5 w h6=>?_,fun h5 w h6=>?_⟩
        · rw[hu h5]
          exact Option.some.inj ((ha (L.length+1) (by omega)).symm.trans (h6 (L.length+1) (by omega)))
        · rw[hv h5]
          exact Option.some.inj ((hb (L.length+1) (by omega)).symm.trans (h6 (L.length+1) (by omega)))
    by_cases c2:L[i].f2.toList= []
    · by_cases c3:L[i].f3.toList= []
      · obtain⟨Y,N,h1,K,h2⟩:=ext (-1) (-1) (fun h=>absurd c2 h) (fun h=>absurd c3 h)
        refine⟨Y,N,h1,.succ ⟨K,fun k hk=>?_⟩⟩
        simp only[spec_l11Ways.l0]
        rw[if_pos (by omega),if_pos (by omega),nrd_T86 L i hi,if_pos c2,if_pos c3,if_pos (by omega),if_pos (by omega),wsucc hi (by omega)]
        exact h2 k hk
      · obtain⟨Y,N,h1,K,h2⟩:=ext (-1) b (fun h=>absurd c2 h) (fun _=>rfl)
        refine⟨Y,N,h1,.succ ⟨K+L.length+1,fun k hk=>?_⟩⟩
        simp only[spec_l11Ways.l0]
        rw[if_pos (by omega),if_pos (by omega),nrd_T86 L i hi,if_pos c2,if_neg c3,hb k (by omega)]
        simp only[Option.bind_some]
        rw[if_pos (by omega),if_pos (by omega),wsucc hi (by omega)]
        exact h2 k (by omega)
    · by_cases c3:L[i].f3.toList= []
      · obtain⟨Y,N,h1,K,h2⟩:=ext a (-1) (fun _=>rfl) (fun h=>absurd c3 h)
        refine⟨Y,N,h1,.succ ⟨K+L.length+1,fun k hk=>?_⟩⟩
        simp only[spec_l11Ways.l0]
        rw[if_pos (by omega),if_pos (by omega),nrd_T86 L i hi,if_neg c2,ha k (by omega)]
        simp only[Option.bind_some]
        rw[if_pos c3,if_pos (by omega),if_pos (by omega),wsucc hi (by omega)]
        exact h2 k (by omega)
      · obtain⟨Y,N,h1,K,h2⟩:=ext a b (fun _=>rfl) (fun _=>rfl)
        refine⟨Y,N,h1,.succ ⟨K+L.length+1,fun k hk=>?_⟩⟩
        simp only[spec_l11Ways.l0]
        rw[if_pos (by omega),if_pos (by omega),nrd_T86 L i hi,if_neg c2,ha k (by omega)]
        simp only[Option.bind_some]
        rw[if_neg c3,hb k (by omega)]
        simp only[Option.bind_some]
        rw[if_pos (by omega),if_pos (by omega),wsucc hi (by omega)]
        exact h2 k (by omega)
/-- What both sides ask of a way. -/
theorem far_eq (o B:List Int) (i y:Nat) (hB:B.length=o.length) (hb: ∀ j (h:j<B.length),B[j]=pre o j) (hn:o.length≤600) (ho: ∀ j (h:j<o.length),0≤o[j]∧o[j]≤3) (hi:i<o.length) (hy:i<y) (hy':y<o.length) (h1:o[i]=1) :
    wrap64 (wrap64 (rd B (y:Int) - rd B (i:Int)) - 1)=pre o y - pre o (i+1):=by
  have b1:=pre_bound ho y (by omega)
  have b2:=pre_bound ho i (by omega)
  rw[nrdI B y (by omega),nrdI B i (by omega),hb y (by omega),hb i (by omega),pre_succ hi,h1]
  rw[w64 (x:=pre o y - pre o i) (by omega) (by omega),w64 (by omega) (by omega)]
  omega
theorem round (L:List S86) (hn:L.length≤600) (hS:SAll L) (hI:IAll L) (o Y N B:List Int) (ho:OkS L o) (hW:OkW L Y N) (hB:B.length=o.length) (hb: ∀ j (h:j<B.length),B[j]=pre o j) (r:Int) :
    ∃ c f,OkS L c∧(f=true→ones c<ones o)∧(∀ R,Evt (fun k=>if f=true then spec_Sizes.l1 k L c Y N (wrap64 (r+1))else some c) R→Evt (fun k=>spec_Sizes.l2 k L o Y N r B false ((0:Nat):Int)) R)∧(∀ R,Evt (fun k=>impl_Sizes.l1 k L c f) R→Evt (fun k=>impl_Sizes.l2 k L o false o L (L.length:Int) ((0:Nat):Int)) R):=by
  have ho':=ho
  obtain⟨ol,o3,oa,_⟩:=ho
  obtain⟨wy,wn,wj⟩:=hW
  have key:=down (T:=fun i=> ∀ (c:List Int) (f:Bool),OkS L c→(∀ j (h:j<c.length) (h':j<o.length),i≤j→c[j]=o[j])→ones c≤ones o→(f=true→ones c<ones o)→
    ∃ c' f',OkS L c'∧(f'=true→ones c'<ones o)∧(∀ R,Evt (fun k=>if f'=true then spec_Sizes.l1 k L c' Y N (wrap64 (r+1))else some c') R→Evt (fun k=>spec_Sizes.l2 k L c Y N r B f (i:Int)) R)∧(∀ R,Evt (fun k=>impl_Sizes.l1 k L c' f') R→Evt (fun k=>impl_Sizes.l2 k L o f c L (L.length:Int) (i:Int)) R)) (n:=L.length) ?_ ?_ L.length 0 (by omega) o false ho' (fun _ _ _ _=>rfl) (Nat.le_refl _) (fun h=>by cases h)
  · exact key
  · intro c f hc _ _ h2
    refine⟨c,f,hc,h2,fun R hR=> .succ ?_,fun R hR=> .succ ?_⟩
    · obtain⟨K,hK⟩:=hR
      refine⟨K,fun k hk=>?_⟩
      simp only[spec_Sizes.l2]
      rw[if_neg (by omega)]
      exact hK k hk
    · obtain⟨K,hK⟩:=hR
      refine⟨K,fun k hk=>?_⟩
      simp only[impl_Sizes.l2]
      rw[if_neg (by omega)]
      exact hK k hk
  · intro i hi ih c f hc hj h1 h2
    have cl:=hc.1
    have ws:=wsucc hi (show L.length≤9223372036854775807 by omega)
    have skip:(∀ k,spec_Sizes.l2 (k+2) L c Y N r B f (i:Int)=spec_Sizes.l2 k L c Y N r B f ((i+1:Nat):Int))→(∀ k,impl_Sizes.l2 (k+2) L o f c L (L.length:Int) (i:Int)=impl_Sizes.l2 k L o f c L (L.length:Int) ((i+1:Nat):Int))→
        ∃ c' f',OkS L c'∧(f'=true→ones c'<ones o)∧(∀ R,Evt (fun k=>if f'=true then spec_Sizes.l1 k L c' Y N (wrap64 (r+1))else some c') R→Evt (fun k=>spec_Sizes.l2 k L c Y N r B f (i:Int)) R)∧(∀ R,Evt (fun k=>impl_Sizes.l1 k L c' f') R→Evt (fun k=>impl_Sizes.l2 k L o f c L (L.length:Int) (i:Int)) R):=fun eS eI=>by
      obtain⟨c',f',a1,a2,a3,a4⟩:=ih c f hc (fun j h h' hij=>hj j h h' (by omega)) h1 h2
      refine⟨c',f',a1,a2,fun R hR=>?_,fun R hR=>?_⟩
      · obtain⟨K,hK⟩:=a3 R hR
        refine⟨K+2,fun k hk=>?_⟩
        obtain⟨k,rfl⟩ : ∃ m,k=m+2:=⟨k - 2,by omega⟩
        exact(eS k).trans (hK k (by omega))
      · obtain⟨K,hK⟩:=a4 R hR
        refine⟨K+2,fun k hk=>?_⟩
        obtain⟨k,rfl⟩ : ∃ m,k=m+2:=⟨k - 2,by omega⟩
        exact(eI k).trans (hK k (by omega))
    by_cases ha:3≤L[i].f1.f0∧L[i].f1.f0≤6
    · have hio:i<o.length:=by omega
      have hic:i<c.length:=by omega
      have ec:c[i]=o[i]:=hj i hic hio (Nat.le_refl _)
      by_cases e3:o[i]=3
      · refine skip (fun k=>?_) (fun k=>?_)
        · simp only[spec_Sizes.l2,spec_Sizes.j3]
          rw[if_pos (by omega),if_pos (by omega),nrd_T86 L i hi]
          simp only[askS,Option.bind_some,decide_eq_true_eq]
          rw[if_pos ha,if_pos (by omega),nrdI c i hic,ec,e3,if_pos (by simp),ws]
        · simp only[impl_Sizes.l2,impl_Sizes.j3]
          rw[if_pos (by omega),if_pos (by omega),if_pos (by omega),nrd_T86 L i hi]
          simp only[askI,Option.bind_some,decide_eq_true_eq]
          rw[if_pos ha,if_pos (by omega),nrdI o i hio,e3,if_pos (by simp),ws]
      · have e1:o[i]=1:=(oa i hio hi ha).resolve_right e3
        obtain⟨y,y1,y2,y3,y4,y5⟩:=wayTo (by omega) hS hI hi ha L[i].f2 (.inl rfl)
        obtain⟨z,z1,z2,z3,z4,z5⟩:=wayTo (by omega) hS hI hi ha L[i].f3 (.inr rfl)
        have hY:rd Y (i:Int)=(y:Int):=by rw[nrdI Y i (by omega)];exact(wj i hi (by omega) (by omega)).1 y3 _ y4
        have hN:rd N (i:Int)=(z:Int):=by rw[nrdI N i (by omega)];exact(wj i hi (by omega) (by omega)).2 z3 _ z4
        have ey:=far_eq o B i y hB hb (by omega) o3 hio y1 (by omega) e1
        have ez:=far_eq o B i z hB hb (by omega) o3 hio z1 (by omega) e1
        obtain⟨K1,b1⟩:=betw o (by omega) o3 y (by omega) (y - (i+1)) (i+1) 0 (by omega) (by omega) (by omega)
        obtain⟨K2,b2⟩:=betw o (by omega) o3 z (by omega) (z - (i+1)) (i+1) 0 (by omega) (by omega) (by omega)
        dsimp only at b1 b2
        have g1: ∀ k,K1+L.length<k→impl_between.f k L o (i:Int) L[i].f2=some (pre o y - pre o (i+1)):=fun k hk=>by
          simp only[impl_between.f,y5 k (by omega),Option.bind_some,ws,b1 k (by omega)]
          exact congrArg some (by omega)
        have g2: ∀ k,K2+L.length<k→impl_between.f k L o (i:Int) L[i].f3=some (pre o z - pre o (i+1)):=fun k hk=>by
          simp only[impl_between.f,z5 k (by omega),Option.bind_some,ws,b2 k (by omega)]
          exact congrArg some (by omega)
        generalize pre o y - pre o (i+1)=gy at ey g1
        generalize pre o z - pre o (i+1)=gz at ez g2
        have n3: ¬ (rd c (i:Int) == 3)=true:=by rw[nrdI c i hic,ec,e1];simp
        have m3: ¬ (rd o (i:Int) == 3)=true:=by rw[nrdI o i hio,e1];simp
        by_cases far:gy>15∨gz>15
        · have hs:=ones_set c i hic (ec.trans e1)
          obtain⟨c',f',a1,a2,a3,a4⟩:=ih (c.set i 3) true (hc.set i hi ha) (fun j h h' hij=>by
            rw[List.getElem_set_ne (by omega)]
            rw[List.length_set]at h
            exact hj j h h' (by omega)) (by omega) (fun _=>by omega)
          refine⟨c',f',a1,a2,fun R hR=>?_,fun R hR=>?_⟩
          · obtain⟨K,hK⟩:=a3 R hR
            refine⟨K+2,fun k hk=>?_⟩
            obtain⟨k,rfl⟩ : ∃ m,k=m+2:=⟨k - 2,by omega⟩
            simp only[spec_Sizes.l2,spec_Sizes.j3]
            rw[if_pos (by omega),if_pos (by omega),nrd_T86 L i hi]
            simp only[askS,Option.bind_some,decide_eq_true_eq]
            rw[if_pos ha,if_pos (by omega),if_neg n3,if_pos (by omega),if_pos (by omega),hY,if_pos (by omega),if_pos (by omega),if_pos (by omega),ey]
            by_cases q:gy>15
            · rw[if_pos q,if_pos (by omega),ws,Int.toNat_natCast]
              exact hK k (by omega)
            · rw[if_neg q,if_pos (by omega),hN,if_pos (by omega),if_pos (by omega),ez,if_pos (far.resolve_left q),if_pos (by omega),ws,Int.toNat_natCast]
              exact hK k (by omega)
          · obtain⟨K,hK⟩:=a4 R hR
            refine⟨K+K1+K2+L.length+3,fun k hk=>?_⟩
            obtain⟨k,rfl⟩ : ∃ m,k=m+2:=⟨k - 2,by omega⟩
            simp only[impl_Sizes.l2,impl_Sizes.j3]
            rw[if_pos (by omega),if_pos (by omega),if_pos (by omega),nrd_T86 L i hi]
            simp only[askI,Option.bind_some,decide_eq_true_eq]
            rw[if_pos ha,if_pos (by omega),if_neg m3,g1 k (by omega)]
            simp only[Option.bind_some]
            by_cases q:gy>15
            · rw[if_pos q,if_pos (by omega),if_pos (by omega),ws,Int.toNat_natCast]
              exact hK k (by omega)
            · rw[if_neg q,g2 k (by omega)]
              simp only[Option.bind_some]
              rw[if_pos (far.resolve_left q),if_pos (by omega),if_pos (by omega),ws,Int.toNat_natCast]
              exact hK k (by omega)
        · have q1: ¬ gy>15:=fun h=>far (.inl h)
          have q2: ¬ gz>15:=fun h=>far (.inr h)
          obtain⟨c',f',a1,a2,a3,a4⟩:=ih c f hc (fun j h h' hij=>hj j h h' (by omega)) h1 h2
          refine⟨c',f',a1,a2,fun R hR=>?_,fun R hR=>?_⟩
          · obtain⟨K,hK⟩:=a3 R hR
            refine⟨K+2,fun k hk=>?_⟩
            obtain⟨k,rfl⟩ : ∃ m,k=m+2:=⟨k - 2,by omega⟩
            simp only[spec_Sizes.l2,spec_Sizes.j3]
            rw[if_pos (by omega),if_pos (by omega),nrd_T86 L i hi]
            simp only[askS,Option.bind_some,decide_eq_true_eq]
            rw[if_pos ha,if_pos (by omega),if_neg n3,if_pos (by omega),if_pos (by omega),hY,if_pos (by omega),if_pos (by omega),if_pos (by omega),ey,if_neg q1,if_pos (by omega),hN,if_pos (by omega),if_pos (by omega),ez,if_neg q2,ws]
            exact hK k (by omega)
          · obtain⟨K,hK⟩:=a4 R hR
            refine⟨K+K1+K2+L.length+3,fun k hk=>?_⟩
            obtain⟨k,rfl⟩ : ∃ m,k=m+2:=⟨k - 2,by omega⟩
            simp only[impl_Sizes.l2,impl_Sizes.j3]
            rw[if_pos (by omega),if_pos (by omega),if_pos (by omega),nrd_T86 L i hi]
            simp only[askI,Option.bind_some,decide_eq_true_eq]
            rw[if_pos ha,if_pos (by omega),if_neg m3,g1 k (by omega)]
            simp only[Option.bind_some]
            rw[if_neg q1,g2 k (by omega)]
            simp only[Option.bind_some]
            rw[if_neg q2,ws]
            exact hK k (by omega)
    · refine skip (fun k=>?_) (fun k=>?_)
      · simp only[spec_Sizes.l2,spec_Sizes.j3]
        rw[if_pos (by omega),if_pos (by omega),nrd_T86 L i hi]
        simp only[askS,Option.bind_some,decide_eq_true_eq]
        rw[if_neg ha,if_pos trivial,ws]
      · simp only[impl_Sizes.l2,impl_Sizes.j3]
        rw[if_pos (by omega),if_pos (by omega),if_pos (by omega),nrd_T86 L i hi]
        simp only[askI,Option.bind_some,decide_eq_true_eq]
        rw[if_neg ha,if_pos trivial,ws]
theorem rounds (L:List S86) (hn:L.length≤600) (hS:SAll L) (hI:IAll L) (Y N:List Int) (hW:OkW L Y N): ∀ (m:Nat) (o:List Int) (r:Nat),ones o≤m→ones o+r≤L.length→OkS L o→
    ∃ O,OkS L O∧Evt (fun k=>spec_Sizes.l1 k L o Y N (r:Int)) O∧Evt (fun k=>impl_Sizes.l1 k L o true) O:=by
  intro m
  induction m with
  | zero=>
    intro o r hm hr ho
    obtain⟨B,hB,hb,K0,b0⟩:=begins o (by have:=ho.1;omega) ho.2.1
    obtain⟨c,f,hc,hf,h1,h2⟩:=round L hn hS hI o Y N B ho hW hB hb (r:Int)
    cases f with
    | true=>have:=hf rfl;omega
    | false=>
      obtain⟨K1,g1⟩:=h1 c (.const fun _=>by rw[if_neg (by simp)])
      obtain⟨K2,g2⟩:=h2 c (.succ (.const fun k=>by simp only[impl_Sizes.l1];rw[if_neg (by simp)]))
      dsimp only at b0 g1 g2
      refine⟨c,hc,.succ ⟨K0+K1,fun k hk=>?_⟩,.succ ⟨K2,fun k hk=>?_⟩⟩
      · simp only[spec_Sizes.l1]
        rw[if_pos (by omega),b0 k (by omega)]
        exact g1 k (by omega)
      · have e:([] :List Int) ++ o=o:=rfl
        simp only[impl_Sizes.l1,Option.bind_some,if_true]
        rw[if_pos (by have:=ho.1;simp;omega)]
        exact g2 k hk
  | succ m ih=>
    intro o r hm hr ho
    obtain⟨B,hB,hb,K0,b0⟩:=begins o (by have:=ho.1;omega) ho.2.1
    obtain⟨c,f,hc,hf,h1,h2⟩:=round L hn hS hI o Y N B ho hW hB hb (r:Int)
    dsimp only at b0
    have fin: ∀ R,Evt (fun k=>if f=true then spec_Sizes.l1 k L c Y N (wrap64 ((r:Int)+1))else some c) R→Evt (fun k=>impl_Sizes.l1 k L c f) R→Evt (fun k=>spec_Sizes.l1 k L o Y N (r:Int)) R∧Evt (fun k=>impl_Sizes.l1 k L o true) R:=fun R r1 r2=>by
      obtain⟨K1,g1⟩:=h1 R r1
      obtain⟨K2,g2⟩:=h2 R r2
      dsimp only at g1 g2
      refine⟨.succ ⟨K0+K1,fun k hk=>?_⟩,.succ ⟨K2,fun k hk=>?_⟩⟩
      · simp only[spec_Sizes.l1]
        rw[if_pos (by omega),b0 k (by omega)]
        exact g1 k (by omega)
      · simp only[impl_Sizes.l1,Option.bind_some,if_true]
        rw[if_pos (by have:=ho.1;simp;omega)]
        exact g2 k hk
    cases f with
    | true=>
      have hlt:=hf rfl
      obtain⟨O,hO,i1,i2⟩:=ih c (r+1) (by omega) (by omega) hc
      have ew:wrap64 ((r:Int)+1)=((r+1:Nat):Int):=by unfold wrap64;omega
      exact⟨O,hO,fin O (i1.congr fun k=>by rw[if_pos rfl,ew]) i2⟩
    | false=>
      exact⟨c,hc,fin c (.const fun _=>by rw[if_neg (by simp)]) (.succ (.const fun k=>by simp only[impl_Sizes.l1];rw[if_neg (by simp)]))⟩
theorem sizes_l0 (L:List S86) (hn:L.length≤600) (hS:SAll L) (hI:IAll L): ∃ O,OkS L O∧Evt (fun k=>spec_Sizes.l0 k L [] ((0:Nat):Int)) O∧Evt (fun k=>impl_Sizes.l0 k L [] L (L.length:Int) ((0:Nat):Int)) O:=by
  have H: ∀ j (h:j<L.length),L[j].f1.f0=0→PZ L[j]:=fun j h e=>by
    obtain⟨w0,h0⟩:=fstI L (by omega) L[j].f0 0 (by omega)
    obtain⟨w2,h2⟩:=fstI L (by omega) L[j].f2 (j+1) h
    obtain⟨w3,h3⟩:=fstI L (by omega) L[j].f3 (j+1) h
    rcases hI j h w0 w2 w3 h0 h2 h3 with h4|h4
    · exact h4.1
    · exact absurd e h4.1
  refine down (T:=fun i=> ∀ o:List Int,o.length=i→(∀ j (h:j<o.length) (h':j<L.length),(0≤o[j]∧o[j]≤3)∧(3≤L[j].f1.f0∧L[j].f1.f0≤6→o[j]=1∨o[j]=3)∧(¬ (3≤L[j].f1.f0∧L[j].f1.f0≤6)→o[j]=if L[j].f1.f0=0 then 0 else 1))→∃ O,OkS L O∧Evt (fun k=>spec_Sizes.l0 k L o (i:Int)) O∧Evt (fun k=>impl_Sizes.l0 k L o L (L.length:Int) (i:Int)) O) (n:=L.length) ?_ ?_ L.length 0 (by omega) [] rfl (by simp)
  · intro o hl hj
    obtain⟨Y,N,hW,K0,w0⟩:=ways L hn
    have ho:OkS L o:=⟨hl,fun j h=>(hj j h (by omega)).1,fun j h h'=>(hj j h h').2.1,fun j h h'=>(hj j h h').2.2⟩
    obtain⟨O,hO,⟨K1,h1⟩,⟨K2,h2⟩⟩:=rounds L hn hS hI Y N hW (ones o) o 0 (Nat.le_refl _) (by have:=ones_le o;omega) ho
    dsimp only at w0 h1 h2
    refine⟨O,hO,.succ ⟨K0+K1,fun k hk=>?_⟩,.succ ⟨K2,fun k hk=>?_⟩⟩
    · simp only[spec_Sizes.l0]
      rw[if_neg (by omega),w0 k (by omega)]
      exact h1 k (by omega)
    · simp only[impl_Sizes.l0]
      rw[if_neg (by omega)]
      exact h2 k hk
  · intro i hi ih o hl hj
    have ws:=wsucc hi (show L.length≤9223372036854775807 by omega)
    have ext: ∀ v:Int,(0≤v∧v≤3)→(3≤L[i].f1.f0∧L[i].f1.f0≤6→v=1∨v=3)→(¬ (3≤L[i].f1.f0∧L[i].f1.f0≤6)→v=if L[i].f1.f0=0 then 0 else 1)→∃ O,OkS L O∧Evt (fun k=>spec_Sizes.l0 k L (o ++ [v]) ((i+1:Nat):Int)) O∧Evt (fun k=>impl_Sizes.l0 k L (o ++ [v]) L (L.length:Int) ((i+1:Nat):Int)) O:=fun v h1 h2 h3=>by
      refine ih (o ++ [v]) (by simp;omega) (fun j h h'=>?_)
      rcases Nat.lt_or_ge j i with h4|h4
      · rw[List.getElem_append_left (by omega)]
        exact hj j (by omega) h'
      · have:j=i:=by simp at h;omega
        subst this
        have e1:(o ++ [v])[j]=v:=by rw[List.getElem_append_right (by omega)];simp
        rw[e1]
        exact⟨h1,h2,h3⟩
    by_cases hp:L[i].f1.f0=0
    · obtain⟨a,b,c,d⟩:=H i hi hp
      obtain⟨O,hO,⟨K1,h1⟩,⟨K2,h2⟩⟩:=ext 0 (by omega) (fun h=>by omega) (fun _=>by rw[if_pos hp])
      dsimp only at h1 h2
      refine⟨O,hO,.succ ⟨K1,fun k hk=>?_⟩,.succ ⟨K2,fun k hk=>?_⟩⟩
      · simp only[spec_Sizes.l0,spec_l11Place.f]
        rw[if_pos (by omega),if_pos (by omega),nrd_T86 L i hi]
        simp only[Option.bind_some]
        rw[if_pos (by simp[a,b,c,d]),if_pos (by omega),ws]
        exact h1 k hk
      · simp only[impl_Sizes.l0,impl_Line_isPlace.f]
        rw[if_pos (by omega),if_pos (by omega),if_pos (by omega),nrd_T86 L i hi]
        simp only[Option.bind_some]
        rw[if_pos (by simp[hp]),if_pos (by omega),ws]
        exact h2 k hk
    · obtain⟨O,hO,⟨K1,h1⟩,⟨K2,h2⟩⟩:=ext 1 (by omega) (fun _=> .inl rfl) (fun _=>by rw[if_neg hp])
      dsimp only at h1 h2
      refine⟨O,hO,.succ ⟨K1,fun k hk=>?_⟩,.succ ⟨K2,fun k hk=>?_⟩⟩
      · simp only[spec_Sizes.l0,spec_l11Place.f]
        rw[if_pos (by omega),if_pos (by omega),nrd_T86 L i hi]
        simp only[Option.bind_some]
        rw[if_neg (by simp[hp]),if_pos (by omega),ws]
        exact h1 k hk
      · simp only[impl_Sizes.l0,impl_Line_isPlace.f]
        rw[if_pos (by omega),if_pos (by omega),if_pos (by omega),nrd_T86 L i hi]
        simp only[Option.bind_some]
        rw[if_neg (by simp[hp]),if_pos (by omega),ws]
        exact h2 k hk
theorem sizes (L:List S86) (hn:L.length≤1048576): ∃ O:List Int,Evt (fun k=>spec_Sizes.f k L) O∧Evt (fun k=>impl_Sizes.f k L) O∧O.length≤600∧(O≠[]→L.length≤600∧SAll L∧IAll L∧OkS L O∧∃ h:L.length - 1<L.length,L[L.length - 1].f1.f0=8)∧(O= []→L.length=0∨O.length=0):=by
  obtain⟨b,⟨K1,h1⟩,⟨K2,h2⟩,hb⟩:=linesOk L hn
  dsimp only at h1 h2
  cases b with
  | false=>
    refine⟨[],⟨K1,fun k hk=>?_⟩,⟨K2,fun k hk=>?_⟩,by simp,fun h=>absurd rfl h,fun _=> .inr rfl⟩
    · simp only[spec_Sizes.f,h1 k hk,Option.bind_some,Bool.false_eq_true,if_false]
    · simp only[impl_Sizes.f,h2 k hk,Option.bind_some,Bool.false_eq_true,if_false]
  | true=>
    obtain⟨hl,hS,hI,h8⟩:=hb rfl
    obtain⟨O,hO,⟨K3,h3⟩,⟨K4,h4⟩⟩:=sizes_l0 L hl.2 hS hI
    dsimp only at h3 h4
    refine⟨O,⟨K1+K3,fun k hk=>?_⟩,⟨K2+K4,fun k hk=>?_⟩,by have:=hO.1;omega,fun _=>⟨hl.2,hS,hI,hO,h8⟩,fun h=> .inr (by rw[h];rfl)⟩
    · simp only[spec_Sizes.f,h1 k (by omega),Option.bind_some,if_true]
      exact h3 k (by omega)
    · simp only[impl_Sizes.f,h2 k (by omega),Option.bind_some,if_true]
      exact h4 k (by omega)
/-- A jump's way. -/
theorem wayJ {L:List S86} (hn:L.length≤1048576) (hS:SAll L) (hI:IAll L) {i:Nat} (hi:i<L.length) (ha:L[i].f1.f0=7) :
    ∃ y:Nat,i<y∧y<L.length∧L[i].f2.toList≠[]∧(∀ k,L.length<k→spec_l11At.f k L L[i].f2=some (y:Int))∧(∀ k,L.length<k→impl_placeOf.f k L L[i].f2 (i:Int)=some (y:Int)):=by
  have H: ∀ j (h:j<L.length),L[j].f1.f0=0→PZ L[j]:=fun j h e=>by
    obtain⟨w0,h0⟩:=fstI L hn L[j].f0 0 (by omega)
    obtain⟨w2,h2⟩:=fstI L hn L[j].f2 (j+1) h
    obtain⟨w3,h3⟩:=fstI L hn L[j].f3 (j+1) h
    rcases hI j h w0 w2 w3 h0 h2 h3 with h4|h4
    · exact h4.1
    · exact absurd e h4.1
  obtain⟨v,hv,fv⟩:=atS L L[i].f2 hn
  obtain⟨w,hw,fw⟩:=atI L L[i].f2 hn i hi
  have hgt:v>i:=by
    obtain⟨v0,f0⟩:=fstS L hn L[i].f0
    obtain⟨v3,f3⟩:=fstS L hn L[i].f3
    have hl:=hS i hi v0 v v3 f0 fv f3
    have hz: ¬ PZ L[i]:=fun h=>by unfold PZ at h;omega
    rcases hl with h|⟨_,_,_,_,_,_,h|h|h⟩
    · exact absurd h.1 hz
    · exact h.2.2
    · omega
    · exact absurd ha h.1
  rcases fv with⟨m,_,m2,m3,m4,m5⟩|⟨m1,_⟩
  · have hwm:w=(m:Int):=by
      rcases fw with⟨u,u1,u2,u3,u4,u5⟩|⟨_,u2⟩
      · have q1: ¬ m<u:=fun h=>u5 m (by omega) h ((qs_qi H _ m).1 m3)
        have q2: ¬ u<m:=fun h=>m5 u (Nat.zero_le _) h ((qs_qi H _ u).2 u3)
        omega
      · exact absurd ((qs_qi H _ m).1 m3) (u2 m (by omega) m2)
    refine⟨m,by omega,m2,?_,fun k hk=>(hv k hk).trans (by rw[m4]),fun k hk=>(hw k hk).trans (by rw[hwm])⟩
    obtain⟨_,p1,p2⟩:=m3
    obtain⟨v0,f0⟩:=fstS L hn L[m].f0
    obtain⟨v2,f2⟩:=fstS L hn L[m].f2
    obtain⟨v3,f3⟩:=fstS L hn L[m].f3
    rcases hS m m2 v0 v2 v3 f0 f2 f3 with h|h
    · intro e
      rw[← p2]at e
      rw[ByteArray.toList_eq]at e
      have h5:L[m].f0.data.size=0:=by simpa using congrArg List.length e
      have h6:L[m].f0.size=L[m].f0.data.size:=rfl
      have:=h.2.1
      omega
    · exact absurd p1 h.1
  · omega
theorem askZero {L:List S86} (hn:L.length≤1048576) (hS:SAll L) {i:Nat} (hi:i<L.length) (ha: ¬ L[i].f1.f0=0):L[i].f1.f2=0∧L[i].f1.f3=0:=by
  obtain⟨v0,f0⟩:=fstS L hn L[i].f0
  obtain⟨v2,f2⟩:=fstS L hn L[i].f2
  obtain⟨v3,f3⟩:=fstS L hn L[i].f3
  rcases hS i hi v0 v2 v3 f0 f2 f3 with h|h
  · exact absurd h.1.1 ha
  · exact⟨h.2.2.1,h.2.2.2.1⟩
theorem far_gen (o B:List Int) (i y:Nat) (q:Int) (hB:B.length=o.length) (hb: ∀ j (h:j<B.length),B[j]=pre o j) (hn:o.length≤600) (ho: ∀ j (h:j<o.length),0≤o[j]∧o[j]≤3) (hi:i<o.length) (hy:i<y) (hy':y<o.length) (hq:0≤q) (hq':q≤10) :
    wrap64 (wrap64 (rd B (y:Int) - rd B (i:Int)) - q)=pre o y - pre o (i+1)+(o[i] - q):=by
  have b1:=pre_bound ho y (by omega)
  have b2:=pre_bound ho i (by omega)
  have b3:=ho i hi
  rw[nrdI B y (by omega),nrdI B i (by omega),hb y (by omega),hb i (by omega),pre_succ hi]
  rw[w64 (x:=pre o y - pre o i) (by omega) (by omega),w64 (by omega) (by omega)]
  omega
theorem lay_l0 (L:List S86) (hn:L.length≤600) (hS:SAll L) (hI:IAll L) (o Y N B:List Int) (ho:OkS L o) (hW:OkW L Y N) (hB:B.length=o.length) (hb: ∀ j (h:j<B.length),B[j]=pre o j) (h8: ∃ h:L.length - 1<L.length,L[L.length - 1].f1.f0=8) :
    ∃ R:List S71×Bool,R.1.length≤2000∧Evt (fun k=>spec_Layout.l0 k L [] o Y N B [] ((0:Nat):Int)) R∧Evt (fun k=>impl_Layout.l0 k L o [] L (L.length:Int) ((0:Nat):Int)) R:=by
  obtain⟨ol,o3,oa,ok⟩:=ho
  obtain⟨wy,wn,wj⟩:=hW
  refine down (T:=fun i=> ∀ c:List S71,c.length≤3*i→(i=L.length→1≤c.length)→∃ R:List S71×Bool,R.1.length≤2000∧Evt (fun k=>spec_Layout.l0 k L [] o Y N B c (i:Int)) R∧Evt (fun k=>impl_Layout.l0 k L o c L (L.length:Int) (i:Int)) R) (n:=L.length) ?_ ?_ L.length 0 (by omega) [] (by simp) (fun h=>by obtain⟨h,_⟩:=h8;omega)
  · intro c hc h1
    have h1:=h1 rfl
    by_cases hm:(c.length:Int)>400
    · refine⟨([],false),by simp,.succ (.const fun k=>?_),.succ (.const fun k=>?_)⟩
      · simp only[spec_Layout.l0]
        rw[if_neg (by omega),if_pos hm]
      · simp only[impl_Layout.l0,inI,Option.bind_some,decide_eq_true_eq]
        rw[if_neg (by omega),if_neg (by omega)]
    · refine⟨(c,true),by show c.length≤_;omega,.succ (.const fun k=>?_),.succ (.const fun k=>?_)⟩
      · simp only[spec_Layout.l0]
        rw[if_neg (by omega),if_neg hm]
      · simp only[impl_Layout.l0,inI,Option.bind_some,decide_eq_true_eq]
        rw[if_neg (by omega),if_pos (by omega)]
  · intro i hi ih c hc _
    have ws:=wsucc hi (show L.length≤9223372036854775807 by omega)
    have hio:i<o.length:=by omega
    have o0: ¬ (o.length:Int)=0:=by omega
    by_cases hp:L[i].f1.f0=0
    · have e0:o[i]=0:=by rw[ok i hio hi (by omega),if_pos hp]
      obtain⟨R,hR,⟨K1,g1⟩,⟨K2,g2⟩⟩:=ih c (by omega) (fun h=>by
        obtain⟨h,e⟩:=h8
        have e2:L.length - 1=i:=by omega
        have e3:L[i].f1.f0=8:=by simpa only[e2] using e
        omega)
      dsimp only at g1 g2
      refine⟨R,hR,.succ ⟨K1,fun k hk=>?_⟩,.succ ⟨K2,fun k hk=>?_⟩⟩
      · simp only[spec_Layout.l0]
        rw[if_pos (by omega),if_pos (by omega),if_pos (by omega),nrdI o i hio,if_pos e0,ws]
        exact g1 k hk
      · simp only[impl_Layout.l0,impl_Line_isPlace.f]
        rw[if_pos (by omega),if_pos (by omega),if_pos (by omega),if_neg o0,nrd_T86 L i hi]
        simp only[Option.bind_some]
        rw[if_pos (by simp[hp]),ws]
        exact g2 k hk
    have hz:=askZero (by omega) hS hi hp
    have hnp: ¬ (L[i].f1.f0 == 0)=true:=by simpa using hp
    by_cases c7:L[i].f1.f0=7
    · have e1:o[i]=1:=by rw[ok i hio hi (by omega),if_neg hp]
      obtain⟨y,y1,y2,y3,y4,y5⟩:=wayJ (by omega) hS hI hi c7
      have hY:rd Y (i:Int)=(y:Int):=by rw[nrdI Y i (by omega)];exact(wj i hi (by omega) (by omega)).1 y3 _ y4
      have ey:=far_gen o B i y 1 hB hb (by omega) o3 hio y1 (by omega) (by omega) (by omega)
      rw[e1]at ey
      obtain⟨K0,b1⟩:=betw o (by omega) o3 y (by omega) (y - (i+1)) (i+1) 0 (by omega) (by omega) (by omega)
      dsimp only at b1
      have gI: ∀ k,K0+L.length<k→impl_between.f k L o (i:Int) L[i].f2=some (pre o y - pre o (i+1)):=fun k hk=>by
        simp only[impl_between.f,y5 k (by omega),Option.bind_some,ws,b1 k (by omega)]
        exact congrArg some (by omega)
      generalize pre o y - pre o (i+1)=gy at ey gI
      have ey':wrap64 (wrap64 (rd B (y:Int) - rd B (i:Int)) - 1)=gy:=by rw[ey];omega
      obtain⟨R,hR,⟨K1,g1⟩,⟨K2,g2⟩⟩:=ih (c ++ [⟨L[i].f1.f0,gy,L[i].f1.f2,L[i].f1.f3⟩]) (by simp;omega) (fun _=>by simp)
      dsimp only at g1 g2
      refine⟨R,hR,.succ ⟨K1,fun k hk=>?_⟩,.succ ⟨K2+K0+L.length+1,fun k hk=>?_⟩⟩
      · simp only[spec_Layout.l0]
        rw[if_pos (by omega),if_pos (by omega),if_pos (by omega),nrdI o i hio,if_neg (by omega),if_neg (by omega),nrd_T86 L i hi,if_pos c7,if_pos (by omega),hY,if_pos (by omega),if_pos (by omega),if_pos (by omega),if_pos (by omega),ey',ws]
        exact g1 k hk
      · simp only[impl_Layout.l0,impl_Line_isPlace.f]
        rw[if_pos (by omega),if_pos (by omega),if_pos (by omega),if_neg o0,nrd_T86 L i hi]
        simp only[Option.bind_some]
        rw[if_neg hnp,if_pos c7,gI k (by omega)]
        simp only[Option.bind_some]
        rw[if_pos (by omega),ws]
        exact g2 k (by omega)
    by_cases ha:3≤L[i].f1.f0∧L[i].f1.f0≤6
    · obtain⟨y,y1,y2,y3,y4,y5⟩:=wayTo (by omega) hS hI hi ha L[i].f2 (.inl rfl)
      obtain⟨z,z1,z2,z3,z4,z5⟩:=wayTo (by omega) hS hI hi ha L[i].f3 (.inr rfl)
      have hY:rd Y (i:Int)=(y:Int):=by rw[nrdI Y i (by omega)];exact(wj i hi (by omega) (by omega)).1 y3 _ y4
      have hN:rd N (i:Int)=(z:Int):=by rw[nrdI N i (by omega)];exact(wj i hi (by omega) (by omega)).2 z3 _ z4
      have ey:=fun q=>far_gen o B i y q hB hb (by omega) o3 hio y1 (by omega)
      have ez:=fun q=>far_gen o B i z q hB hb (by omega) o3 hio z1 (by omega)
      obtain⟨K0,b1⟩:=betw o (by omega) o3 y (by omega) (y - (i+1)) (i+1) 0 (by omega) (by omega) (by omega)
      obtain⟨K9,b2⟩:=betw o (by omega) o3 z (by omega) (z - (i+1)) (i+1) 0 (by omega) (by omega) (by omega)
      have p1:=pre_bound o3 y (by omega)
      have p2:=pre_bound o3 (i+1) (by omega)
      dsimp only at b1 b2
      have gI: ∀ k,K0+L.length<k→impl_between.f k L o (i:Int) L[i].f2=some (pre o y - pre o (i+1)):=fun k hk=>by
        simp only[impl_between.f,y5 k (by omega),Option.bind_some,ws,b1 k (by omega)]
        exact congrArg some (by omega)
      have gJ: ∀ k,K9+L.length<k→impl_between.f k L o (i:Int) L[i].f3=some (pre o z - pre o (i+1)):=fun k hk=>by
        simp only[impl_between.f,z5 k (by omega),Option.bind_some,ws,b2 k (by omega)]
        exact congrArg some (by omega)
      have hgy:wrap64 (pre o y - pre o (i+1)+1)=pre o y - pre o (i+1)+1:=w64 (by omega) (by omega)
      generalize pre o y - pre o (i+1)=gy at ey gI hgy
      generalize pre o z - pre o (i+1)=gz at ez gJ
      rcases oa i hio hi ha with e1|e3
      · have ey':wrap64 (wrap64 (rd B (y:Int) - rd B (i:Int)) - 1)=gy:=by rw[ey 1 (by omega) (by omega),e1];omega
        have ez':wrap64 (wrap64 (rd B (z:Int) - rd B (i:Int)) - 1)=gz:=by rw[ez 1 (by omega) (by omega),e1];omega
        obtain⟨R,hR,⟨K1,g1⟩,⟨K2,g2⟩⟩:=ih (c ++ [⟨L[i].f1.f0,L[i].f1.f1,gy,gz⟩]) (by simp;omega) (fun _=>by simp)
        dsimp only at g1 g2
        refine⟨R,hR,.succ ⟨K1,fun k hk=>?_⟩,⟨K2+K0+K9+L.length+3,fun k hk=>?_⟩⟩
        · simp only[spec_Layout.l0]
          rw[if_pos (by omega),if_pos (by omega),if_pos (by omega),nrdI o i hio,if_neg (by omega),if_neg (by omega),nrd_T86 L i hi,if_neg c7]
          simp only[askS,Option.bind_some,decide_eq_true_eq]
          rw[if_pos ha,if_pos (by omega),hY,if_pos (by omega),if_pos (by omega),if_pos (by omega),if_pos (by omega),hN,if_pos (by omega),if_pos (by omega),if_pos (by omega),ey',ez',ws]
          exact g1 k hk
        · obtain⟨k,rfl⟩ : ∃ m,k=m+2:=⟨k - 2,by omega⟩
          simp only[impl_Layout.l0,impl_Line_isPlace.f,impl_Layout.j1]
          rw[if_pos (by omega),if_pos (by omega),if_pos (by omega),if_neg o0,nrd_T86 L i hi]
          simp only[Option.bind_some,askI,decide_eq_true_eq]
          rw[if_neg hnp,if_neg c7,if_pos ha,if_pos (by omega),nrdI o i hio,e1,if_neg (by simp),if_pos ha,gI k (by omega)]
          simp only[Option.bind_some]
          rw[gJ k (by omega)]
          simp only[Option.bind_some]
          rw[if_pos (by omega),ws]
          exact g2 k (by omega)
      · have ey':wrap64 (wrap64 (rd B (y:Int) - rd B (i:Int)) - 2)=gy+1:=by rw[ey 2 (by omega) (by omega),e3];omega
        have ez':wrap64 (wrap64 (rd B (z:Int) - rd B (i:Int)) - 3)=gz:=by rw[ez 3 (by omega) (by omega),e3];omega
        obtain⟨R,hR,⟨K1,g1⟩,⟨K2,g2⟩⟩:=ih (c ++ [⟨L[i].f1.f0,L[i].f1.f1,0,1⟩,⟨7,gy+1,0,0⟩,⟨7,gz,0,0⟩]) (by simp;omega) (fun _=>by simp)
        dsimp only at g1 g2
        refine⟨R,hR,.succ ⟨K1,fun k hk=>?_⟩,⟨K2+K0+K9+L.length+3,fun k hk=>?_⟩⟩
        · simp only[spec_Layout.l0]
          rw[if_pos (by omega),if_pos (by omega),if_pos (by omega),nrdI o i hio,if_neg (by omega),if_pos e3,if_pos (by omega),hY,if_pos (by omega),if_pos (by omega),if_pos (by omega),if_pos (by omega),hN,if_pos (by omega),if_pos (by omega),nrd_T86 L i hi,ey',ez',hz.1]
          simp only[Option.bind_some]
          rw[if_pos (by simp;omega),ws]
          exact g1 k hk
        · obtain⟨k,rfl⟩ : ∃ m,k=m+2:=⟨k - 2,by omega⟩
          simp only[impl_Layout.l0,impl_Line_isPlace.f,impl_Layout.j1]
          rw[if_pos (by omega),if_pos (by omega),if_pos (by omega),if_neg o0,nrd_T86 L i hi]
          simp only[Option.bind_some,askI,decide_eq_true_eq]
          rw[if_neg hnp,if_neg c7,if_pos ha,if_pos (by omega),nrdI o i hio,e3,if_pos (by simp),gI k (by omega)]
          simp only[Option.bind_some]
          rw[gJ k (by omega)]
          simp only[Option.bind_some]
          rw[if_pos (by simp;omega),hgy,ws]
          exact g2 k (by omega)
    · have e1:o[i]=1:=by rw[ok i hio hi ha,if_neg hp]
      obtain⟨R,hR,⟨K1,g1⟩,⟨K2,g2⟩⟩:=ih (c ++ [⟨L[i].f1.f0,L[i].f1.f1,L[i].f1.f2,L[i].f1.f3⟩]) (by simp;omega) (fun _=>by simp)
      dsimp only at g1 g2
      refine⟨R,hR,.succ ⟨K1,fun k hk=>?_⟩,⟨K2+2,fun k hk=>?_⟩⟩
      · simp only[spec_Layout.l0]
        rw[if_pos (by omega),if_pos (by omega),if_pos (by omega),nrdI o i hio,if_neg (by omega),if_neg (by omega),nrd_T86 L i hi,if_neg c7]
        simp only[askS,Option.bind_some,decide_eq_true_eq]
        rw[if_neg ha,if_pos (by omega),ws]
        exact g1 k hk
      · obtain⟨k,rfl⟩ : ∃ m,k=m+2:=⟨k - 2,by omega⟩
        simp only[impl_Layout.l0,impl_Line_isPlace.f,impl_Layout.j1]
        rw[if_pos (by omega),if_pos (by omega),if_pos (by omega),if_neg o0,nrd_T86 L i hi]
        simp only[Option.bind_some,askI,decide_eq_true_eq]
        rw[if_neg hnp,if_neg c7,if_neg ha,if_neg (by simp),if_neg ha,if_pos (by omega),ws]
        exact g2 k (by omega)
theorem layout (L:List S86) (hn:L.length≤1048576): ∃ R:List S71×Bool,R.1.length≤2000∧Evt (fun k=>spec_Layout.f k L) R∧Evt (fun k=>impl_Layout.f k L) R:=by
  obtain⟨O,⟨K1,h1⟩,⟨K2,h2⟩,hO,hne,_⟩:=sizes L hn
  dsimp only at h1 h2
  by_cases he:O= []
  · subst he
    refine⟨([],false),by simp,⟨K1,fun k hk=>?_⟩,⟨K2+1,fun k hk=>?_⟩⟩
    · simp only[spec_Layout.f,h1 k hk,Option.bind_some,List.length_nil]
      rw[if_pos (by omega)]
    · obtain⟨k,rfl⟩ : ∃ m,k=m+1:=⟨k - 1,by omega⟩
      simp only[impl_Layout.f,h2 (k+1) (by omega),Option.bind_some,impl_Layout.l0]
      by_cases hl:(0:Int)<(L.length:Int)
      · rw[if_pos hl,if_pos (by omega),if_pos hl,if_pos (by simp)]
      · rw[if_neg hl]
        simp only[inI,Option.bind_some,decide_eq_true_eq]
        rw[if_neg (by simp)]
  · obtain⟨hl,hS,hI,ho,h8⟩:=hne he
    obtain⟨Y,N,hW,K3,h3⟩:=ways L hl
    obtain⟨B,hB,hb,K4,h4⟩:=begins O (by omega) ho.2.1
    obtain⟨R,hR,⟨K5,h5⟩,⟨K6,h6⟩⟩:=lay_l0 L hl hS hI O Y N B ho hW hB hb h8
    dsimp only at h3 h4 h5 h6
    have hpos: ¬ (O.length:Int)=0:=fun h=>he (List.eq_nil_of_length_eq_zero (by omega))
    refine⟨R,hR,⟨K1+K3+K4+K5,fun k hk=>?_⟩,⟨K2+K6,fun k hk=>?_⟩⟩
    · simp only[spec_Layout.f,h1 k (by omega),h3 k (by omega),h4 k (by omega),Option.bind_some,if_neg hpos]
      exact h5 k (by omega)
    · simp only[impl_Layout.f,h2 k (by omega),Option.bind_some]
      exact h6 k (by omega)
theorem actS (a b:Int):Tot (fun _=>spec_l09Act.f a b):=by
  refine⟨decide ((0≤a∧a≤5)∧(0≤b∧b≤65535)),.const fun k=>?_⟩
  unfold spec_l09Act.f
  simp only[inS,Option.bind_some,decide_eq_true_eq]
  split
  · rename_i h
    exact congrArg some (by rw[Bool.eq_iff_iff];simp[h])
  · rename_i h
    exact congrArg some (by rw[Bool.eq_iff_iff];simp[h])
/-- A rule's second loop, and its end. -/
theorem rule_l1 (x:List Int) (l:List S118) (a b:Int) (hn:l.length≤4611686018427387904): ∃ r,(r=true→x.length≤4∧l.length≤3)∧Evt (fun k=>spec_l09Rule.l1 k 0 x l a b) r∧Evt (fun k=>impl_ruleOk.l1 k l (l.length:Int) 0 x l a b) r:=by
  refine down (T:=fun i=> ∃ r,(r=true→x.length≤4∧l.length≤3)∧Evt (fun k=>spec_l09Rule.l1 k (i:Int) x l a b) r∧Evt (fun k=>impl_ruleOk.l1 k l (l.length:Int) (i:Int) x l a b) r) (n:=l.length) ?_ ?_ l.length 0 (by omega)
  · obtain⟨v,K,hv⟩:=actS a b
    dsimp only at hv
    have hv0:=hv K (Nat.le_refl _)
    have hv1:impl_actionOk.f a b=some v:=hv0
    refine⟨if(x.length:Int)≤4 then(if(l.length:Int)≤3 then v else false)else false,fun hr=>by(repeat' split at hr) <;> first|(cases hr;done)|omega,.succ (.const fun k=>?_),.succ (.const fun k=>?_)⟩
    · simp only[spec_l09Rule.l1]
      rw[if_neg (by omega),hv0]
      simp only[Option.bind_some]
      repeat' split
      all_goals rfl
    · simp only[impl_ruleOk.l1]
      rw[if_neg (by omega),hv1]
      simp only[Option.bind_some]
      repeat' split
      all_goals rfl
  · intro i hi ih
    obtain⟨r,hr,⟨K1,h1⟩,⟨K2,h2⟩⟩:=ih
    dsimp only at h1 h2
    obtain⟨q,e,e'⟩ : ∃ q,spec_CondOk.f l[i].f0 l[i].f1.f0 l[i].f1.f1 l[i].f2 l[i].f3.f0 l[i].f3.f1=some q∧impl_CondOk.f l[i].f0 l[i].f1.f0 l[i].f1.f1 l[i].f2 l[i].f3.f0 l[i].f3.f1=some q:=⟨_,condS _ _ _ _ _ _,condI _ _ _ _ _ _⟩
    refine⟨if q=true then r else false,fun e=>hr (by revert e;cases q <;> simp),.succ ⟨K1,fun k hk=>?_⟩,.succ ⟨K2,fun k hk=>?_⟩⟩
    · simp only[spec_l09Rule.l1]
      rw[if_pos (by omega),if_pos (by omega),nrd_T118 l i hi,e,wsucc hi (by omega)]
      simp only[Option.bind_some]
      rw[h1 k (by omega)]
      split <;> rfl
    · simp only[impl_ruleOk.l1]
      rw[if_pos (by omega),if_pos (by omega),if_pos (by omega),nrd_T118 l i hi,e',wsucc hi (by omega)]
      simp only[Option.bind_some]
      rw[h2 k (by omega)]
      split <;> rfl
theorem rule (x:List Int) (l:List S118) (a b:Int) (hx:x.length≤4611686018427387904) (hn:l.length≤4611686018427387904): ∃ r,(r=true→x.length≤4∧l.length≤3)∧Evt (fun k=>spec_l09Rule.f k x l a b) r∧Evt (fun k=>impl_ruleOk.f k x l a b) r:=by
  refine down (T:=fun i=> ∃ r,(r=true→x.length≤4∧l.length≤3)∧Evt (fun k=>spec_l09Rule.l0 k (i:Int) x l a b) r∧Evt (fun k=>impl_ruleOk.l0 k x (x.length:Int) (i:Int) x l a b) r) (n:=x.length) ?_ ?_ x.length 0 (by omega)
  · obtain⟨r,hr,⟨K1,h1⟩,⟨K2,h2⟩⟩:=rule_l1 x l a b hn
    dsimp only at h1 h2
    refine⟨r,hr,.succ ⟨K1,fun k hk=>?_⟩,.succ ⟨K2,fun k hk=>?_⟩⟩
    · simp only[spec_l09Rule.l0]
      rw[if_neg (by omega)]
      exact h1 k hk
    · simp only[impl_ruleOk.l0]
      rw[if_neg (by omega)]
      exact h2 k hk
  · intro i hi ih
    obtain⟨r,hr,⟨K1,h1⟩,⟨K2,h2⟩⟩:=ih
    dsimp only at h1 h2
    obtain⟨q,e,e'⟩ : ∃ q,spec_HalfOk.f x[i]=some q∧impl_HalfOk.f x[i]=some q:=⟨_,halfS _,halfI _⟩
    have ew:0<i→wrap64 ((i:Int) - 1)=((i - 1:Nat):Int):=fun h=>by rw[w64 (by omega) (by omega)];omega
    refine⟨if q=true then(if 0<i∧rd x (wrap64 ((i:Int) - 1))≥x[i]then false else r)else false,fun e=>hr (by(repeat' split at e) <;> first|(cases e;done)|exact e),.succ ⟨K1,fun k hk=>?_⟩,.succ ⟨K2,fun k hk=>?_⟩⟩
    · simp only[spec_l09Rule.l0]
      rw[if_pos (by omega),if_pos (by omega),nrd x i hi,e,wsucc hi (by omega)]
      simp only[Option.bind_some]
      by_cases h0:0<i
      · have h9:=ew h0
        rw[h9,if_pos (show(i:Int)>0 by omega),if_pos (show(0:Int)≤((i - 1:Nat):Int) by omega),if_pos (show((i - 1:Nat):Int)<(x.length:Int) by omega),h1 k (by omega)]
        simp only[h0,true_and]
        repeat' split
        all_goals rfl
      · rw[if_neg (show ¬ (i:Int)>0 by omega),h1 k (by omega)]
        simp only[h0,false_and,if_false]
        split <;> rfl
    · simp only[impl_ruleOk.l0]
      rw[if_pos (by omega),if_pos (by omega),if_pos (by omega),nrd x i hi,e',wsucc hi (by omega)]
      simp only[Option.bind_some]
      by_cases h0:0<i
      · have h9:=ew h0
        rw[h9,if_pos (show(i:Int)>0 by omega),if_pos (show(0:Int)≤((i - 1:Nat):Int) by omega),if_pos (show((i - 1:Nat):Int)<(x.length:Int) by omega),h2 k (by omega)]
        simp only[h0,true_and]
        repeat' split
        all_goals rfl
      · rw[if_neg (show ¬ (i:Int)>0 by omega),h2 k (by omega)]
        simp only[h0,false_and,if_false]
        split <;> rfl
theorem pol (a b c:Int) (l:List S78) (hn:l.length≤4611686018427387904) (hl: ∀ y ∈ l,y.f0.length≤4611686018427387904∧y.f1.length≤4611686018427387904): ∃ r,(r=true→l.length≤10∧∀ y ∈ l,y.f0.length≤4∧y.f1.length≤3)∧Evt (fun k=>spec_PolicyOk.f k a b c l) r∧Evt (fun k=>impl_PolicyOk.f k a b c l) r:=by
  suffices h: ∃ r,(r=true→l.length≤10∧∀ j (h:j<l.length),0≤j→l[j].f0.length≤4∧l[j].f1.length≤3)∧Evt (fun k=>spec_PolicyOk.l0 k 0 a b c l) r∧Evt (fun k=>impl_PolicyOk.l0 k l (l.length:Int) 0 a b c l) r by
    obtain⟨r,hr,h1,h2⟩:=h
    refine⟨r,fun e=>⟨(hr e).1,fun y hy=>?_⟩,h1,h2⟩
    obtain⟨j,hj,rfl⟩:=List.getElem_of_mem hy
    exact(hr e).2 j hj (Nat.zero_le _)
  refine down (T:=fun i=> ∃ r,(r=true→l.length≤10∧∀ j (h:j<l.length),i≤j→l[j].f0.length≤4∧l[j].f1.length≤3)∧Evt (fun k=>spec_PolicyOk.l0 k (i:Int) a b c l) r∧Evt (fun k=>impl_PolicyOk.l0 k l (l.length:Int) (i:Int) a b c l) r) (n:=l.length) ?_ ?_ l.length 0 (by omega)
  · obtain⟨v,K,hv⟩:=actS b c
    dsimp only at hv
    have hv0:=hv K (Nat.le_refl _)
    have hv1:impl_actionOk.f b c=some v:=hv0
    refine⟨if decide (0≤a∧a≤4294967295)=true then(if v=true then decide ((l.length:Int)≤10)else false)else false,fun e=>by(repeat' split at e) <;> first|(cases e;done)|(have:=of_decide_eq_true e;exact⟨by omega,fun j hj h=>absurd hj (by omega)⟩),.succ (.const fun k=>?_),.succ (.const fun k=>?_)⟩
    · simp only[spec_PolicyOk.l0]
      rw[if_neg (by omega),halfS,hv0]
      simp only[Option.bind_some]
      repeat' split
      all_goals rfl
    · simp only[impl_PolicyOk.l0]
      rw[if_neg (by omega),halfI,hv1]
      simp only[Option.bind_some]
      repeat' split
      all_goals rfl
  · intro i hi ih
    obtain⟨r,hr,⟨K1,h1⟩,⟨K2,h2⟩⟩:=ih
    have hb:=hl _ (List.getElem_mem hi)
    obtain⟨q,hq,⟨K3,h3⟩,⟨K4,h4⟩⟩:=rule l[i].f0 l[i].f1 l[i].f2 l[i].f3 hb.1 hb.2
    dsimp only at h1 h2 h3 h4
    refine⟨if q=true then r else false,fun e=>by
      have e1:q=true:=by revert e;cases q <;> simp
      have e2:r=true:=by revert e;cases q <;> simp
      refine⟨(hr e2).1,fun j hj hij=>?_⟩
      rcases Nat.eq_or_lt_of_le hij with rfl|hlt
      · exact hq e1
      · exact(hr e2).2 j hj hlt,.succ ⟨K1+K3,fun k hk=>?_⟩,.succ ⟨K2+K4,fun k hk=>?_⟩⟩
    · simp only[spec_PolicyOk.l0]
      rw[if_pos (by omega),if_pos (by omega),nrd_T78 l i hi,h3 k (by omega),wsucc hi (by omega)]
      simp only[Option.bind_some]
      rw[h1 k (by omega)]
      split <;> rfl
    · simp only[impl_PolicyOk.l0]
      rw[if_pos (by omega),if_pos (by omega),if_pos (by omega),nrd_T78 l i hi,h4 k (by omega),wsucc hi (by omega)]
      simp only[Option.bind_some]
      rw[h2 k (by omega)]
      split <;> rfl
theorem sumLe (g:S78→Nat) (m:Nat): ∀ R:List S78,(∀ y ∈ R,g y≤m)→(R.map g).sum≤m*R.length
  | [],_=>by simp
  | y :: R,h=>by
    have h1:=sumLe g m R fun z hz=>h z (List.mem_cons_of_mem _ hz)
    have h2:=h y (List.mem_cons_self ..)
    rw[List.map_cons,List.sum_cons,List.length_cons,Nat.mul_succ]
    omega
/-- The lines of a right policy: the same on both sides, and not many. -/
theorem compLines (a b c:Int) (R:List S78) (hR:R.length≤10) (hb: ∀ y ∈ R,y.f0.length≤4∧y.f1.length≤3): ∃ O:List S86,O.length≤1048576∧Evt (fun k=>spec_PolicyLines.f k a b c R) O∧Evt (fun k=>impl_PolicyLines.f k a b c R) O:=by
  have hb2: ∀ y ∈ R,y.f0.length≤1048576∧y.f1.length≤1048576:=fun y hy=>by have:=hb y hy;omega
  have hR2:R.length≤1048576:=by omega
  have s0:=sumLe (fun y=>y.f0.length) 4 R fun y hy=>(hb y hy).1
  have s1:=sumLe (fun y=>y.f1.length) 3 R fun y hy=>(hb y hy).2
  obtain⟨N,_,hN,_,_,⟨K1,h1⟩,⟨K2,h2⟩⟩:=numsOf a b c R hR2 (fun y hy=>(hb2 y hy).1)
  generalize hc:(R.map (fun y=>y.f1.length)).sum=cc at s1
  generalize hn:(R.map (fun y=>y.f0.length)).sum=nn at s0 hN
  have hlv:=leaves cc N.length (by omega)
  obtain⟨O,hO,⟨K3,h3⟩,⟨K4,h4⟩⟩:=tree a b c R (10*cc+53) (by omega) (fun n t s hs=>chainB a b c n R t s hR2 hb2 hs (10*cc+52) (by omega) (by rw[hc];omega)) N.length N (⟨#[116]⟩ :ByteArray) (Nat.le_refl _) (by show 1+N.length≤_;omega) hlv
  have hm:(2*(10*cc+53)+6)*N.length≤712*40:=Nat.mul_le_mul (by omega) (by omega)
  have hO2:O.length≤30000:=by rcases hO with hO|hO <;> omega
  dsimp only at h1 h2 h3 h4
  refine⟨[lw 1 1,la 3 a (⟨#[112]⟩ :ByteArray) (⟨#[113]⟩ :ByteArray),lp (⟨#[113]⟩ :ByteArray),lw 8 0,lp (⟨#[112]⟩ :ByteArray),lw 1 0] ++ O,by simp;omega,⟨K1+K3,fun k hk=>?_⟩,⟨K2+K4,fun k hk=>?_⟩⟩
  · dsimp only
    rw[spec_PolicyLines.f]
    simp only[spec_l11Word.f,spec_l11Asks.f,Option.bind_some,h1 k (by omega),h3 k (by omega)]
    rw[if_pos (by simp only[List.length_cons,List.length_nil];omega)]
    rfl
  · dsimp only
    rw[impl_PolicyLines.f]
    simp only[impl_word.f,impl_ask.f,impl_place.f,Option.bind_some,h2 k (by omega),h4 k (by omega)]
    rw[if_pos (by simp only[List.length_cons,List.length_nil];omega)]
    rfl
/-- A policy made a program: the same on both sides. -/
theorem compile (a b c:Int) (R:List S78) (hn:R.length≤4611686018427387904) (hl: ∀ y ∈ R,y.f0.length≤4611686018427387904∧y.f1.length≤4611686018427387904): ∃ L e,L.length≤2000∧Evt (fun k=>spec_Compile.f k a b c R) (L,e)∧Evt (fun k=>impl_Compile.f k a b c R) (L,e):=by
  obtain⟨r,hr,⟨K1,h1⟩,⟨K2,h2⟩⟩:=pol a b c R hn hl
  dsimp only at h1 h2
  cases r
  · refine⟨[],1,by simp,⟨K1,fun k hk=>?_⟩,⟨K2,fun k hk=>?_⟩⟩
    · dsimp only
      simp only[spec_Compile.f,h1 k hk,Option.bind_some]
      rfl
    · dsimp only
      simp only[impl_Compile.f,h2 k hk,Option.bind_some]
      rfl
  obtain⟨hR,hb⟩:=hr rfl
  obtain⟨O,hO,⟨K3,h3⟩,⟨K4,h4⟩⟩:=compLines a b c R hR hb
  obtain⟨⟨P,q⟩,hP,⟨K5,h5⟩,⟨K6,h6⟩⟩:=layout O hO
  dsimp only at h3 h4 h5 h6 hP
  by_cases hb:(O.length:Int)>600
  · refine⟨[],2,by simp,⟨K1+K3,fun k hk=>?_⟩,⟨K2+K4+K6,fun k hk=>?_⟩⟩
    · dsimp only
      simp only[spec_Compile.f,h1 k (by omega),h3 k (by omega),Option.bind_some,if_pos hb]
      rfl
    · dsimp only
      simp only[impl_Compile.f,h2 k (by omega),h4 k (by omega),h6 k (by omega),Option.bind_some,if_pos hb]
      rfl
  cases q
  · refine⟨[],2,by simp,⟨K1+K3+K5,fun k hk=>?_⟩,⟨K2+K4+K6,fun k hk=>?_⟩⟩
    · dsimp only
      simp only[spec_Compile.f,h1 k (by omega),h3 k (by omega),h5 k (by omega),Option.bind_some,if_neg hb]
      rfl
    · dsimp only
      simp only[impl_Compile.f,h2 k (by omega),h4 k (by omega),h6 k (by omega),Option.bind_some,if_neg hb]
      rfl
  · refine⟨P,0,hP,⟨K1+K3+K5,fun k hk=>?_⟩,⟨K2+K4+K6,fun k hk=>?_⟩⟩
    · dsimp only
      simp only[spec_Compile.f,h1 k (by omega),h3 k (by omega),h5 k (by omega),Option.bind_some,if_neg hb]
      rfl
    · dsimp only
      simp only[impl_Compile.f,h2 k (by omega),h4 k (by omega),h6 k (by omega),Option.bind_some,if_neg hb]
      rfl
/-- The lines of a policy: the same on both sides. -/
theorem polLines (a b c:Int) (R:List S78) (hR:R.length≤1048576) (hb: ∀ y ∈ R,y.f0.length≤1048576∧y.f1.length≤1048576) (hK:6*(R.map (fun y=>y.f1.length)).sum+(R.map (fun y=>y.f0.length)).sum≤1048576): ∃ O:List S86,6≤O.length∧O.length≤1750000000000∧Evt (fun k=>spec_PolicyLines.f k a b c R) O∧Evt (fun k=>impl_PolicyLines.f k a b c R) O:=by
  obtain⟨N,_,hN,_,_,⟨K1,h1⟩,⟨K2,h2⟩⟩:=numsOf a b c R hR (fun y hy=>(hb y hy).1)
  generalize hc:(R.map (fun y=>y.f1.length)).sum=cc at hK
  have hlv:=leaves cc N.length (by omega)
  obtain⟨O,hO,⟨K3,h3⟩,⟨K4,h4⟩⟩:=tree a b c R (10*cc+53) (by omega) (fun n t s hs=>chainB a b c n R t s hR hb hs (10*cc+52) (by omega) (by rw[hc];omega)) N.length N (⟨#[116]⟩ :ByteArray) (Nat.le_refl _) (by show 1+N.length≤_;omega) hlv
  have hO2:O.length≤1700000000000:=by rcases hO with hO|hO <;> omega
  dsimp only at h1 h2 h3 h4
  refine⟨[lw 1 1,la 3 a (⟨#[112]⟩ :ByteArray) (⟨#[113]⟩ :ByteArray),lp (⟨#[113]⟩ :ByteArray),lw 8 0,lp (⟨#[112]⟩ :ByteArray),lw 1 0] ++ O,by simp only[List.length_append,List.length_cons,List.length_nil];omega,by simp only[List.length_append,List.length_cons,List.length_nil];omega,⟨K1+K3,fun k hk=>?_⟩,⟨K2+K4,fun k hk=>?_⟩⟩
  · dsimp only
    rw[spec_PolicyLines.f]
    simp only[spec_l11Word.f,spec_l11Asks.f,Option.bind_some,h1 k (by omega),h3 k (by omega)]
    rw[if_pos (by simp only[List.length_cons,List.length_nil];omega)]
    rfl
  · dsimp only
    rw[impl_PolicyLines.f]
    simp only[impl_word.f,impl_ask.f,impl_place.f,Option.bind_some,h2 k (by omega),h4 k (by omega)]
    rw[if_pos (by simp only[List.length_cons,List.length_nil];omega)]
    rfl
theorem and255 (x:Int):0≤Go.bits .and .i64 x 255∧Go.bits .and .i64 x 255≤255:=by
  have h:((BitVec.ofInt IntKind.i64.bits x) &&& (BitVec.ofInt IntKind.i64.bits 255)).toNat≤255:=by
    rw[BitVec.toNat_and]
    exact Nat.le_trans Nat.and_le_right (by decide)
  have e:Go.bits .and .i64 x 255=IntKind.i64.wrap ((((BitVec.ofInt IntKind.i64.bits x) &&& (BitVec.ofInt IntKind.i64.bits 255)).toNat:Nat):Int):=rfl
  rw[e,IntKind.wrap_i64]
  omega
theorem byte {s:List Int} (hs:s.length≤1048576) (p e:Int) (hp:0≤p): ∃ b p' e',spec_l01Byte.f s p e=some (b,p',e')∧(0≤b∧b≤255)∧0≤p':=by
  unfold spec_l01Byte.f
  by_cases h:p<(s.length:Int)
  · rw[if_pos h,if_pos hp]
    exact⟨_,_,_,rfl,and255 _,by rw[w64 (by omega) (by omega)];omega⟩
  · rw[if_neg h]
    exact⟨_,_,_,rfl,and255 _,hp⟩
theorem below {s:List Int} (hs:s.length≤1048576) (p e:Int) (hp:0≤p) (n:Int) (h1:1≤n) (h2:n≤256): ∃ r p' e',spec_l01Below.f s p e n=some (r,p',e')∧(0≤r∧r<n)∧0≤p':=by
  obtain⟨b,p',e',hb,hr,hp'⟩:=byte hs p e hp
  unfold spec_l01Below.f
  rw[if_neg (by omega),if_pos h2,hb]
  simp only[Option.bind_some]
  rw[if_neg (by omega)]
  refine⟨_,_,_,rfl,?_,hp'⟩
  rw[Int.tmod_eq_emod_of_nonneg hr.1]
  exact⟨Int.emod_nonneg _ (by omega),Int.emod_lt_of_pos _ (by omega)⟩
theorem once {s:List Int} (hs:s.length≤1048576) (p e:Int) (hp:0≤p) (n:Int) (h1:1≤n) (h2:n≤256): ∃ r p' e',spec_l01Once.f s p e n=some (r,p',e')∧0≤p':=by
  obtain⟨r,p',e',h,_,hp'⟩:=below hs p e hp n h1 h2
  exact⟨_,p',e',by unfold spec_l01Once.f;rw[h];rfl,hp'⟩
theorem pick {s:List Int} (hs:s.length≤1048576) (p e:Int) (hp:0≤p) (l:List Int) (h1:1≤(l.length:Int)) (h2:(l.length:Int)≤256): ∃ v p' e',spec_l01PickInt.f s p e l=some (v,p',e')∧v ∈ l∧0≤p':=by
  obtain⟨r,p',e',h,hr,hp'⟩:=below hs p e hp _ h1 h2
  refine⟨rd l r,p',e',by unfold spec_l01PickInt.f;rw[h];simp only[Option.bind_some];rw[if_pos hr.1,if_pos hr.2],?_,hp'⟩
  obtain⟨i,rfl⟩:=Int.eq_ofNat_of_zero_le hr.1
  have hi:i<l.length:=by omega
  have e:rd l (i:Int)=l[i]:=getD_lt _ hi
  rw[e]
  exact List.getElem_mem hi
theorem half {s:List Int} (hs:s.length≤1048576) (p e:Int) (hp:0≤p): ∃ v p' e',spec_l04Half.f s p e=some (v,p',e')∧(0≤v∧v≤4294967295)∧0≤p':=by
  obtain⟨r,p1,e1,h,hr,hp1⟩:=below hs p e hp 12 (by omega) (by omega)
  obtain⟨v,p2,e2,g,hv,hp2⟩:=pick hs p1 e1 hp1 [0,1,2,3,5,7,255,4294967295,2147483648,r] (by simp) (by simp)
  refine⟨v,p2,e2,by unfold spec_l04Half.f;rw[h];simp only[Option.bind_some];rw[g];rfl,?_,hp2⟩
  simp only[List.mem_cons,List.not_mem_nil,or_false]at hv
  omega
theorem wide {s:List Int} (hs:s.length≤1048576) (p e:Int) (hp:0≤p): ∃ a b p' e',spec_l04Wide.f s p e=some (a,b,p',e')∧((0≤a∧a≤4294967295)∧(0≤b∧b≤4294967295))∧0≤p':=by
  obtain⟨r,p1,e1,h,hr,hp1⟩:=half hs p e hp
  obtain⟨b,p2,e2,g,hp2⟩:=once hs p1 e1 hp1 3 (by omega) (by omega)
  unfold spec_l04Wide.f
  rw[h]
  simp only[Option.bind_some]
  rw[g]
  simp only[Option.bind_some]
  cases b with
  | true=>
    obtain⟨q,p3,e3,f,hq,hp3⟩:=half hs p2 e2 hp2
    rw[if_pos rfl,f]
    exact⟨_,_,_,_,rfl,⟨hq,hr⟩,hp3⟩
  | false=>
    rw[if_neg (by simp)]
    exact⟨_,_,_,_,rfl,⟨by omega,hr⟩,hp2⟩
theorem drawCond {s:List Int} (hs:s.length≤1048576) (p e:Int) (hp:0≤p): ∃ a b c d f g p' e',spec_l09Cond.f s p e=some (a,b,c,d,f,g,p',e')∧((0≤a∧a≤2)∧((0≤b∧b≤4294967295)∧(0≤c∧c≤4294967295))∧((0≤f∧f≤4294967295)∧(0≤g∧g≤4294967295))∧1≤d∧d≤6)∧0≤p':=by
  obtain⟨a,p1,e1,h1,ha,hp1⟩:=below hs p e hp 3 (by omega) (by omega)
  obtain⟨d,p2,e2,h2,hd,hp2⟩:=below hs p1 e1 hp1 6 (by omega) (by omega)
  obtain⟨f,g,p3,e3,h3,hf,hp3⟩:=wide hs p2 e2 hp2
  obtain⟨o,p4,e4,h4,hp4⟩:=once hs p3 e3 hp3 3 (by omega) (by omega)
  have ed:wrap64 (1+d)=1+d:=w64 (by omega) (by omega)
  unfold spec_l09Cond.f
  rw[h1]
  simp only[Option.bind_some]
  rw[h2]
  simp only[Option.bind_some]
  rw[h3]
  simp only[Option.bind_some]
  rw[h4]
  simp only[Option.bind_some,ed]
  cases o with
  | true=>
    obtain⟨b,c,p5,e5,h5,hb,hp5⟩:=wide hs p4 e4 hp4
    rw[if_pos rfl,h5]
    exact⟨_,_,_,_,_,_,_,_,rfl,⟨by omega,hb,hf,by omega⟩,hp5⟩
  | false=>
    rw[if_neg (by simp)]
    exact⟨_,_,_,_,_,_,_,_,rfl,⟨by omega,⟨by omega,by omega⟩,hf,by omega⟩,hp4⟩
theorem newC (l:List Int) (hl:l.length≤1048576): ∃ e,Evt (fun k=>spec_l01New.f k l) (l,0,e):=by
  have key: ∀ (d i:Nat) (e:Int),i+d=l.length→∃ e',Evt (fun k=>spec_l01New.l0 k l e (i:Int)) (l,0,e'):=by
    intro d
    induction d with
    | zero=>
      intro i e h
      exact⟨e,.succ (.const fun k=>by simp only[spec_l01New.l0];rw[if_neg (by omega)])⟩
    | succ d ih=>
      intro i e h
      by_cases h4:(i:Int)<4000
      · obtain⟨e',K,hK⟩:=ih (i+1) (Go.bits .and .i64 (wrap64 ((wrap64 ((wrap64 (e*131))+(wrap64 (rd l (i:Int)))))+7)) 1073741823) (by omega)
        refine⟨e',.succ ⟨K,fun k hk=>?_⟩⟩
        simp only[spec_l01New.l0]
        rw[if_pos (by omega),if_pos h4,if_pos (by omega),wsucc (show i<l.length by omega) (by omega)]
        exact hK k hk
      · exact⟨e,.succ (.const fun k=>by simp only[spec_l01New.l0];rw[if_pos (by omega),if_neg h4])⟩
  exact key l.length 0 _ (by omega)
/-- A right condition. -/
def CondR (y:S118):Prop:=(0≤y.f0∧y.f0≤2)∧((0≤y.f1.f0∧y.f1.f0≤4294967295)∧(0≤y.f1.f1∧y.f1.f1≤4294967295))∧((0≤y.f3.f0∧y.f3.f0≤4294967295)∧(0≤y.f3.f1∧y.f3.f1≤4294967295))∧1≤y.f2∧y.f2≤6
/-- Numbers that go up, each a half. -/
def NumsR (x:List Int):Prop:=(∀ i (h:i<x.length),0≤x[i]∧x[i]≤4294967295)∧∀ i (h:i+1<x.length),x[i]<x[i+1]
/-- A right rule. -/
def RuleR (x:List Int) (l:List S118) (a b:Int):Prop:=NumsR x∧(∀ y ∈ l,CondR y)∧x.length≤4∧l.length≤3∧(0≤a∧a≤5)∧(0≤b∧b≤65535)
theorem nums_up {x:List Int} {t v:Int} (h:NumsR x) (ht: ∀ i (hi:i<x.length),x[i]<t) (hv:t≤v) (h0:0≤v) (h1:v≤4294967295):NumsR (x ++ [v]):=by
  refine⟨fun i hi=>?_,fun i hi=>?_⟩
  · rw[List.getElem_append]
    split
    · exact h.1 i _
    · simp only[List.getElem_singleton]
      exact⟨h0,h1⟩
  · rw[List.getElem_append,List.getElem_append]
    rw[List.length_append,List.length_singleton]at hi
    have h2:i<x.length:=by omega
    rw[dif_pos h2]
    split
    · rename_i h3
      exact h.2 i h3
    · simp only[List.getElem_singleton]
      have:=ht i h2
      omega
theorem madeR_l1 {s:List Int} (hs:s.length≤1048576) (nums:List Int) (a b:Int): ∀ (d i:Nat) (p e:Int) (l:List S118),i+d=3→0≤p→l.length=i→i≤2→(∀ y ∈ l,CondR y)→∃ R p' e',Evt (fun k=>spec_l09Made.l1 k (i:Int) s p e nums l a b) (nums,R,a,b,p',e')∧R.length≤2∧(∀ y ∈ R,CondR y)∧0≤p':=by
  intro d
  induction d with
  | zero=>
    intro i p e l hi hp hl hi2
    omega
  | succ d ih=>
    intro i p e l hi hp hl hi2 hc
    obtain⟨r,p1,e1,h1,hr,hp1⟩:=below hs p e hp 3 (by omega) (by omega)
    by_cases hlt:(i:Int)<r
    · obtain⟨a1,b1,c1,d1,f1,g1,p2,e2,h2,hw,hp2⟩:=drawCond hs p1 e1 hp1
      obtain⟨R,p',e',⟨K,h⟩,hR,hcR,hp'⟩:=ih (i+1) p2 e2 (l ++ [⟨a1,⟨b1,c1⟩,d1,⟨f1,g1⟩⟩]) (by omega) hp2 (by simp;omega) (by omega) (fun y hy=>by
        rcases List.mem_append.1 hy with hy|hy
        · exact hc y hy
        · rw[List.mem_singleton]at hy
          subst hy
          exact hw)
      refine⟨R,p',e',.succ ⟨K,fun k hk=>?_⟩,hR,hcR,hp'⟩
      have q:=h k hk
      simp only[spec_l09Made.l1,h1,Option.bind_some]
      rw[if_pos hlt]
      simp only[h2,Option.bind_some]
      rw[if_pos (by omega),wsucc (show i<3 by omega) (by omega)]
      exact q
    · refine⟨l,p1,e1,.succ (.const fun k=>?_),by omega,hc,hp1⟩
      simp only[spec_l09Made.l1,h1,Option.bind_some]
      rw[if_neg hlt]
theorem madeR_l0 {s:List Int} (hs:s.length≤1048576) (n:Int) (hn:n≤2) (a b:Int): ∀ (d i:Nat) (t p e:Int) (nums:List Int),i+d=3→0≤p→nums.length=i→NumsR nums→(∀ j (hj:j<nums.length),nums[j]<t)→0≤t→t≤3*i→∃ N R p' e',Evt (fun k=>spec_l09Made.l0 k n t (i:Int) s p e nums a b) (N,R,a,b,p',e')∧NumsR N∧N.length≤3∧R.length≤2∧(∀ y ∈ R,CondR y)∧0≤p':=by
  have fin: ∀ (t p e:Int) (i:Nat) (nums:List Int),¬ (i:Int)<n→0≤p→nums.length≤3→NumsR nums→∃ N R p' e',Evt (fun k=>spec_l09Made.l0 k n t (i:Int) s p e nums a b) (N,R,a,b,p',e')∧NumsR N∧N.length≤3∧R.length≤2∧(∀ y ∈ R,CondR y)∧0≤p':=fun t p e i nums hi hp hm hN=>by
    obtain⟨R,p',e',⟨K,h⟩,hR,hc,hp'⟩:=madeR_l1 hs nums a b 3 0 p e [] (by omega) hp rfl (by omega) (fun y hy=>by simp at hy)
    refine⟨nums,R,p',e',.succ ⟨K,fun k hk=>?_⟩,hN,hm,hR,hc,hp'⟩
    have q:=h k hk
    simp only[spec_l09Made.l0]
    rw[if_neg hi]
    exact q
  intro d
  induction d with
  | zero=>
    intro i t p e nums hi hp hm hN ht h0 h3
    exact fin t p e i nums (by omega) hp (by omega) hN
  | succ d ih=>
    intro i t p e nums hi hp hm hN ht h0 h3
    by_cases hc:(i:Int)<n
    · obtain⟨r,p1,e1,h1,hr,hp1⟩:=below hs p e hp 3 (by omega) (by omega)
      have et:Aside0 (wrap64 ((wrap64 (t+1))+r)=t+1+r):=⟨by rw[w64 (x:=t+1) (by omega) (by omega),w64 (by omega) (by omega)]⟩
      have ev:Aside0 (wrap64 (t+1+r - 1)=t+r):=⟨by rw[w64 (by omega) (by omega)];omega⟩
      obtain⟨N,R,p',e',⟨K,h⟩,hN'⟩:=ih (i+1) (t+1+r) p1 e1 (nums ++ [t+r]) (by omega) hp1 (by simp;omega) (nums_up hN ht (by omega) (by omega) (by omega)) (fun j hj=>by
        rw[List.getElem_append]
        split
        · have:=ht j ‹_›
          omega
        · simp only[List.getElem_singleton]
          omega) (by omega) (by omega)
      refine⟨N,R,p',e',.succ ⟨K,fun k hk=>?_⟩,hN'⟩
      have q:=h k hk
      simp only[spec_l09Made.l0]
      rw[if_pos hc]
      simp only[h1,Option.bind_some]
      rw[if_pos (by omega),et.out,ev.out,wsucc (show i<3 by omega) (by omega)]
      exact q
    · exact fin t p e i nums hc hp (by omega) hN
theorem madeR_j0 {s:List Int} (hs:s.length≤1048576) (p e a b:Int) (hp:0≤p): ∃ N R p' e',Evt (fun k=>spec_l09Made.j0 k s p e a b) (N,R,a,b,p',e')∧NumsR N∧N.length≤3∧R.length≤2∧(∀ y ∈ R,CondR y)∧0≤p':=by
  obtain⟨r,p1,e1,h1,hr,hp1⟩:=below hs p e hp 4 (by omega) (by omega)
  have er:wrap64 (r - 1)=r - 1:=w64 (by omega) (by omega)
  obtain⟨N,R,p',e',⟨K,h⟩,hN⟩:=madeR_l0 hs (r - 1) (by omega) a b 3 0 0 p1 e1 [] (by omega) hp1 rfl ⟨fun i hi=>absurd hi (by simp),fun i hi=>absurd hi (by simp)⟩ (fun j hj=>absurd hj (by simp)) (by omega) (by omega)
  refine⟨N,R,p',e',.succ ⟨K,fun k hk=>?_⟩,hN⟩
  have q:=h k hk
  simp only[spec_l09Made.j0,h1,Option.bind_some,er]
  exact q
/-- A drawn rule is right. -/
theorem madeR {s:List Int} (hs:s.length≤1048576) (p e:Int) (hp:0≤p): ∃ N R a b p' e',Evt (fun k=>spec_l09Made.f k s p e) (N,R,a,b,p',e')∧RuleR N R a b∧N.length≤3∧R.length≤2∧0≤p':=by
  obtain⟨a,p1,e1,h1,ha,hp1⟩:=pick hs p e hp [0,1,2,3,4,4,5] (by simp) (by simp)
  simp only[List.mem_cons,List.not_mem_nil,or_false]at ha
  by_cases h2:a=2
  · obtain⟨b,p2,e2,g1,hb,hp2⟩:=pick hs p1 e1 hp1 [1,13,65535] (by simp) (by simp)
    simp only[List.mem_cons,List.not_mem_nil,or_false]at hb
    obtain⟨N,R,p',e',⟨K,h⟩,hN,hN3,hR,hc,hp'⟩:=madeR_j0 hs p2 e2 a b hp2
    refine⟨N,R,a,b,p',e',⟨K,fun k hk=>?_⟩,⟨hN,hc,by omega,by omega,by omega,by omega⟩,hN3,hR,hp'⟩
    have q:=h k hk
    simp only[spec_l09Made.f,h1,Option.bind_some]
    rw[if_pos h2]
    simp only[g1,Option.bind_some]
    exact q
  · obtain⟨N,R,p',e',⟨K,h⟩,hN,hN3,hR,hc,hp'⟩:=madeR_j0 hs p1 e1 a 0 hp1
    refine⟨N,R,a,0,p',e',⟨K,fun k hk=>?_⟩,⟨hN,hc,by omega,by omega,by omega,by omega⟩,hN3,hR,hp'⟩
    have q:=h k hk
    simp only[spec_l09Made.f,h1,Option.bind_some]
    rw[if_neg h2]
    exact q
theorem polR_l0 {s:List Int} (hs:s.length≤1048576) (a b c:Int): ∀ (d i:Nat) (p e:Int) (l:List S78),i+d=5→0≤p→l.length=i→i≤4→(∀ y ∈ l,RuleR y.f0 y.f1 y.f2 y.f3∧y.f0.length≤3∧y.f1.length≤2)→∃ L p' e',Evt (fun k=>spec_l09Policy.l0 k (i:Int) s p e a b c l) (a,b,c,L,p',e')∧L.length≤4∧(∀ y ∈ L,RuleR y.f0 y.f1 y.f2 y.f3∧y.f0.length≤3∧y.f1.length≤2)∧0≤p':=by
  intro d
  induction d with
  | zero=>
    intro i p e l hi hp hl hi2
    omega
  | succ d ih=>
    intro i p e l hi hp hl hi2 hc
    obtain⟨r,p1,e1,h1,hr,hp1⟩:=below hs p e hp 5 (by omega) (by omega)
    by_cases hlt:(i:Int)<r
    · obtain⟨N,R,x,y,p2,e2,⟨K2,h2⟩,hw,hw3,hw2,hp2⟩:=madeR hs p1 e1 hp1
      obtain⟨L,p',e',⟨K,h⟩,hL,hcL,hp'⟩:=ih (i+1) p2 e2 (l ++ [⟨N,R,x,y⟩]) (by omega) hp2 (by simp;omega) (by omega) (fun z hz=>by
        rcases List.mem_append.1 hz with hz|hz
        · exact hc z hz
        · rw[List.mem_singleton]at hz
          subst hz
          exact⟨hw,hw3,hw2⟩)
      refine⟨L,p',e',.succ ⟨K+K2,fun k hk=>?_⟩,hL,hcL,hp'⟩
      have q:=h k (by omega)
      have q2:=h2 k (by omega)
      simp only[spec_l09Policy.l0,h1,Option.bind_some]
      rw[if_pos hlt]
      simp only[q2,Option.bind_some]
      rw[if_pos (by omega),wsucc (show i<5 by omega) (by omega)]
      exact q
    · refine⟨l,p1,e1,.succ (.const fun k=>?_),by omega,hc,hp1⟩
      simp only[spec_l09Policy.l0,h1,Option.bind_some]
      rw[if_neg hlt]
/-- A drawn policy is right. -/
theorem polR {s:List Int} (hs:s.length≤1048576) (p e:Int) (hp:0≤p): ∃ b c L p' e',Evt (fun k=>spec_l09Policy.f k s p e) (62,b,c,L,p',e')∧((0≤b∧b≤5)∧(0≤c∧c≤65535))∧L.length≤4∧(∀ y ∈ L,RuleR y.f0 y.f1 y.f2 y.f3∧y.f0.length≤3∧y.f1.length≤2)∧0≤p':=by
  obtain⟨b,p1,e1,h1,hb,hp1⟩:=pick hs p e hp [5,4,0,2] (by simp) (by simp)
  simp only[List.mem_cons,List.not_mem_nil,or_false]at hb
  have J: ∀ c:Int,(0≤c∧c≤65535)→∃ L p' e',Evt (fun k=>spec_l09Policy.j0 k s p1 e1 62 b c) (62,b,c,L,p',e')∧L.length≤4∧(∀ y ∈ L,RuleR y.f0 y.f1 y.f2 y.f3∧y.f0.length≤3∧y.f1.length≤2)∧0≤p':=fun c hc=>by
    obtain⟨L,p',e',⟨K,h⟩,hL⟩:=polR_l0 hs 62 b c 5 0 p1 e1 [] (by omega) hp1 rfl (by omega) (fun y hy=>by simp at hy)
    refine⟨L,p',e',.succ ⟨K,fun k hk=>?_⟩,hL⟩
    have q:=h k hk
    simp only[spec_l09Policy.j0]
    exact q
  by_cases h2:b=2
  · obtain⟨L,p',e',⟨K,h⟩,hL,hc,hp'⟩:=J 1 (by omega)
    refine⟨b,1,L,p',e',⟨K,fun k hk=>?_⟩,by omega,hL,hc,hp'⟩
    have q:=h k hk
    simp only[spec_l09Policy.f,h1,Option.bind_some]
    rw[if_pos h2]
    exact q
  · obtain⟨L,p',e',⟨K,h⟩,hL,hc,hp'⟩:=J 0 (by omega)
    refine⟨b,0,L,p',e',⟨K,fun k hk=>?_⟩,by omega,hL,hc,hp'⟩
    have q:=h k hk
    simp only[spec_l09Policy.f,h1,Option.bind_some]
    rw[if_neg h2]
    exact q
/-- Rules of some length. -/
def Len (l:List S78):Prop:=l.length≤20∧∀ y ∈ l,y.f0.length≤10∧y.f1.length≤10
theorem copyP_l0 (a b c a' b' c':Int) (l:List S78) (hl:Len l): ∀ (d i:Nat) (m:List S78),i+d=l.length→m=l.take i→Evt (fun k=>spec_l09Copy.l0 k (i:Int) a b c l a' b' c' m) (a',b',c',l):=by
  intro d
  induction d with
  | zero=>
    intro i m hi hm
    rw[List.take_of_length_le (by omega)]at hm
    subst hm
    refine .succ (.const fun k=>?_)
    simp only[spec_l09Copy.l0]
    rw[if_neg (by omega)]
  | succ d ih=>
    intro i m hi hm
    have hlt:i<l.length:=by omega
    obtain⟨b1,b2⟩:=hl.2 l[i] (List.getElem_mem hlt)
    have hl20:=hl.1
    obtain⟨K,hK⟩:=ih (i+1) (m ++ [l[i]]) (by omega) (by rw[hm,List.take_succ_eq_append_getElem hlt])
    have hml:m.length≤20:=by rw[hm,List.length_take];omega
    have e1:(([] :List Int) ++ l[i].f0)=l[i].f0:=List.nil_append _
    have e2:(([] :List S118) ++ l[i].f1)=l[i].f1:=List.nil_append _
    refine .succ ⟨K,fun k hk=>?_⟩
    have q:=hK k hk
    simp only[spec_l09Copy.l0,nrd_T78 l i hlt,Option.bind_some,e1,e2,List.length_nil,Nat.zero_add]
    rw[if_pos (by omega),if_pos (by omega),if_pos (by omega),if_pos (by omega),if_pos (by omega),wsucc hlt (by omega)]
    exact q
theorem copyP (a b c:Int) (l:List S78) (hl:Len l):Evt (fun k=>spec_l09Copy.f k a b c l) (a,b,c,l):=by
  obtain⟨K,hK⟩:=copyP_l0 a b c a b c l hl l.length 0 [] (by omega) rfl
  exact⟨K,fun k hk=>hK k hk⟩
/-- A drawn policy, right or not. -/
theorem anyP {s:List Int} (hs:s.length≤1048576) (p e:Int) (hp:0≤p): ∃ a b c L p' e',Evt (fun k=>spec_l09Any.f k s p e) (a,b,c,L,p',e')∧Len L∧0≤p':=by
  obtain⟨t,p1,e1,h1,ht,hp1⟩:=below hs p e hp 12 (by omega) (by omega)
  obtain⟨y,p2,e2,h2,hy,hp2⟩:=below hs p1 e1 hp1 60 (by omega) (by omega)
  obtain⟨b,c,L,p3,e3,⟨K3,h3⟩,_,hL,hR,hp3⟩:=polR hs p2 e2 hp2
  have hLen:Len L:=⟨by omega,fun z hz=>by have:=(hR z hz).2;omega⟩
  obtain⟨K4,h4⟩:=copyP 62 b c L hLen
  have ey: ∀ n,0<n→Int.tmod y n=y % n:=fun n hn=>Int.tmod_eq_emod_of_nonneg hy.1
  have key: ∀ v:Int×Int×Int×List S78×Int×Int,Len v.2.2.2.1→v.2.2.2.2.1=p3→(∀ k,K3+K4≤k→spec_l09Any.f k s p e=some v)→∃ a b c L p' e',Evt (fun k=>spec_l09Any.f k s p e) (a,b,c,L,p',e')∧Len L∧0≤p':=fun v hv hp h=>⟨v.1,v.2.1,v.2.2.1,v.2.2.2.1,v.2.2.2.2.1,v.2.2.2.2.2,⟨K3+K4,h⟩,hv,by omega⟩
  have more: ∀ z:S78,z.f0.length≤10∧z.f1.length≤10→Len (L ++ [z]):=fun z hz=>⟨by simp;omega,fun u hu=>by
    rcases List.mem_append.1 hu with hu|hu
    · exact hLen.2 u hu
    · rw[List.mem_singleton]at hu
      subst hu
      exact hz⟩
  have base: ∀ k,K3+K4≤k→spec_l09Policy.f k s p2 e2=some (62,b,c,L,p3,e3)∧spec_l09Copy.f k 62 b c L=some (62,b,c,L):=fun k hk=>⟨h3 k (by omega),h4 k (by omega)⟩
  by_cases c0:t=0
  · refine key (rd [(-1),4294967296,0] (y % 3),b,c,L,p3,e3) hLen rfl fun k hk=>?_
    obtain⟨g1,g2⟩:=base k hk
    simp only[spec_l09Any.f,h1,h2,g1,g2,Option.bind_some,ey 3 (by omega)]
    rw[if_pos c0,if_pos (by omega),if_pos (by show _<((3:Nat):Int);omega)]
  by_cases c1:t=1
  · refine key (62,y % 8,c,L,p3,e3) hLen rfl fun k hk=>?_
    obtain⟨g1,g2⟩:=base k hk
    simp only[spec_l09Any.f,h1,h2,g1,g2,Option.bind_some,ey 8 (by omega)]
    rw[if_neg c0,if_pos c1]
  by_cases c2:t=2
  · refine key (62,b,c,L ++ [⟨[3,2],[],0,0⟩],p3,e3) (more _ ⟨by simp,by simp⟩) rfl fun k hk=>?_
    obtain⟨g1,g2⟩:=base k hk
    simp only[spec_l09Any.f,h1,h2,g1,g2,Option.bind_some]
    rw[if_neg c0,if_neg c1,if_pos c2,if_pos (by omega)]
  by_cases c3:t=3
  · refine key (62,b,c,L ++ [⟨[],[⟨y % 5,⟨0,0⟩,y % 8,⟨0,0⟩⟩],0,0⟩],p3,e3) (more _ ⟨by simp,by simp⟩) rfl fun k hk=>?_
    obtain⟨g1,g2⟩:=base k hk
    simp only[spec_l09Any.f,h1,h2,g1,g2,Option.bind_some,ey 5 (by omega),ey 8 (by omega)]
    rw[if_neg c0,if_neg c1,if_neg c2,if_pos c3,if_pos (by omega)]
  by_cases c4:t=4
  · have ew:wrap64 (10+y % 2)=10+y % 2:=w64 (by omega) (by omega)
    refine key (62,b,c,List.replicate (10+y % 2).toNat z78,p3,e3) ⟨by rw[List.length_replicate];omega,fun u hu=>by
      obtain⟨_,rfl⟩:=List.mem_replicate.1 hu
      exact⟨by simp[z78],by simp[z78]⟩⟩ rfl fun k hk=>?_
    obtain⟨g1,g2⟩:=base k hk
    simp only[spec_l09Any.f,h1,h2,g1,g2,Option.bind_some,ey 2 (by omega),ew]
    rw[if_neg c0,if_neg c1,if_neg c2,if_neg c3,if_pos c4,if_pos (by omega),if_pos (by omega)]
  by_cases c5:t=5
  · refine key (62,b,65536,L,p3,e3) hLen rfl fun k hk=>?_
    obtain⟨g1,g2⟩:=base k hk
    simp only[spec_l09Any.f,h1,h2,g1,g2,Option.bind_some]
    rw[if_neg c0,if_neg c1,if_neg c2,if_neg c3,if_neg c4,if_pos c5]
  · refine key (62,b,c,L,p3,e3) hLen rfl fun k hk=>?_
    obtain⟨g1,g2⟩:=base k hk
    simp only[spec_l09Any.f,h1,h2,g1,g2,Option.bind_some]
    rw[if_neg c0,if_neg c1,if_neg c2,if_neg c3,if_neg c4,if_neg c5]
theorem sameLn (l:List S86) (hl:l.length≤4611686018427387904):Evt (fun k=>laws_sameLines.f k l l) true:=by
  have h:Evt (fun k=>laws_sameLines.l0 k l l ((0:Nat):Int)) true:=by
    refine down (T:=fun i=>Evt (fun k=>laws_sameLines.l0 k l l (i:Int)) true) (n:=l.length) ?_ ?_ l.length 0 (by omega)
    · have n0: ¬ ((l.length:Nat):Int)<(l.length:Int):=Int.lt_irrefl _
      exact .succ (.const fun k=>by simp only[laws_sameLines.l0,if_neg n0])
    · intro i hi ⟨K,h⟩
      dsimp only at h
      have p1:(i:Int)<(l.length:Int):=by omega
      have p0:(0:Int)≤(i:Int):=by omega
      refine .succ ⟨K,fun k hk=>?_⟩
      simp only[laws_sameLines.l0,if_pos p1,if_pos p0,beq_self_eq_true,Bool.not_true,Bool.or_self,Bool.false_eq_true,if_false,wsucc hi (show l.length≤9223372036854775807 by omega)]
      exact h k hk
  obtain⟨K,h⟩:=h
  refine⟨K,fun k hk=>?_⟩
  have q:laws_sameLines.l0 k l l 0=some true:=h k hk
  simp only[laws_sameLines.f,if_true,q]
theorem sameIs (l:List S71) (hl:l.length≤4611686018427387904):Evt (fun k=>laws_sameIns.f k l l) true:=by
  have h:Evt (fun k=>laws_sameIns.l0 k l l ((0:Nat):Int)) true:=by
    refine down (T:=fun i=>Evt (fun k=>laws_sameIns.l0 k l l (i:Int)) true) (n:=l.length) ?_ ?_ l.length 0 (by omega)
    · have n0: ¬ ((l.length:Nat):Int)<(l.length:Int):=Int.lt_irrefl _
      exact .succ (.const fun k=>by simp only[laws_sameIns.l0,if_neg n0])
    · intro i hi ⟨K,h⟩
      dsimp only at h
      have p1:(i:Int)<(l.length:Int):=by omega
      have p0:(0:Int)≤(i:Int):=by omega
      refine .succ ⟨K,fun k hk=>?_⟩
      simp only[laws_sameIns.l0,if_pos p1,if_pos p0,beq_self_eq_true,Bool.not_true,Bool.or_self,Bool.false_eq_true,if_false,wsucc hi (show l.length≤9223372036854775807 by omega)]
      exact h k hk
  obtain⟨K,h⟩:=h
  refine⟨K,fun k hk=>?_⟩
  have q:laws_sameIns.l0 k l l 0=some true:=h k hk
  simp only[laws_sameIns.f,if_true,q]
theorem sameNs (l:List Int) (hl:l.length≤4611686018427387904):Evt (fun k=>laws_sameInts.f k l l) true:=by
  have h:Evt (fun k=>laws_sameInts.l0 k l l ((0:Nat):Int)) true:=by
    refine down (T:=fun i=>Evt (fun k=>laws_sameInts.l0 k l l (i:Int)) true) (n:=l.length) ?_ ?_ l.length 0 (by omega)
    · have n0: ¬ ((l.length:Nat):Int)<(l.length:Int):=Int.lt_irrefl _
      exact .succ (.const fun k=>by simp only[laws_sameInts.l0,if_neg n0])
    · intro i hi ⟨K,h⟩
      dsimp only at h
      have p1:(i:Int)<(l.length:Int):=by omega
      have p0:(0:Int)≤(i:Int):=by omega
      refine .succ ⟨K,fun k hk=>?_⟩
      simp only[laws_sameInts.l0,if_pos p1,if_pos p0,if_true,wsucc hi (show l.length≤9223372036854775807 by omega)]
      exact h k hk
  obtain⟨K,h⟩:=h
  refine⟨K,fun k hk=>?_⟩
  have q:laws_sameInts.l0 k l l 0=some true:=h k hk
  simp only[laws_sameInts.f,if_true,q]
theorem lenS (R:List S78) (h:Len R):R.length≤1048576∧(∀ y ∈ R,y.f0.length≤1048576∧y.f1.length≤1048576)∧(R.map (fun y=>y.f0.length)).sum≤200∧(R.map (fun y=>y.f1.length)).sum≤200:=by
  obtain⟨h1,h2⟩:=h
  have s0:=sumLe (fun y=>y.f0.length) 10 R fun y hy=>(h2 y hy).1
  have s1:=sumLe (fun y=>y.f1.length) 10 R fun y hy=>(h2 y hy).2
  exact⟨by omega,fun y hy=>by have:=h2 y hy;omega,by omega,by omega⟩
theorem chainL (a b c n:Int) (R:List S78) (t:Bool) (s:ByteArray) (h:Len R) (hs:s.size≤1000000000): ∃ O:List S86,O.length≤2053∧Evt (fun k=>spec_ChainLines.f k a b c R n t s) O∧Evt (fun k=>impl_ChainLines.f k a b c R n t s) O:=by
  obtain⟨h1,h2,h3,h4⟩:=lenS R h
  exact chainB a b c n R t s h1 h2 hs 2052 (by omega) (by omega)
theorem treeL (a b c:Int) (R:List S78) (h:Len R) (l:List Int) (hl:l.length≤200): ∃ O:List S86,O.length≤1000000∧Evt (fun k=>spec_TreeLines.f k a b c R l (⟨#[116]⟩ :ByteArray)) O∧Evt (fun k=>impl_TreeLines.f k a b c R l (⟨#[116]⟩ :ByteArray)) O:=by
  have hm:(2*2053+6)*l.length≤(2*2053+6)*200:=Nat.mul_le_mul_left _ hl
  obtain⟨O,hO,hS,hI⟩:=tree a b c R 2053 (by omega) (fun n t s hs=>chainL a b c n R t s h hs) l.length l (⟨#[116]⟩ :ByteArray) (Nat.le_refl _) (by show 1+l.length≤_;omega) (by omega)
  exact⟨O,by rcases hO with hO|hO <;> omega,hS,hI⟩
theorem main (l:List Int) (hl0:l.length≤maxLen): ∃ k,laws_FnCompilesTold.f k l=some true:=by
  by_cases hb:(l.length:Int)>1048576
  · exact⟨0,by simp only[laws_FnCompilesTold.f,laws_big.f,Option.bind_some,decide_eq_true hb,if_true]⟩
  have hl:l.length≤1048576:=by omega
  obtain⟨e,K0,h0⟩:=newC l hl
  obtain⟨a,b,c,L,p1,e1,⟨K1,h1⟩,hL,hp1⟩:=anyP hl 0 e (by omega)
  obtain⟨n,p2,e2,h2,_,hp2⟩:=below hl 0 e (by omega) 6 (by omega) (by omega)
  obtain⟨t,p3,e3,h3,hp3⟩:=once hl p2 e2 hp2 3 (by omega) (by omega)
  obtain⟨a',b',c',L',p4,e4,⟨K2,h4⟩,hL',_⟩:=anyP hl p3 e3 hp3
  obtain⟨t',p5,e5,h5,_⟩:=once hl p1 e1 hp1 4 (by omega) (by omega)
  obtain⟨g1,g2,g3,g4⟩:=lenS L hL
  obtain⟨P,x,hP,⟨K3,c1⟩,⟨K4,c2⟩⟩:=compile a b c L (by omega) (fun y hy=>by have:=g2 y hy;omega)
  obtain⟨C,hC,⟨K5,d1⟩,⟨K6,d2⟩⟩:=chainL a' b' c' n L' t (⟨#[116]⟩ :ByteArray) hL' (by show 1≤_;omega)
  obtain⟨N,_,hN,_,_,⟨K7,n1⟩,⟨K8,n2⟩⟩:=numsOf a b c L g1 (fun y hy=>(g2 y hy).1)
  obtain⟨M,hM⟩ : ∃ M:List Int,M=if t'=true then [1,3,5]else N:=⟨_,rfl⟩
  have hM2:M.length≤200:=by
    rw[hM]
    split
    · simp
    · omega
  obtain⟨T,hT,⟨K9,t1⟩,⟨K10,t2⟩⟩:=treeL a b c L hL M hM2
  obtain⟨O,hO1,hO2,⟨K11,o1⟩,⟨K12,o2⟩⟩:=polLines a b c L g1 g2 (by omega)
  obtain⟨K13,s1⟩:=sameIs P (by omega)
  obtain⟨K14,s2⟩:=sameLn C (by omega)
  obtain⟨K15,s3⟩:=sameLn T (by omega)
  obtain⟨K16,s4⟩:=sameLn O (by omega)
  obtain⟨K17,s5⟩:=sameNs N (by omega)
  have hpos:(O.length:Int)>5:=by omega
  dsimp only at h0 h1 h4 c1 c2 d1 d2 n1 n2 t1 t2 o1 o2 s1 s2 s3 s4 s5
  have hDT: ∀ k,K0≤k→K1≤k→K7≤k→spec_DrawTreeLines.f k l=some (a,b,c,L,M,(⟨#[116]⟩ :ByteArray)):=fun k k0 k1 k7=>by
    rw[hM]
    cases t' with
    | true=>simp only[spec_DrawTreeLines.f,h0 k k0,h1 k k1,n1 k k7,h5,Option.bind_some,if_true]
    | false=>simp only[spec_DrawTreeLines.f,h0 k k0,h1 k k1,n1 k k7,h5,Option.bind_some,Bool.false_eq_true,if_false]
  have key: ∀ M,K0≤M→K1≤M→K2≤M→K3≤M→K4≤M→K5≤M→K6≤M→K7≤M→K8≤M→K9≤M→K10≤M→K11≤M→K12≤M→K13≤M→K14≤M→K15≤M→K16≤M→K17≤M→laws_FnCompilesTold.f M l=some true:=fun M m0 m1 m2 m3 m4 m5 m6 m7 m8 m9 m10 m11 m12 m13 m14 m15 m16 m17=>by
    simp only[laws_FnCompilesTold.f,laws_big.f,decide_eq_false hb,Bool.false_eq_true,if_false,spec_DrawCompile.f,spec_DrawChainLines.f,spec_DrawPolicyLines.f,hDT M m0 m1 m7,h0 M m0,h1 M m1,h2,h3,h4 M m2,c1 M m3,c2 M m4,d1 M m5,d2 M m6,n1 M m7,n2 M m8,t1 M m9,t2 M m10,o1 M m11,o2 M m12,s1 M m13,s2 M m14,s3 M m15,s4 M m16,s5 M m17,Option.bind_some,if_true,decide_eq_true hpos]
  exact⟨K0+K1+K2+K3+K4+K5+K6+K7+K8+K9+K10+K11+K12+K13+K14+K15+K16+K17,key _ (by omega) (by omega) (by omega) (by omega) (by omega) (by omega) (by omega) (by omega) (by omega) (by omega) (by omega) (by omega) (by omega) (by omega) (by omega) (by omega) (by omega) (by omega)⟩

end Go.Proofs.YtpbalojiaghfhaaGreat.PFnCompilesTold
end
section
/- FnCompilesTold: what is made of a drawn policy, right or not, is what the document tells. No conditions. -/
namespace Go.Proofs.YtpbalojiaghfhaaGreat.Pure
open Go Go.RowKit Go.Proofs.YtpbalojiaghfhaaGreat.PFnCompilesTold Go.Proofs.YtpbalojiaghfhaaGreatW.PrintWords Go.Proofs.YtpbalojiaghfhaaGreatW.PrintLast
theorem FnCompilesTold : laws_FnCompilesTold.Pure := by
 intro l hl _ _; exact main l hl
end Go.Proofs.YtpbalojiaghfhaaGreat.Pure
end
section
/- FnCompilesTold: the row. No conditions. -/
namespace Go.Proofs.YtpbalojiaghfhaaGreat.fnCompilesTold
open Go.ChangeShapes Go.WideShapes Go.ChangeAt Go.RowKit
open Go.ChangeMaps (open_string shut_string)
set_option linter.unusedVariables false
theorem own : ownKnob Tryz.prog.godebug = none := by kernel_rfl
theorem laidOut : laidOutB Tryz.prog = true := by kernel_rfl
def IsRow (k : IntKind) (w : World) (a : Option Addr) (len cap : Nat) (zs : List Int) : Prop :=
  (a = none ∧ len = 0 ∧ cap = 0 ∧ zs = []) ∨
  ∃ x, a = some x ∧ len ≤ cap ∧ cap ≤ maxLen ∧ zs.length = cap ∧ (∀ i, i < zs.length → w.cell? (x.add i) = some (.int k (zs.getD i 0))) ∧ ∀ n ∈ zs, (Lit.int k n).wf = true
set_option maxRecDepth 100000 in
theorem lifted (os : Os) (started : os.Started) (H : Type) (enc : TypeId × Value → H) :
    ReturnsInHanded {} Tryz.checked os 4 .any (Rows.fnCompilesToldSpec.pre6 enc Tryz.prog Tryz.f4 Rows.fnCompilesToldRow.domain false) (Rows.fnCompilesToldSpec.post enc Tryz.prog Tryz.f4 false true false false) := by
  refine returnsInHanded_of_change_sized (C := Tryz.checked) own started (by kernel_rfl) Tryz.func4
    (ChangeSpec.witness6 (enc := enc) (C := Tryz.checked) false ⟨#[], #[.slice none 0 0], []⟩ 8 (by kernel_rfl) (by kernel_rfl) (by kernel_rfl) (by kernel_rfl)) ?_
  intro W base args ds gs before hval0 hW hcnd hsz0 _
  have hsz : (DataW.weightsEach Tryz.prog (Tryz.f4.params.toList ++ Rows.fnCompilesToldSpec.plain.varTypes Tryz.prog) (ds ++ gs)).all (· ≤ reachBytes) = true := hsz0
  have hval : ∀ (j : Nat) t v, Tryz.f4.params[j]? = some t → args[j]? = some v → Value.okWide Tryz.prog W .any base t v := hval0
  have hW' := hW
  obtain ⟨p, q, hA0, hV, rfl, hfz, hnd⟩ := hW
  have hA : DataW.TrodAll enc Tryz.prog W 0 (fun _ => true) true Tryz.f4.params.toList args.toList ds p := hA0
  rw [Tryz.params4] at hA hval hsz
  obtain ⟨v0, vs0, d0, ds0, p0, q0, hargs, rfl, rfl, h0, r0⟩ := trodAll_cons hA
  obtain ⟨rfl, rfl, rfl⟩ := trodAll_nil r0
  obtain rfl : args = #[v0] := by cases args; simp_all
  obtain ⟨rfl, rfl⟩ := trodVars_none hV
  obtain ⟨a0, len0, cap0, rfl⟩ := okWide_slice Tryz.underlying22 (hval 0 22 v0 rfl rfl)
  have k0 := h0
  have lt0 : ∀ x ∈ p0, x.block < W.heap.size := by obtain ⟨m, hm⟩ := k0; exact DataW.trod_lt m _ _ _ hm
  obtain ⟨z0, w0⟩ : ∃ zs, IsRow .u8 W a0 len0 cap0 zs := by
    obtain ⟨fuel, hf⟩ := h0
    rcases open_ints Tryz.underlying22 Tryz.underlying5 (by kernel_rfl) hf with ⟨hcs, _⟩ | ⟨x, l, c, zs, hcs, _, hl, hm, hz, _, hcell, hwz⟩
    · simp [Value.cells] at hcs
      obtain ⟨rfl, rfl, rfl⟩ := hcs
      exact ⟨[], .inl ⟨rfl, rfl, rfl, rfl⟩⟩
    · simp [Value.cells] at hcs
      obtain ⟨rfl, rfl, rfl⟩ := hcs
      exact ⟨zs, .inr ⟨_, rfl, hl, hm, by simpa using hz, hcell, hwz⟩⟩
  have y0 : len0 * 1 ≤ 140737488351232 := Go.Proofs.YtpbalojiaghfhaaGreatW.PrintWords.sized_ints hsz (j := 0) (t := 22) rfl rfl Tryz.underlying22 Tryz.underlying5 (by kernel_rfl) (by kernel_rfl) h0
  clear hA0 hval0 hsz0 hsz
  refine (PFnCompilesTold.laws_FnCompilesTold.walk Pure.FnCompilesTold a0 len0 cap0 z0 W w0 y0).mono fun e W' ⟨he, bel⟩ => ?_
  subst he
  exact ⟨_, rfl, _, _, _, [], _, [], hW', trodAll_mk1 (shut_bool Tryz.underlying4 _), (trodAll_cons_mk (Below.trod laidOut (by kernel_rfl) (of_decide_eq_true (by kernel_rfl)) k0 bel lt0) trodAll_mk0), rfl, bel.frame _, fun h => by cases h⟩
theorem over : Rows.fnCompilesToldRow.holds Tryz.pinned (OpenSpec.ofChange Rows.fnCompilesToldSpec) :=
  OpenClaim.holds_of_wide 4 Tryz.f4 rfl rfl rfl rfl rfl rfl rfl ⟨rfl, rfl, rfl, rfl, rfl⟩ rfl rfl rfl rfl rfl (by kernel_rfl) Tryz.func4 (by kernel_rfl)
    (of_decide_eq_true (by kernel_rfl)) (by unfold Func.isWrapper; first | (rw [if_pos (by decide +kernel)]; kernel_rfl) | (rw [if_neg (by decide +kernel)]; exact ⟨rfl, rfl⟩))
    (fun os started H enc _ => lifted os started H enc)
theorem proved : Rows.FnCompilesToldSaid := over
#print axioms proved
end Go.Proofs.YtpbalojiaghfhaaGreat.fnCompilesTold
namespace Go.Proofs.YtpbalojiaghfhaaGreat
/-- The row, under a short name, for the claim. -/
theorem fnCompilesTold_holds : Rows.FnCompilesToldSaid := fnCompilesTold.proved
end Go.Proofs.YtpbalojiaghfhaaGreat
end
