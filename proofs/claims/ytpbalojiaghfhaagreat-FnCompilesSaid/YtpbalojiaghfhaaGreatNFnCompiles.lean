/- The pure law of FnCompiles: the program of a drawn policy does what the policy tells, of whatever call, in no more steps than it has words. No conditions. -/
import Derived.Test.YtpbalojiaghfhaaGreatVWMore
import Derived.Lib.SlicesCompact
import Derived.Test.YtpbalojiaghfhaaGreatPFnCompilesyy
section
/- Plain lemmas on numbers and lists for the pure statements: no program, no memory. -/
namespace Go.Proofs.YtpbalojiaghfhaaGreatW.PK
open Go Go.RowKit Go.Proofs.YtpbalojiaghfhaaGreatW.PrintWords
theorem w64 {x : Int} (h1 : -9223372036854775808 ≤ x) (h2 : x ≤ 9223372036854775807) : wrap64 x = x := by unfold wrap64; omega
theorem wsucc {i n : Nat} (h : i < n) (hn : n ≤ 9223372036854775807) : wrap64 ((i : Int) + 1) = ((i + 1 : Nat) : Int) := by unfold wrap64; omega
theorem getD_lt {α : Type} {xs : List α} {i : Nat} (z : α) (h : i < xs.length) : xs.getD ((i : Int)).toNat z = xs[i] := by
 rw [Int.toNat_natCast, List.getD_eq_getElem?_getD, List.getElem?_eq_getElem h]
 rfl
theorem take_succ_eq {α : Type} {xs ys : List α} {i : Nat} (hx : i < xs.length) (hy : i < ys.length) (h : xs.take i = ys.take i) (e : xs[i] = ys[i]) : xs.take (i + 1) = ys.take (i + 1) := by
 rw [List.take_succ_eq_append_getElem hx, List.take_succ_eq_append_getElem hy, h, e]
theorem take_set {α : Type} {xs : List α} {i : Nat} (v : α) : (xs.set i v).take i = xs.take i := by
 rw [List.take_set_of_le (Nat.le_refl _)]
/-- Rounds: a thing that is so from K rounds on. -/
theorem ev_of {α : Type} {g : Nat → Option α} {r : α} (K : Nat) (h : ∀ k, K ≤ k → g k = some r) : ∃ K, ∀ k, K ≤ k → g k = some r := ⟨K, h⟩
end Go.Proofs.YtpbalojiaghfhaaGreatW.PK
end
section
/- Values that a function comes to from some number of rounds on, and the loops over lists: plain lemmas. -/
namespace Go.Proofs.YtpbalojiaghfhaaGreatW.PK
open Go Go.RowKit Go.Proofs.YtpbalojiaghfhaaGreatW.PrintWords
def Evt {α : Type} (g : Nat → Option α) (v : α) : Prop := ∃ K, ∀ k, K ≤ k → g k = some v
theorem Evt.const {α : Type} {g : Nat → Option α} {v : α} (h : ∀ k, g k = some v) : Evt g v := ⟨0, fun k _ => h k⟩
theorem Evt.succ {α : Type} {g : Nat → Option α} {v : α} (h : Evt (fun k => g (k + 1)) v) : Evt g v := by
  obtain ⟨K, h⟩ := h
  refine ⟨K + 1, fun k hk => ?_⟩
  obtain ⟨k, rfl⟩ : ∃ m, k = m + 1 := ⟨k - 1, by omega⟩
  exact h k (by omega)
theorem Evt.bind {α β : Type} {g : Nat → Option α} {h : α → Nat → Option β} {a : α} {b : β} (h1 : Evt g a) (h2 : Evt (h a) b) : Evt (fun k => (g k).bind fun x => h x k) b := by
  obtain ⟨K1, h1⟩ := h1
  obtain ⟨K2, h2⟩ := h2
  refine ⟨K1 + K2, fun k hk => ?_⟩
  show (g k).bind _ = _
  rw [h1 k (by omega)]
  exact h2 k (by omega)
theorem Evt.congr {α : Type} {g g' : Nat → Option α} {v : α} (h : Evt g v) (e : ∀ k, g' k = g k) : Evt g' v := by
  obtain ⟨K, h⟩ := h
  exact ⟨K, fun k hk => (e k).trans (h k hk)⟩
theorem Evt.uniq {α : Type} {g : Nat → Option α} {v u : α} (h : Evt g v) (h' : Evt g u) : v = u := by
  obtain ⟨K, h⟩ := h
  obtain ⟨K', h'⟩ := h'
  exact Option.some.inj ((h (K + K') (by omega)).symm.trans (h' (K + K') (by omega)))
/-- There is a value. -/
def Tot {α : Type} (g : Nat → Option α) : Prop := ∃ v, Evt g v
theorem Tot.const {α : Type} {g : Nat → Option α} {v : α} (h : ∀ k, g k = some v) : Tot g := ⟨v, .const h⟩
theorem Tot.some {α : Type} {v : α} : Tot (fun _ => some v) := ⟨v, .const fun _ => rfl⟩
theorem Tot.succ {α : Type} {g : Nat → Option α} (h : Tot (fun k => g (k + 1))) : Tot g := by
  obtain ⟨v, h⟩ := h
  exact ⟨v, h.succ⟩
theorem Tot.bind {α β : Type} {g : Nat → Option α} {h : α → Nat → Option β} (h1 : Tot g) (h2 : ∀ a, Evt g a → Tot (h a)) : Tot (fun k => (g k).bind fun x => h x k) := by
  obtain ⟨a, h1⟩ := h1
  obtain ⟨b, h2⟩ := h2 a h1
  exact ⟨b, h1.bind h2⟩
theorem Tot.ite {α : Type} {c : Prop} [Decidable c] {g h : Nat → Option α} (h1 : c → Tot g) (h2 : ¬ c → Tot h) : Tot (fun k => if c then g k else h k) := by
  by_cases hc : c
  · simp only [if_pos hc]
    exact h1 hc
  · simp only [if_neg hc]
    exact h2 hc
theorem Tot.congr {α : Type} {g g' : Nat → Option α} (h : Tot g) (e : ∀ k, g' k = g k) : Tot g' := by
  obtain ⟨v, h⟩ := h
  exact ⟨v, h.congr e⟩
/-- Down from a list's end. -/
theorem down {T : Nat → Prop} {n : Nat} (h0 : T n) (h1 : ∀ i, i < n → T (i + 1) → T i) : ∀ d i, i + d = n → T i
  | 0, i, h => by
    have : i = n := by omega
    subst this
    exact h0
  | d + 1, i, h => h1 i (by omega) (down h0 h1 d (i + 1) (by omega))
/-- A loop that goes through. -/
theorem Evt.pass {β : Type} {F : Nat → Int → Option β} {n : Nat} {r : β} (h0 : Evt (fun k => F (k + 1) (n : Int)) r) (h1 : ∀ i : Nat, i < n → ∃ K, ∀ k, K ≤ k → F (k + 1) (i : Int) = F k ((i + 1 : Nat) : Int)) : Evt (fun k => F k 0) r :=
  down (T := fun i => Evt (fun k => F k (i : Int)) r) (n := n) (.succ h0) (fun i hi ih => by
    obtain ⟨K1, h1⟩ := h1 i hi
    obtain ⟨K2, h2⟩ := ih
    refine Evt.succ ⟨K1 + K2, fun k hk => ?_⟩
    show F (k + 1) (i : Int) = _
    rw [h1 k (by omega)]
    exact h2 k (by omega)) n 0 (by omega)
/-- A list copied, member by member. -/
theorem Evt.to {A B : Type} {F : Nat → List B → Int → Option (List B)} {x : List A} {conv : A → B} (h0 : ∀ k y, F (k + 1) y (x.length : Int) = some y)
    (h1 : ∀ (i : Nat) (h : i < x.length), ∃ K, ∀ k, K ≤ k → ∀ y : List B, y.length = x.length → F (k + 1) y (i : Int) = F k (y.set i (conv x[i])) ((i + 1 : Nat) : Int)) (y0 : List B) (hy0 : y0.length = x.length) : Evt (fun k => F k y0 0) (x.map conv) := by
  have key : ∀ y : List B, y.length = x.length → (∀ j, j < 0 → y[j]? = (x.map conv)[j]?) → Evt (fun k => F k y ((0 : Nat) : Int)) (x.map conv) := by
    have h := down (T := fun i => ∀ y : List B, y.length = x.length → (∀ j, j < i → y[j]? = (x.map conv)[j]?) → Evt (fun k => F k y (i : Int)) (x.map conv)) (n := x.length) ?_ ?_
    · exact h x.length 0 (by omega)
    · intro y hy hj
      refine .succ (.const fun k => (h0 k y).trans (congrArg some (List.ext_getElem? fun j => ?_)))
      rcases Nat.lt_or_ge j x.length with h | h
      · exact hj j h
      · rw [List.getElem?_eq_none (by omega), List.getElem?_eq_none (by rw [List.length_map]; omega)]
    · intro i hi ih y hy hj
      obtain ⟨K1, h1⟩ := h1 i hi
      obtain ⟨K2, h2⟩ := ih (y.set i (conv x[i])) (by rw [List.length_set]; exact hy) (fun j h => by
        rcases Nat.lt_or_ge j i with h3 | h3
        · rw [List.getElem?_set_ne (by omega)]
          exact hj j h3
        · have : j = i := by omega
          subst this
          rw [List.getElem?_set_self (by omega), List.getElem?_map, List.getElem?_eq_getElem hi]
          rfl)
      refine .succ ⟨K1 + K2, fun k hk => ?_⟩
      show F (k + 1) y (i : Int) = _
      rw [h1 k (by omega) y hy]
      exact h2 k (by omega)
  exact key y0 hy0 (fun j h => by omega)
/-- A measure that goes down a list. -/
theorem Evt.sz {F : Nat → Int → Int → Option Int} {n : Nat} {P : Nat → Prop} (h0 : ∀ k q, F (k + 1) q (n : Int) = some q)
    (h1 : ∀ i : Nat, i < n → ∀ q : Int, 0 ≤ q → q ≤ 1048576 → ∃ s : Int, s ≤ q ∧ (0 ≤ s → P i) ∧ ∃ K, ∀ k, K ≤ k → F (k + 1) q (i : Int) = if s < 0 then some (-1) else F k s ((i + 1 : Nat) : Int)) (q : Int) (hq : 0 ≤ q) (hq' : q ≤ 1048576) :
    ∃ s : Int, s ≤ q ∧ (0 ≤ s → ∀ i, i < n → P i) ∧ Evt (fun k => F k q 0) s := by
  have h := down (T := fun i => ∀ q : Int, 0 ≤ q → q ≤ 1048576 → ∃ s : Int, s ≤ q ∧ (0 ≤ s → ∀ j, i ≤ j → j < n → P j) ∧ Evt (fun k => F k q (i : Int)) s) (n := n) ?_ ?_ n 0 (by omega) q hq hq'
  · obtain ⟨s, a, b, c⟩ := h
    exact ⟨s, a, fun hs i hi => b hs i (by omega) hi, c⟩
  · intro q _ _
    exact ⟨q, Int.le_refl _, fun _ j h2 h3 => by omega, .succ (.const fun k => h0 k q)⟩
  · intro i hi ih q hq hq'
    obtain ⟨s, hs, hP, K, hK⟩ := h1 i hi q hq hq'
    by_cases hn : s < 0
    · refine ⟨-1, by omega, fun h => by omega, .succ ⟨K, fun k hk => ?_⟩⟩
      show F (k + 1) q (i : Int) = _
      rw [hK k hk, if_pos hn]
    · obtain ⟨u, hu, hU, K2, hK2⟩ := ih s (by omega) (by omega)
      refine ⟨u, by omega, fun h j h2 h3 => ?_, .succ ⟨K + K2, fun k hk => ?_⟩⟩
      · rcases Nat.lt_or_ge i j with h4 | h4
        · exact hU h j (by omega) h3
        · have : i = j := by omega
          subst this
          exact hP (by omega)
      · show F (k + 1) q (i : Int) = _
        rw [hK k (by omega), if_neg hn]
        exact hK2 k (by omega)
end Go.Proofs.YtpbalojiaghfhaaGreatW.PK
end
section
/- The pure law of FnCompiles: the program of a drawn policy does what the policy tells, of whatever call, in no more steps than it has words. No conditions. -/
set_option linter.unusedSimpArgs false
set_option linter.unusedVariables false
set_option linter.unusedSectionVars false
namespace Go.Proofs.YtpbalojiaghfhaaGreat.PFnCompiles
open Go Go.RowKit Go.Proofs.YtpbalojiaghfhaaGreatW.PrintWords Go.Proofs.YtpbalojiaghfhaaGreatW.PrintLast Go.Proofs.YtpbalojiaghfhaaGreatW.PK
set_option linter.unusedSectionVars false
theorem nrd (l:List Int) (i:Nat) (h:i<l.length):rd l (i:Int)=l[i]:=getD_lt _ h
theorem nrd_T105 (l:List S105) (i:Nat) (h:i<l.length):rd_T105 l (i:Int)=l[i]:=getD_lt _ h
theorem nrd_T118 (l:List S118) (i:Nat) (h:i<l.length):rd_T118 l (i:Int)=l[i]:=getD_lt _ h
theorem nrd_T78 (l:List S78) (i:Nat) (h:i<l.length):rd_T78 l (i:Int)=l[i]:=getD_lt _ h
theorem nrd_T86 (l:List S86) (i:Nat) (h:i<l.length):rd_T86 l (i:Int)=l[i]:=getD_lt _ h
theorem rd_nat71 (l:List S71) (i:Nat) (h:i<l.length):rd_T71 l (i:Int)=l[i]:=getD_lt _ h
theorem rd_nat86 (l:List S86) (i:Nat) (h:i<l.length):rd_T86 l (i:Int)=l[i]:=getD_lt _ h
theorem inS (a b c:Int):spec_l01In.f a b c=some (decide (b≤a∧a≤c)):=by
  unfold spec_l01In.f
  by_cases h:a≥b
  · rw[if_pos h]
    exact congrArg some (by rw[Bool.eq_iff_iff];simp;omega)
  · rw[if_neg h]
    exact congrArg some (by rw[Bool.eq_iff_iff];simp;omega)
theorem inI (a b c:Int):impl_within.f a b c=some (decide (b≤a∧a≤c)):=inS a b c
theorem halfS (a:Int):spec_HalfOk.f a=some (decide (0≤a∧a≤4294967295)):=by
  unfold spec_HalfOk.f
  rw[inS]
  rfl
theorem halfI (a:Int):impl_HalfOk.f a=some (decide (0≤a∧a≤4294967295)):=halfS a
theorem wideS (a b:Int):spec_WideOk.f a b=some (decide ((0≤a∧a≤4294967295)∧(0≤b∧b≤4294967295))):=by
  unfold spec_WideOk.f
  simp only[halfS,Option.bind_some,decide_eq_true_eq]
  split
  · rename_i h
    exact congrArg some (by rw[Bool.eq_iff_iff];simp[h])
  · rename_i h
    exact congrArg some (by rw[Bool.eq_iff_iff];simp[h])
theorem condS (a b c d e f:Int):spec_CondOk.f a b c d e f=some (decide ((0≤a∧a≤2)∧((0≤b∧b≤4294967295)∧(0≤c∧c≤4294967295))∧((0≤e∧e≤4294967295)∧(0≤f∧f≤4294967295))∧1≤d∧d≤6)):=by
  unfold spec_CondOk.f
  simp only[inS,wideS,Option.bind_some,decide_eq_true_eq]
  repeat' split
  all_goals (refine congrArg some ?_;rw[Bool.eq_iff_iff];simp only[Bool.false_eq_true,decide_eq_true_eq,false_iff])
  all_goals omega
theorem condI (a b c d e f:Int):impl_CondOk.f a b c d e f=some (decide ((0≤a∧a≤2)∧((0≤b∧b≤4294967295)∧(0≤c∧c≤4294967295))∧((0≤e∧e≤4294967295)∧(0≤f∧f≤4294967295))∧1≤d∧d≤6)):=condS a b c d e f
def lw (a b:Int):S86:=⟨⟨#[]⟩,⟨a,b,0,0⟩,⟨#[]⟩,⟨#[]⟩⟩
def la (a b:Int) (s t:ByteArray):S86:=⟨⟨#[]⟩,⟨a,b,0,0⟩,s,t⟩
def lp (s:ByteArray):S86:=⟨s,⟨0,0,0,0⟩,⟨#[]⟩,⟨#[]⟩⟩
def cSame (a b c e f:Int) (s1 s2 s3:ByteArray):List S86:=[lw 1 (wrap64 (3+wrap64 (2*a))),lw 2 b,la 3 e (s1 ++ ⟨#[97]⟩) s3,lp (s1 ++ ⟨#[97]⟩),lw 1 (wrap64 (2+wrap64 (2*a))),lw 2 c,la 3 f s2 s3]
def cAbove (a b c e f o:Int) (s1 s2 s3:ByteArray):List S86:=[lw 1 (wrap64 (3+wrap64 (2*a))),lw 2 b,la 4 e s2 (s1 ++ ⟨#[97]⟩),lp (s1 ++ ⟨#[97]⟩),la 3 e (s1 ++ ⟨#[98]⟩) s3,lp (s1 ++ ⟨#[98]⟩),lw 1 (wrap64 (2+wrap64 (2*a))),lw 2 c,la o f s2 s3]
theorem sameS (a b c d e f:Int) (s1 s2 s3:ByteArray) (h:s1.size≤9000000000000000000):spec_l12Same.f a b c d e f s1 s2 s3=some (cSame a b c e f s1 s2 s3):=by
  simp only[spec_l12Same.f,spec_l12Half.f,spec_l11Word.f,spec_l11Asks.f,Option.bind_some,if_true,Bool.false_eq_true,if_false,if_pos (show s1.size+1≤9223372036854775807 by omega)]
  rfl
theorem aboveS (a b c d e f o:Int) (s1 s2 s3:ByteArray) (h:s1.size≤9000000000000000000):spec_l12Above.f a b c d e f o s1 s2 s3=some (cAbove a b c e f o s1 s2 s3):=by
  simp only[spec_l12Above.f,spec_l12Half.f,spec_l11Word.f,spec_l11Asks.f,Option.bind_some,if_true,Bool.false_eq_true,if_false,if_pos (show s1.size+1≤9223372036854775807 by omega)]
  rfl
/-- The lines of a condition: the same on both sides, and few. -/
def cLines (a b c d e f:Int) (s1 s2 s3:ByteArray):List S86:=
  if(0≤a∧a≤2)∧((0≤b∧b≤4294967295)∧(0≤c∧c≤4294967295))∧((0≤e∧e≤4294967295)∧(0≤f∧f≤4294967295))∧1≤d∧d≤6 then
    (if d=1 then cSame a b c e f s1 s2 s3 else if d=2 then cSame a b c e f s1 s3 s2 else if d=5 then cAbove a b c e f 4 s1 s2 s3 else if d=6 then cAbove a b c e f 5 s1 s2 s3 else if d=4 then cAbove a b c e f 4 s1 s3 s2 else cAbove a b c e f 5 s1 s3 s2)
  else []
theorem cLines_len (a b c d e f:Int) (s1 s2 s3:ByteArray):(cLines a b c d e f s1 s2 s3).length≤9:=by
  unfold cLines
  repeat' split
  all_goals simp[cSame,cAbove]
theorem linesS (a b c d e f:Int) (s1 s2 s3:ByteArray) (h:s1.size≤9000000000000000000):spec_CondLines.f a b c d e f s1 s2 s3=some (cLines a b c d e f s1 s2 s3):=by
  unfold spec_CondLines.f cLines
  rw[condS]
  simp only[Option.bind_some,decide_eq_true_eq,sameS _ _ _ _ _ _ s1 _ _ h,aboveS _ _ _ _ _ _ _ s1 _ _ h]
  by_cases hc:(0≤a∧a≤2)∧((0≤b∧b≤4294967295)∧(0≤c∧c≤4294967295))∧((0≤e∧e≤4294967295)∧(0≤f∧f≤4294967295))∧1≤d∧d≤6
  · simp only[if_pos hc]
    repeat' split
    all_goals rfl
  · simp only[if_neg hc]
theorem aboveI (k:Nat) (a b c d e f o:Int) (s1 s2 s3:ByteArray):impl_CondLines.j0 (k+1) s2 s3 (s1 ++ ⟨#[97]⟩) (s1 ++ ⟨#[98]⟩) [lw 1 (wrap64 (3+wrap64 (2*a))),lw 2 b] [lw 1 (wrap64 (2+wrap64 (2*a))),lw 2 c] o a b c d e f=some (cAbove a b c e f o s1 s2 s3):=by
  simp only[impl_CondLines.j0,impl_ask.f,impl_place.f,Option.bind_some]
  rfl
theorem linesI (k:Nat) (a b c d e f:Int) (s1 s2 s3:ByteArray) (h:s1.size≤9000000000000000000):impl_CondLines.f (k+1) a b c d e f s1 s2 s3=some (cLines a b c d e f s1 s2 s3):=by
  unfold impl_CondLines.f cLines
  rw[condI]
  simp only[Option.bind_some,decide_eq_true_eq]
  by_cases hc:(0≤a∧a≤2)∧((0≤b∧b≤4294967295)∧(0≤c∧c≤4294967295))∧((0≤e∧e≤4294967295)∧(0≤f∧f≤4294967295))∧1≤d∧d≤6
  · rw[if_pos hc,if_pos hc,if_pos (by omega)]
    simp only[impl_word.f,impl_ask.f,impl_place.f,Option.bind_some]
    have j:=fun o s2 s3=>aboveI k a b c d e f o s1 s2 s3
    unfold lw at j
    by_cases h1:d=1
    · subst h1
      rfl
    by_cases h2:d=2
    · subst h2
      rfl
    by_cases h3:d=3
    · subst h3
      exact j 5 s3 s2
    by_cases h4:d=4
    · subst h4
      exact j 4 s3 s2
    by_cases h5:d=5
    · subst h5
      exact j 4 s2 s3
    have h6:d=6:=by omega
    subst h6
    exact j 5 s2 s3
  · rw[if_neg hc,if_neg hc]
theorem fig (d:Int) (h0:0≤d) (h1:d<10):(⟨#[48,49,50,51,52,53,54,55,56,57,97,98,99,100,101,102]⟩ :ByteArray).extract d.toNat (d+1).toNat=strOfNums [(48+d) % 256]:=by
  have:d=0∨d=1∨d=2∨d=3∨d=4∨d=5∨d=6∨d=7∨d=8∨d=9:=by omega
  rcases this with h|h|h|h|h|h|h|h|h|h <;> subst h <;> rfl
/-- A number in figures: the same on both sides. -/
theorem decimal_l0 (n:Int) (hn:0≤n): ∀ (m:Nat) (x:Int) (s:ByteArray),0≤x→x≤m→m≤1000000000000→m+s.size≤9000000000000000000→∃ v,Evt (fun k=>spec_Decimal.l0 k x false s) v∧Evt (fun k=>impl_Decimal.l0 k n s x) v∧v.size≤m+s.size:=by
  intro m
  induction m with
  | zero=>
    intro x s h0 h1 _ h2
    have hx:x=0:=by omega
    subst hx
    refine⟨s,.succ (.const fun k=>?_),.succ (.const fun k=>?_),by omega⟩
    · simp only[spec_Decimal.l0]
      simp
    · simp only[impl_Decimal.l0]
      rw[if_pos trivial,if_neg (by omega)]
  | succ m ih=>
    intro x s h0 h1 hm h2
    by_cases hx:x=0
    · subst hx
      refine⟨s,.succ (.const fun k=>?_),.succ (.const fun k=>?_),by omega⟩
      · simp only[spec_Decimal.l0]
        simp
      · simp only[impl_Decimal.l0]
        rw[if_pos trivial,if_neg (by omega)]
    · have ed:x.tdiv 10=x / 10:=Int.tdiv_eq_ediv_of_nonneg h0
      have em:x.tmod 10=x % 10:=Int.tmod_eq_emod_of_nonneg h0
      have e10:wrap64 (x / 10)=x / 10:=w64 (by omega) (by omega)
      have e48:wrap64 (48+x % 10)=48+x % 10:=w64 (by omega) (by omega)
      have en:wrap64 (-(x % 10))= -(x % 10):=w64 (by omega) (by omega)
      have ex:mx (x % 10) (-(x % 10))=x % 10:=by unfold mx;split <;> omega
      have e1:wrap64 (x % 10+1)=x % 10+1:=w64 (by omega) (by omega)
      have hf:=fig (x % 10) (by omega) (by omega)
      have hs:(strOfNums [(48+x % 10) % 256]).size=1:=rfl
      obtain⟨v,⟨K1,g1⟩,⟨K2,g2⟩,hv⟩:=ih (x / 10) (strOfNums [(48+x % 10) % 256] ++ s) (by omega) (by omega) (by omega) (by rw[ByteArray.size_append,hs];omega)
      rw[ByteArray.size_append,hs]at hv
      dsimp only at g1 g2
      refine⟨v,.succ ⟨K1,fun k hk=>?_⟩,.succ ⟨K2,fun k hk=>?_⟩,by omega⟩
      · simp only[spec_Decimal.l0,spec_l01Figure.f,ed,em,e10,e48]
        rw[if_neg hx,if_neg (by omega),if_pos (by omega)]
        simp only[Option.bind_some]
        rw[if_pos (by rw[hs];omega)]
        exact g1 k hk
      · simp only[impl_Decimal.l0,ed,em,e10,en,ex,e1,hf]
        rw[if_neg hx,if_pos (by omega),if_pos (by omega),if_pos (by omega),if_pos (by rw[hs];omega)]
        exact g2 k hk
theorem decimal (n:Nat) (hn:n≤1000000000000): ∃ v,Evt (fun k=>spec_Decimal.f k (n:Int)) v∧Evt (fun k=>impl_Decimal.f k (n:Int)) v∧v.size≤n+1:=by
  by_cases h:(n:Int)=0
  · exact⟨⟨#[48]⟩,.const fun k=>by simp only[spec_Decimal.f];rw[if_pos h],.const fun k=>by simp only[impl_Decimal.f];rw[if_pos h],by show 1≤_;omega⟩
  · obtain⟨v,⟨K1,g1⟩,⟨K2,g2⟩,hv⟩:=decimal_l0 (n:Int) (by omega) n (n:Int) ⟨#[]⟩ (by omega) (by omega) hn (by show n+0≤_;omega)
    dsimp only at g1 g2
    have e:decide ((n:Int)<0)=false:=by simp
    refine⟨v,⟨K1,fun k hk=>?_⟩,⟨K2,fun k hk=>?_⟩,Nat.le_trans hv (by show n+0≤_;omega)⟩
    · simp only[spec_Decimal.f,e]
      rw[if_neg h]
      exact g1 k hk
    · simp only[impl_Decimal.f]
      rw[if_neg h]
      exact g2 k hk
theorem resI (a b:Int):impl_ResultOf.f a b=spec_ResultOf.f a b:=rfl
theorem res (a b:Int): ∃ v,spec_ResultOf.f a b=some v:=by
  simp only[spec_ResultOf.f,inS,Option.bind_some,decide_eq_true_eq]
  repeat' split
  all_goals exact⟨_,rfl⟩
/-- The lines of a rule: the same on both sides, and not too many. -/
theorem rl_l0 (x:List Int) (l:List S118) (a b:Int) (s1 s2:ByteArray) (hn:l.length≤1048576) (hs:s1.size≤1000000000000000000) :
    ∃ O:List S86,O.length≤10*l.length+1∧Evt (fun k=>spec_RuleLines.l0 k s1 s2 [] ((0:Nat):Int) x l a b) O∧Evt (fun k=>impl_RuleLines.l0 k s1 s2 [] l (l.length:Int) ((0:Nat):Int) x l a b) O:=by
  refine down (T:=fun i=> ∀ o:List S86,o.length≤10*i→∃ O:List S86,O.length≤10*l.length+1∧Evt (fun k=>spec_RuleLines.l0 k s1 s2 o (i:Int) x l a b) O∧Evt (fun k=>impl_RuleLines.l0 k s1 s2 o l (l.length:Int) (i:Int) x l a b) O) (n:=l.length) ?_ ?_ l.length 0 (by omega) [] (by simp)
  · intro o ho
    obtain⟨v,hv⟩:=res a b
    refine⟨o ++ [lw 8 v],by simp;omega,.succ (.const fun k=>?_),.succ (.const fun k=>?_)⟩
    · simp only[spec_RuleLines.l0,spec_l11Word.f,hv,Option.bind_some]
      rw[if_neg (by omega),if_pos (by omega)]
      rfl
    · simp only[impl_RuleLines.l0,impl_word.f,resI,hv,Option.bind_some]
      rw[if_neg (by omega),if_pos (by omega)]
      rfl
  · intro i hi ih o ho
    obtain⟨t,⟨K1,d1⟩,⟨K2,d2⟩,ht⟩:=decimal i (by omega)
    have hc:=cLines_len l[i].f0 l[i].f1.f0 l[i].f1.f1 l[i].f2 l[i].f3.f0 l[i].f3.f1 (s1 ++ t) ((s1 ++ ⟨#[110]⟩) ++ t) s2
    have hz:(s1 ++ t).size≤9000000000000000000:=by rw[ByteArray.size_append];omega
    have hS:=linesS l[i].f0 l[i].f1.f0 l[i].f1.f1 l[i].f2 l[i].f3.f0 l[i].f3.f1 (s1 ++ t) ((s1 ++ ⟨#[110]⟩) ++ t) s2 hz
    have hI:=fun k=>linesI k l[i].f0 l[i].f1.f0 l[i].f1.f1 l[i].f2 l[i].f3.f0 l[i].f3.f1 (s1 ++ t) ((s1 ++ ⟨#[110]⟩) ++ t) s2 hz
    generalize cLines l[i].f0 l[i].f1.f0 l[i].f1.f1 l[i].f2 l[i].f3.f0 l[i].f3.f1 (s1 ++ t) ((s1 ++ ⟨#[110]⟩) ++ t) s2=L at hc hS hI
    have z1:(s1 ++ (⟨#[110]⟩ :ByteArray)).size=s1.size+1:=ByteArray.size_append
    obtain⟨O,hO,⟨K3,h1⟩,⟨K4,h2⟩⟩:=ih (o ++ L ++ [lp ((s1 ++ ⟨#[110]⟩) ++ t)]) (by simp;omega)
    dsimp only at d1 d2 h1 h2
    refine⟨O,hO,.succ ⟨K1+K3+1,fun k hk=>?_⟩,.succ ⟨K2+K4+1,fun k hk=>?_⟩⟩
    · simp only[spec_RuleLines.l0]
      rw[if_pos (by omega),if_pos (by omega),d1 k (by omega)]
      simp only[Option.bind_some]
      rw[if_pos (by rw[z1];omega),if_pos (by omega),if_pos (by omega),nrd_T118 l i hi,hS]
      simp only[Option.bind_some]
      rw[if_pos (by omega)]
      rw[if_pos (by rw[List.length_append];omega),wsucc hi (by omega)]
      exact h1 k (by omega)
    · simp only[impl_RuleLines.l0]
      obtain⟨k,rfl⟩ : ∃ m,k=m+1:=⟨k - 1,by omega⟩
      rw[if_pos (by omega),if_pos (by omega),if_pos (by omega),if_pos (by omega),d2 (k+1) (by omega)]
      simp only[Option.bind_some]
      rw[if_pos (by rw[z1];omega),if_pos (by omega),nrd_T118 l i hi,hI]
      simp only[Option.bind_some,impl_place.f]
      rw[if_pos (by omega)]
      rw[if_pos (by rw[List.length_append];omega),wsucc hi (by omega)]
      exact h2 (k+1) (by omega)
theorem ruleLines (x:List Int) (l:List S118) (a b:Int) (s1 s2:ByteArray) (hn:l.length≤1048576) (hs:s1.size≤1000000000000000000) :
    ∃ O:List S86,O.length≤10*l.length+1∧Evt (fun k=>spec_RuleLines.f k x l a b s1 s2) O∧Evt (fun k=>impl_RuleLines.f k x l a b s1 s2) O:=rl_l0 x l a b s1 s2 hn hs
theorem nums_in (x:List Int) (a:Int) (hn:x.length≤4611686018427387904): ∃ q:Int,Evt (fun k=>spec_l09In.f k x a) (decide (q≥0))∧Evt (fun k=>slices_Index_int_int.f k x a) q:=by
  refine down (T:=fun i=> ∃ q:Int,Evt (fun k=>spec_l09In.l0 k x a (i:Int)) (decide (q≥0))∧Evt (fun k=>slices_Index_int_int.l0 k x a (x.length:Int) (i:Int)) q) (n:=x.length) ?_ ?_ x.length 0 (by omega)
  · exact⟨-1,.succ (.const fun k=>by simp only[spec_l09In.l0];rw[if_neg (by omega)];rfl),.succ (.const fun k=>by simp only[slices_Index_int_int.l0];rw[if_neg (by omega)])⟩
  · intro i hi ih
    by_cases h:x[i]=a
    · refine⟨(i:Int),.succ (.const fun k=>?_),.succ (.const fun k=>?_)⟩
      · simp only[spec_l09In.l0]
        rw[if_pos (by omega),if_pos (by omega),nrd x i hi,if_pos h]
        simp
      · simp only[slices_Index_int_int.l0]
        rw[if_pos (by omega),if_pos (by omega),if_pos (by omega),nrd x i hi,if_pos h.symm]
    · obtain⟨q,⟨K1,h1⟩,⟨K2,h2⟩⟩:=ih
      dsimp only at h1 h2
      refine⟨q,.succ ⟨K1,fun k hk=>?_⟩,.succ ⟨K2,fun k hk=>?_⟩⟩
      · simp only[spec_l09In.l0]
        rw[if_pos (by omega),if_pos (by omega),nrd x i hi,if_neg h,wsucc hi (by omega)]
        exact h1 k hk
      · simp only[slices_Index_int_int.l0]
        rw[if_pos (by omega),if_pos (by omega),if_pos (by omega),nrd x i hi,if_neg (fun e=>h e.symm),wsucc hi (by omega)]
        exact h2 k hk
/-- Two rows that rise and bear the same are one. -/
theorem riseEq: ∀ xs ys:List Int,xs.Pairwise (· < ·)→ys.Pairwise (· < ·)→(∀ a,a ∈ xs ↔ a ∈ ys)→xs=ys
  | [],[],_,_,_=>rfl
  | [],y :: ys,_,_,h=>absurd ((h y).2 List.mem_cons_self) (by simp)
  | x :: xs,[],_,_,h=>absurd ((h x).1 List.mem_cons_self) (by simp)
  | x :: xs,y :: ys,hx,hy,h=>by
    rw[List.pairwise_cons]at hx hy
    have e:x=y:=by
      rcases List.mem_cons.1 ((h x).1 List.mem_cons_self)with e|e
      · exact e
      rcases List.mem_cons.1 ((h y).2 List.mem_cons_self)with e2|e2
      · exact e2.symm
      have h1:=hx.1 y e2
      have h2:=hy.1 x e
      omega
    subst e
    rw[riseEq xs ys hx.2 hy.2 (fun a=>⟨fun ha=>by
      rcases List.mem_cons.1 ((h a).1 (List.mem_cons_of_mem _ ha))with e|e
      · have:=hx.1 a ha;omega
      · exact e,fun ha=>by
      rcases List.mem_cons.1 ((h a).2 (List.mem_cons_of_mem _ ha))with e|e
      · have:=hy.1 a ha;omega
      · exact e⟩)]
theorem getArr (zs:List Int) (j:Nat) (h:j<zs.length):zs.toArray[j]! = zs[j]:=by simp[h]
theorem compact_mem (zs:List Int) (a:Int):a ∈ Lib.compact zs ↔ a ∈ zs:=by
  unfold Lib.compact Lib.compactUpTo
  rw[List.mem_map]
  constructor
  · rintro ⟨j,hj,rfl⟩
    rw[List.mem_filter,List.mem_range]at hj
    rw[getArr zs j hj.1]
    exact List.getElem_mem _
  · intro ha
    obtain⟨j,hj,rfl⟩:=List.getElem_of_mem ha
    have key: ∀ m j (hj:j<zs.length),j≤m→∃ i,i ∈ (List.range zs.length).filter (Lib.keeps zs.toArray)∧zs.toArray[i]! = zs[j]:=by
      intro m
      induction m with
      | zero=>
        intro j hj hm
        have:j=0:=by omega
        subst this
        refine⟨0,?_,getArr zs 0 hj⟩
        rw[List.mem_filter,List.mem_range]
        exact⟨hj,by simp[Lib.keeps]⟩
      | succ m ih=>
        intro j hj hm
        by_cases hk:Lib.keeps zs.toArray j=true
        · exact⟨j,by rw[List.mem_filter,List.mem_range];exact⟨hj,hk⟩,getArr zs j hj⟩
        · have hk2: ¬ (j=0∨zs.toArray[j]!≠zs.toArray[j - 1]!):=by simpa only[Lib.keeps,decide_eq_true_eq] using hk
          have h0:j≠0:=fun h=>hk2 (.inl h)
          have he:zs.toArray[j]! = zs.toArray[j - 1]!:=Classical.byContradiction fun h=>hk2 (.inr h)
          obtain⟨i,hi,e⟩:=ih (j - 1) (by omega) (by omega)
          exact⟨i,hi,by rw[e,← getArr zs (j - 1) (by omega),← he,getArr zs j hj]⟩
    exact key j j hj (Nat.le_refl _)
theorem compact_rise (zs:List Int) (h:zs.Pairwise (· ≤ ·)):(Lib.compact zs).Pairwise (· < ·):=by
  unfold Lib.compact Lib.compactUpTo
  rw[List.pairwise_map]
  have hlt:((List.range zs.length).filter (Lib.keeps zs.toArray)).Pairwise (· < ·):=List.Pairwise.filter _ List.pairwise_lt_range
  refine List.Pairwise.imp_of_mem ?_ hlt
  intro i j hi hj hij
  rw[List.mem_filter,List.mem_range]at hi hj
  have hk:j=0∨zs.toArray[j]!≠zs.toArray[j - 1]!:=by simpa only[Lib.keeps,decide_eq_true_eq] using hj.2
  have hne:zs.toArray[j]!≠zs.toArray[j - 1]!:=hk.resolve_left (by omega)
  have mono: ∀ a b (ha:a<zs.length) (hb:b<zs.length),a≤b→zs[a]≤zs[b]:=by
    intro a b ha hb hab
    rcases Nat.lt_or_ge a b with hab|hab
    · exact List.pairwise_iff_getElem.1 h a b ha hb hab
    · have:a=b:=by omega
      subst this
      exact Int.le_refl _
  rw[getArr zs i hi.1,getArr zs j hj.1]
  rw[getArr zs j hj.1,getArr zs (j - 1) (by omega)]at hne
  have h1:=mono i (j - 1) hi.1 (by omega) (by omega)
  have h2:=mono (j - 1) j (by omega) hj.1 (by omega)
  omega
theorem sort_rise (zs:List Int):(zs.mergeSort fun x y=>decide (x≤y)).Pairwise (· ≤ ·):=by
  have h:=List.pairwise_mergeSort (le:=fun x y:Int=>decide (x≤y)) (fun a b c h1 h2=>by simp at h1 h2 ⊢;omega) (fun a b=>by simp;omega) zs
  exact h.imp (fun h=>by simpa using h)
/-- What a number put into a rising row makes of it. -/
def put (x:List Int) (a:Int):List Int:=if a ∈ x then x else x.filter (fun b=>decide (b<a)) ++ [a] ++ x.filter (fun b=>decide (b>a))
theorem put_mem (x:List Int) (a b:Int):b ∈ put x a ↔ b ∈ x∨b=a:=by
  unfold put
  split
  · rename_i h
    exact⟨.inl,fun hb=>hb.elim id (fun e=>e ▸ h)⟩
  · rename_i h
    simp only[List.mem_append,List.mem_filter,List.mem_singleton,decide_eq_true_eq]
    constructor
    · rintro ((h1|h1)|h1)
      · exact .inl h1.1
      · exact .inr h1
      · exact .inl h1.1
    · rintro (h1|h1)
      · have hne:b≠a:=fun e=>h (e ▸ h1)
        rcases Int.lt_or_gt_of_ne hne with h2|h2
        · exact .inl (.inl ⟨h1,h2⟩)
        · exact .inr ⟨h1,h2⟩
      · exact .inl (.inr h1)
theorem put_rise (x:List Int) (a:Int) (h:x.Pairwise (· < ·)):(put x a).Pairwise (· < ·):=by
  unfold put
  split
  · exact h
  · rw[List.pairwise_append,List.pairwise_append]
    refine⟨⟨h.filter _,by simp,fun u hu v hv=>?_⟩,h.filter _,fun u hu v hv=>?_⟩
    · rw[List.mem_filter,decide_eq_true_eq]at hu
      rw[List.mem_singleton]at hv
      omega
    · rw[List.mem_filter,decide_eq_true_eq]at hv
      rcases List.mem_append.1 hu with hu|hu
      · rw[List.mem_filter,decide_eq_true_eq]at hu
        omega
      · rw[List.mem_singleton]at hu
        omega
theorem put_len (x:List Int) (a:Int):(put x a).length≤x.length+1∨2*x.length+1<(put x a).length:=by
  unfold put
  split
  · exact .inl (by omega)
  · refine .inl ?_
    have key: ∀ l:List Int,(l.filter (fun b=>decide (b<a))).length+(l.filter (fun b=>decide (b>a))).length≤l.length:=by
      intro l
      induction l with
      | nil=>simp
      | cons b l ih=>
        by_cases h1:b<a
        · rw[List.filter_cons_of_pos (by simpa using h1),List.filter_cons_of_neg (by simp;omega)]
          simp only[List.length_cons]
          omega
        · by_cases h2:b>a
          · rw[List.filter_cons_of_neg (by simpa using h1),List.filter_cons_of_pos (by simpa using h2)]
            simp only[List.length_cons]
            omega
          · rw[List.filter_cons_of_neg (by simpa using h1),List.filter_cons_of_neg (by simpa using h2)]
            simp only[List.length_cons]
            omega
    have:=key x
    simp only[List.length_append,List.length_cons,List.length_nil]
    omega
theorem inNums (x:List Int) (a:Int) (hn:x.length≤4611686018427387904):Evt (fun k=>spec_l09In.f k x a) (decide (a ∈ x)):=by
  have key:=down (T:=fun i=>Evt (fun k=>spec_l09In.l0 k x a (i:Int)) (decide (a ∈ x.drop i))) (n:=x.length) ?_ ?_ x.length 0 (by omega)
  · exact key
  · refine .succ (.const fun k=>?_)
    simp only[spec_l09In.l0]
    rw[if_neg (by omega),List.drop_length]
    simp
  · rintro i hi ⟨K,h⟩
    dsimp only at h
    refine .succ ⟨K,fun k hk=>?_⟩
    simp only[spec_l09In.l0]
    rw[if_pos (by omega),if_pos (by omega),nrd x i hi,List.drop_eq_getElem_cons hi]
    by_cases e:x[i]=a
    · rw[if_pos e]
      simp[e]
    · rw[if_neg e,wsucc hi (by omega),h k hk]
      refine congrArg some ?_
      rw[decide_eq_decide,List.mem_cons]
      exact⟨.inr,fun h=>h.resolve_left (fun h=>e h.symm)⟩
theorem put_l1 (x:List Int) (a:Int) (hn:x.length≤2000000000000): ∀ d i (o:List Int),i+d=x.length→o.length+d≤16000000000000→Evt (fun k=>spec_l10Put.l1 k x a o (i:Int)) (o ++ (x.drop i).filter (fun b=>decide (b>a)))
  | 0,i,o,hi,ho=>by
    refine .succ (.const fun k=>?_)
    simp only[spec_l10Put.l1]
    rw[if_neg (by omega),List.drop_eq_nil_of_le (by omega)]
    simp
  | d+1,i,o,hi,ho=>by
    have hlt:i<x.length:=by omega
    rw[List.drop_eq_getElem_cons hlt]
    by_cases h:x[i]>a
    · obtain⟨K,g⟩:=put_l1 x a hn d (i+1) (o ++ [x[i]]) (by omega) (by simp;omega)
      refine .succ ⟨K,fun k hk=>?_⟩
      simp only[spec_l10Put.l1]
      rw[if_pos (by omega),if_pos (by omega),nrd x i hlt,if_pos h,if_pos (by omega),wsucc hlt (by omega),List.filter_cons_of_pos (by simpa using h)]
      have:=g k hk
      rw[List.append_assoc]at this
      exact this
    · obtain⟨K,g⟩:=put_l1 x a hn d (i+1) o (by omega) (by omega)
      refine .succ ⟨K,fun k hk=>?_⟩
      simp only[spec_l10Put.l1]
      rw[if_pos (by omega),if_pos (by omega),nrd x i hlt,if_neg h,wsucc hlt (by omega),List.filter_cons_of_neg (by simpa using h)]
      exact g k hk
theorem put_l0 (x:List Int) (a:Int) (hn:x.length≤2000000000000): ∀ d i (o:List Int),i+d=x.length→o.length+d≤4000000000000→Evt (fun k=>spec_l10Put.l0 k x a o (i:Int)) (o ++ (x.drop i).filter (fun b=>decide (b<a)) ++ [a] ++ x.filter (fun b=>decide (b>a)))
  | 0,i,o,hi,ho=>by
    obtain⟨K,g⟩:=put_l1 x a hn x.length 0 (o ++ [a]) (by omega) (by simp;omega)
    refine .succ ⟨K,fun k hk=>?_⟩
    simp only[spec_l10Put.l0]
    rw[if_neg (by omega),if_pos (by omega),List.drop_eq_nil_of_le (by omega)]
    simpa using g k hk
  | d+1,i,o,hi,ho=>by
    have hlt:i<x.length:=by omega
    rw[List.drop_eq_getElem_cons hlt]
    by_cases h:x[i]<a
    · obtain⟨K,g⟩:=put_l0 x a hn d (i+1) (o ++ [x[i]]) (by omega) (by simp;omega)
      refine .succ ⟨K,fun k hk=>?_⟩
      simp only[spec_l10Put.l0]
      rw[if_pos (by omega),if_pos (by omega),nrd x i hlt,if_pos h,if_pos (by omega),wsucc hlt (by omega),List.filter_cons_of_pos (by simpa using h)]
      have:=g k hk
      simp only[List.append_assoc,List.cons_append,List.nil_append]at this ⊢
      exact this
    · obtain⟨K,g⟩:=put_l0 x a hn d (i+1) o (by omega) (by omega)
      refine .succ ⟨K,fun k hk=>?_⟩
      simp only[spec_l10Put.l0]
      rw[if_pos (by omega),if_pos (by omega),nrd x i hlt,if_neg h,wsucc hlt (by omega),List.filter_cons_of_neg (by simpa using h)]
      exact g k hk
theorem putV (x:List Int) (a:Int) (hn:x.length≤2000000000000):Evt (fun k=>spec_l10Put.f k x a) (put x a):=by
  obtain⟨K1,h1⟩:=inNums x a (by omega)
  obtain⟨K2,h2⟩:=put_l0 x a hn x.length 0 [] (by omega) (by simp;omega)
  dsimp only at h1 h2
  refine⟨K1+K2,fun k hk=>?_⟩
  simp only[spec_l10Put.f,h1 k (by omega),Option.bind_some,put,decide_eq_true_eq]
  by_cases h:a ∈ x
  · rw[if_pos h,if_pos h]
  · rw[if_neg h,if_neg h]
    have:=h2 k (by omega)
    simpa using this
section
variable (a b c:Int) (R:List S78) (hR:R.length≤1048576) (hb: ∀ y ∈ R,y.f0.length≤1048576)
include hR hb
theorem nums_l1 (i:Nat) (hi:i<R.length): ∀ d j (x:List Int),j+d=R[i].f0.length→x.length+d≤2000000000000→x.Pairwise (· < ·)→∃ y:List Int,y.Pairwise (· < ·)∧y.length≤x.length+d∧(∀ u,u ∈ y ↔ u ∈ x∨u ∈ R[i].f0.drop j)∧∀ O,Evt (fun k=>spec_NumsOf.l0 k y ((i+1:Nat):Int) a b c R) O→Evt (fun k=>spec_NumsOf.l1 k x (i:Int) (j:Int) a b c R) O
  | 0,j,x,hj,hx,hr=>by
    refine⟨x,hr,by omega,fun u=>?_,fun O ⟨K,h⟩=> .succ ⟨K,fun k hk=>?_⟩⟩
    · rw[List.drop_eq_nil_of_le (by omega)]
      simp
    · dsimp only at h
      simp only[spec_NumsOf.l1]
      rw[if_pos (by omega),if_pos (by omega),nrd_T78 R i hi,if_neg (by omega),wsucc hi (by omega)]
      exact h k hk
  | d+1,j,x,hj,hx,hr=>by
    have hlt:j<R[i].f0.length:=by omega
    have hlb:=hb R[i] (List.getElem_mem hi)
    have hl:=put_len x R[i].f0[j]
    obtain⟨K1,h1⟩:=putV x R[i].f0[j] (by omega)
    have hl2:(put x R[i].f0[j]).length≤x.length+1:=by
      rcases hl with hl|hl
      · exact hl
      · exfalso
        have h3:(put x R[i].f0[j]).length≤x.length+1+x.length:=by
          unfold put
          split
          · omega
          · have g1:=List.length_filter_le (fun b=>decide (b<R[i].f0[j])) x
            have g2:=List.length_filter_le (fun b=>decide (b>R[i].f0[j])) x
            simp only[List.length_append,List.length_cons,List.length_nil]
            omega
        omega
    obtain⟨y,hy,hyl,hym,hyE⟩:=nums_l1 i hi d (j+1) (put x R[i].f0[j]) (by omega) (by omega) (put_rise x _ hr)
    dsimp only at h1
    refine⟨y,hy,by omega,fun u=>?_,fun O hO=>?_⟩
    · rw[hym u,put_mem,List.drop_eq_getElem_cons hlt,List.mem_cons]
      constructor
      · rintro ((h|h)|h)
        · exact .inl h
        · exact .inr (.inl h)
        · exact .inr (.inr h)
      · rintro (h|h|h)
        · exact .inl (.inl h)
        · exact .inl (.inr h)
        · exact .inr h
    · obtain⟨K,h⟩:=hyE O hO
      dsimp only at h
      refine .succ ⟨K+K1,fun k hk=>?_⟩
      simp only[spec_NumsOf.l1]
      rw[if_pos (by omega),if_pos (by omega),nrd_T78 R i hi,if_pos (by omega),if_pos (by omega),nrd R[i].f0 j hlt,h1 k (by omega)]
      simp only[Option.bind_some]
      rw[wsucc hlt (by omega)]
      exact h k (by omega)
theorem nums_l0: ∀ d i (x:List Int),i+d=R.length→x.length+1048576*d≤2000000000000→x.Pairwise (· < ·)→∃ O:List Int,Evt (fun k=>spec_NumsOf.l0 k x (i:Int) a b c R) O∧O.Pairwise (· < ·)∧O.length≤x.length+1048576*d∧O.length≤x.length+((R.drop i).map (fun y=>y.f0.length)).sum∧∀ u,u ∈ O ↔ u ∈ x∨u ∈ (R.drop i).flatMap (·.f0)
  | 0,i,x,hi,hx,hr=>by
    refine⟨x,.succ (.const fun k=>?_),hr,by omega,by omega,fun u=>?_⟩
    · simp only[spec_NumsOf.l0]
      rw[if_neg (by omega)]
    · rw[List.drop_eq_nil_of_le (by omega)]
      simp
  | d+1,i,x,hi,hx,hr=>by
    have hlt:i<R.length:=by omega
    have hlb:=hb R[i] (List.getElem_mem hlt)
    obtain⟨y,hy,hyl,hym,hyE⟩:=nums_l1 a b c R hR hb i hlt R[i].f0.length 0 x (by omega) (by omega) hr
    obtain⟨O,hO,hOr,hOl,hOl2,hOm⟩:=nums_l0 d (i+1) y (by omega) (by omega) hy
    obtain⟨K,h⟩:=hyE O hO
    dsimp only at h
    refine⟨O,.succ ⟨K,fun k hk=>?_⟩,hOr,by omega,by rw[List.drop_eq_getElem_cons hlt,List.map_cons,List.sum_cons];omega,fun u=>?_⟩
    · simp only[spec_NumsOf.l0]
      rw[if_pos (by omega)]
      exact h k hk
    · rw[hOm u,hym u,List.drop_eq_getElem_cons hlt,List.flatMap_cons,List.mem_append,List.drop_zero,or_assoc]
theorem numsI_l0: ∀ d i (x:List Int),i+d=R.length→x.length+1048576*d≤2000000000000→Evt (fun k=>impl_NumsOf.l0 k x R (R.length:Int) (i:Int)) (Lib.compact ((x ++ (R.drop i).flatMap (·.f0)).mergeSort fun x y=>decide (x≤y)))
  | 0,i,x,hi,hx=>by
    refine .succ (.const fun k=>?_)
    simp only[impl_NumsOf.l0]
    rw[if_neg (by omega),List.drop_eq_nil_of_le (by omega)]
    simp only[slices_Sort_int_int.f,slices_Compact_int_int.f]
    rw[if_pos (by omega)]
    simp
  | d+1,i,x,hi,hx=>by
    have hlt:i<R.length:=by omega
    have hlb:=hb R[i] (List.getElem_mem hlt)
    obtain⟨K,h⟩:=numsI_l0 d (i+1) (x ++ R[i].f0) (by omega) (by rw[List.length_append];omega)
    dsimp only at h
    refine .succ ⟨K,fun k hk=>?_⟩
    simp only[impl_NumsOf.l0]
    rw[if_pos (by omega),if_pos (by omega),if_pos (by omega),nrd_T78 R i hlt,if_pos (by omega),wsucc hlt (by omega),List.drop_eq_getElem_cons hlt,List.flatMap_cons,← List.append_assoc]
    exact h k hk
theorem numsOf: ∃ O:List Int,O.length≤1100000000000∧O.length≤(R.map (fun y=>y.f0.length)).sum∧O.Pairwise (· < ·)∧(∀ u,u ∈ O ↔ u ∈ R.flatMap (·.f0))∧Evt (fun k=>spec_NumsOf.f k a b c R) O∧Evt (fun k=>impl_NumsOf.f k a b c R) O:=by
  obtain⟨O,hO,hr,hl,hl2,hm⟩:=nums_l0 a b c R hR hb R.length 0 [] (by omega) (by simp;omega) (by simp)
  have hI:=numsI_l0 R hR hb R.length 0 [] (by omega) (by simp;omega)
  have e:Lib.compact ((([] :List Int) ++ (R.drop 0).flatMap (fun y:S78=>y.f0)).mergeSort fun x y=>decide (x≤y))=O:=riseEq _ _ (compact_rise _ (sort_rise _)) hr (fun u=>by
    rw[compact_mem,List.mem_mergeSort,hm u]
    simp)
  rw[e]at hI
  exact⟨O,by simp at hl;omega,by simpa using hl2,hr,fun u=>by rw[hm u];simp,hO,hI⟩
end
section
variable (a b c n:Int) (R:List S78) (t:Bool) (s:ByteArray) (hR:R.length≤1048576) (hb: ∀ y ∈ R,y.f0.length≤1048576∧y.f1.length≤1048576) (hs:s.size≤1000000000)
include hR hb hs
theorem chainSkip (v:Int) (hv:spec_ResultOf.f b c=some v) (o:List S86) (ho:o.length≤1000000000): ∀ d i,i+d=R.length→26≤i→Evt (fun k=>impl_ChainLines.l0 k n t s o R (R.length:Int) (i:Int) a b c R) (o ++ [lw 8 v])
  | 0,i,hi,h26=>by
    refine .succ (.const fun k=>?_)
    simp only[impl_ChainLines.l0,impl_word.f,resI,hv,Option.bind_some]
    rw[if_neg (by omega),if_pos (by omega)]
    rfl
  | d+1,i,hi,h26=>by
    obtain⟨K,h⟩:=chainSkip v hv o ho d (i+1) (by omega) (by omega)
    dsimp only at h
    refine .succ ⟨K+1,fun k hk=>?_⟩
    obtain⟨k,rfl⟩ : ∃ m,k=m+1:=⟨k - 1,by omega⟩
    simp only[impl_ChainLines.l0]
    rw[if_pos (by omega),if_pos (by omega),if_pos (by omega),if_pos (by omega)]
    simp only[impl_ChainLines.j1,if_true]
    rw[wsucc (show i<R.length by omega) (by omega)]
    exact h k (by omega)
/-- What a rule adds to the chain. -/
theorem chainAdd (i:Nat) (hi:i<R.length) (o:List S86) (ho:o.length≤500000000): ∃ L:List S86,L.length≤10*R[i].f1.length+2∧(∀ O,Evt (fun k=>spec_ChainLines.l0 k n t s (o ++ L) ((i+1:Nat):Int) a b c R) O→
    Evt (fun k=>((some (([(wrap64 (97+(i:Int))) % 256] :List Int):List Int)).bind fun y425=>(if s.size+(strOfNums y425).size≤9223372036854775807 then(if(s ++ (strOfNums y425)).size+1≤9223372036854775807 then((spec_RuleLines.f k R[i].f0 R[i].f1 R[i].f2 R[i].f3 (s ++ (strOfNums y425)) ((s ++ (strOfNums y425)) ++ (⟨#[122]⟩ :ByteArray))).bind fun t428=>(if o.length+t428.length<1759218604441 then((some (o ++ t428:List S86)).bind fun y431=>(if y431.length<1759218604441 then(spec_ChainLines.l0 k n t s (y431 ++ [(⟨(s ++ (strOfNums y425)) ++ (⟨#[122]⟩ :ByteArray),⟨0,0,0,0⟩,(⟨#[]⟩ :ByteArray),(⟨#[]⟩ :ByteArray)⟩ :S86)]) (wrap64 ((i:Int)+1)) a b c R)else(none)))else(none)))else(none))else(none)))) O)∧
    (∀ O,Evt (fun k=>impl_ChainLines.l0 k n t s (o ++ L) R (R.length:Int) ((i+1:Nat):Int) a b c R) O→Evt (fun k=>impl_ChainLines.j1 k n t s o (i:Int) R (R.length:Int) (i:Int) false a b c R R[i].f0 R[i].f1 R[i].f2 R[i].f3) O):=by
  obtain⟨_,hl⟩:=hb R[i] (List.getElem_mem hi)
  have z1:(strOfNums [(wrap64 (97+(i:Int))) % 256]).size=1:=rfl
  have z2:(s ++ strOfNums [(wrap64 (97+(i:Int))) % 256]).size=s.size+1:=by rw[ByteArray.size_append,z1]
  obtain⟨O,hO,⟨K1,h1⟩,⟨K2,h2⟩⟩:=ruleLines R[i].f0 R[i].f1 R[i].f2 R[i].f3 (s ++ strOfNums [(wrap64 (97+(i:Int))) % 256]) ((s ++ strOfNums [(wrap64 (97+(i:Int))) % 256]) ++ (⟨#[122]⟩ :ByteArray)) hl (by omega)
  dsimp only at h1 h2
  refine⟨O ++ [lp ((s ++ strOfNums [(wrap64 (97+(i:Int))) % 256]) ++ (⟨#[122]⟩ :ByteArray))],by simp;omega,fun V ⟨K,h⟩=>⟨K+K1,fun k hk=>?_⟩,fun V ⟨K,h⟩=> .succ ⟨K+K2,fun k hk=>?_⟩⟩
  · dsimp only at h
    simp only[Option.bind_some]
    rw[if_pos (by omega),if_pos (by omega),h1 k (by omega)]
    simp only[Option.bind_some]
    rw[if_pos (by omega),if_pos (by rw[List.length_append];omega),wsucc hi (by omega)]
    rw[← List.append_assoc]at h
    exact h k (by omega)
  · dsimp only at h
    simp only[impl_ChainLines.j1,Option.bind_some,Bool.false_eq_true,if_false]
    rw[if_pos (by omega),if_pos (by omega),h2 k (by omega)]
    simp only[Option.bind_some,impl_place.f]
    rw[if_pos (by omega),if_pos (by rw[List.length_append];omega),wsucc hi (by omega)]
    rw[← List.append_assoc]at h
    exact h k (by omega)
theorem chainB (M:Nat) (hM:M≤300000000) (hsum:10*(R.map (fun y=>y.f1.length)).sum+52≤M): ∃ O:List S86,O.length≤M+1∧Evt (fun k=>spec_ChainLines.f k a b c R n t s) O∧Evt (fun k=>impl_ChainLines.f k a b c R n t s) O:=by
  obtain⟨v,hv⟩:=res b c
  have key:=down (T:=fun i=> ∀ o:List S86,o.length+10*((R.drop i).map (fun y=>y.f1.length)).sum+2*(26 - i)≤M→∃ O:List S86,O.length≤M+1∧Evt (fun k=>spec_ChainLines.l0 k n t s o (i:Int) a b c R) O∧Evt (fun k=>impl_ChainLines.l0 k n t s o R (R.length:Int) (i:Int) a b c R) O) (n:=min 26 R.length) ?_ ?_ (min 26 R.length) 0 (by omega) [] (by simpa using hsum)
  · exact key
  · intro o ho
    have h26:min 26 R.length≤26:=Nat.min_le_left _ _
    refine⟨o ++ [lw 8 v],by simp;omega,.succ (.succ (.const fun k=>?_)),?_⟩
    · simp only[spec_ChainLines.l0,spec_ChainLines.j1]
      by_cases h:((min 26 R.length:Nat):Int)<(R.length:Int)
      · rw[if_pos h,decide_eq_false (by omega)]
        simp only[Bool.false_eq_true,if_false,spec_l11Word.f,hv,Option.bind_some]
        rw[if_pos (by omega)]
        rfl
      · rw[if_neg h]
        simp only[Bool.false_eq_true,if_false,spec_l11Word.f,hv,Option.bind_some]
        rw[if_pos (by omega)]
        rfl
    · by_cases h:R.length≤26
      · refine .succ (.const fun k=>?_)
        simp only[impl_ChainLines.l0,impl_word.f,resI,hv,Option.bind_some]
        rw[if_neg (by omega),if_pos (by omega)]
        rfl
      · exact chainSkip a b c n R t s hR hb hs v hv o (by omega) (R.length - min 26 R.length) (min 26 R.length) (by omega) (by omega)
  · intro i hi ih o ho
    have hlt:i<R.length:=by omega
    have hi26:i<26:=by omega
    obtain⟨b0,b1⟩:=hb R[i] (List.getElem_mem hlt)
    obtain⟨L,hL,aS,aI⟩:=chainAdd a b c n R t s hR hb hs i hlt o (by omega)
    have hdr:((R.drop i).map (fun y=>y.f1.length)).sum=R[i].f1.length+((R.drop (i+1)).map (fun y=>y.f1.length)).sum:=by rw[List.drop_eq_getElem_cons hlt,List.map_cons,List.sum_cons]
    obtain⟨O1,hO1,⟨K1,s1⟩,⟨K2,i1⟩⟩:=ih o (by omega)
    obtain⟨O2,hO2,s2,i2⟩:=ih (o ++ L) (by rw[List.length_append];omega)
    obtain⟨K3,s3⟩:=aS O2 s2
    obtain⟨K4,i3⟩:=aI O2 i2
    obtain⟨q,⟨K5,n1⟩,⟨K6,n2⟩⟩:=nums_in R[i].f0 n (by omega)
    dsimp only at s1 i1 s3 i3 n1 n2
    have eS: ∀ k,spec_ChainLines.l0 (k+1+1) n t s o (i:Int) a b c R=spec_ChainLines.j1 (k+1) n t s o (i:Int) true a b c R:=fun k=>by
      rw[spec_ChainLines.l0]
      rw[if_pos (by omega),decide_eq_true (by omega)]
    by_cases h0:(R[i].f0.length:Int)>0
    · cases t with
      | true=>
        refine⟨O1,hO1,.succ (.succ ⟨K1,fun k hk=>?_⟩),.succ (.succ ⟨K2,fun k hk=>?_⟩)⟩
        · dsimp only
          rw[eS]
          simp only[spec_ChainLines.j1,if_true]
          rw[if_pos (by omega),if_pos (by omega),nrd_T78 R i hlt,if_pos h0,wsucc hlt (by omega)]
          exact s1 k hk
        · simp only[impl_ChainLines.l0,impl_ChainLines.j1]
          rw[if_pos (by omega),if_pos (by omega),if_pos (by omega),if_neg (by omega),nrd_T78 R i hlt,if_pos h0]
          simp only[if_true]
          rw[wsucc hlt (by omega)]
          exact i1 k hk
      | false=>
        by_cases hq:q≥0
        · refine⟨O2,hO2,.succ (.succ ⟨K3+K5,fun k hk=>?_⟩),.succ ⟨K4+K6,fun k hk=>?_⟩⟩
          · dsimp only
            rw[eS]
            simp only[spec_ChainLines.j1,if_true]
            rw[if_pos (by omega),if_pos (by omega),nrd_T78 R i hlt,if_pos h0,if_neg (by simp),n1 k (by omega),decide_eq_true hq]
            simp only[Option.bind_some,if_true]
            have g:=s3 k (by omega)
            simp only[Option.bind_some]at g
            exact g
          · simp only[impl_ChainLines.l0]
            rw[if_pos (by omega),if_pos (by omega),if_pos (by omega),if_neg (by omega),nrd_T78 R i hlt,if_pos h0,if_neg (by simp)]
            simp only[slices_Contains_int_int.f,n2 k (by omega),Option.bind_some,decide_eq_true hq,Bool.not_true]
            exact i3 k (by omega)
        · refine⟨O1,hO1,.succ (.succ ⟨K1+K5,fun k hk=>?_⟩),.succ (.succ ⟨K2+K6,fun k hk=>?_⟩)⟩
          · dsimp only
            rw[eS]
            simp only[spec_ChainLines.j1,if_true]
            rw[if_pos (by omega),if_pos (by omega),nrd_T78 R i hlt,if_pos h0,if_neg (by simp),n1 k (by omega),decide_eq_false hq]
            simp only[Option.bind_some,Bool.false_eq_true,if_false]
            rw[wsucc hlt (by omega)]
            exact s1 k (by omega)
          · simp only[impl_ChainLines.l0]
            rw[if_pos (by omega),if_pos (by omega),if_pos (by omega),if_neg (by omega),nrd_T78 R i hlt,if_pos h0,if_neg (by simp)]
            simp only[slices_Contains_int_int.f,n2 (k+1) (by omega),Option.bind_some,decide_eq_false hq,Bool.not_false]
            simp only[impl_ChainLines.j1,if_true]
            rw[wsucc hlt (by omega)]
            exact i1 k (by omega)
    · refine⟨O2,hO2,.succ (.succ ⟨K3,fun k hk=>?_⟩),.succ ⟨K4,fun k hk=>?_⟩⟩
      · dsimp only
        rw[eS]
        simp only[spec_ChainLines.j1,if_true]
        rw[if_pos (by omega),if_pos (by omega),nrd_T78 R i hlt,if_neg h0]
        have g:=s3 k (by omega)
        simp only[Option.bind_some]at g ⊢
        exact g
      · simp only[impl_ChainLines.l0]
        rw[if_pos (by omega),if_pos (by omega),if_pos (by omega),if_neg (by omega),nrd_T78 R i hlt,if_neg h0]
        exact i3 k (by omega)
end
section
variable (a b c:Int) (R:List S78) (C:Nat) (hC:C≤400000000) (hch: ∀ (n:Int) (t:Bool) (s:ByteArray),s.size≤1000000000→∃ O:List S86,O.length≤C∧Evt (fun k=>spec_ChainLines.f k a b c R n t s) O∧Evt (fun k=>impl_ChainLines.f k a b c R n t s) O)
include hC hch
/-- A tree over numbers: the same on both sides, and no longer than its leaves make it. -/
theorem tree: ∀ (m:Nat) (l:List Int) (s:ByteArray),l.length≤m→s.size+l.length≤900000000→(2*C+6)*l.length≤1700000000000→∃ O:List S86,(O.length+3≤(2*C+6)*l.length∨l.length=0∧O.length≤C)∧Evt (fun k=>spec_TreeLines.f k a b c R l s) O∧Evt (fun k=>impl_TreeLines.f k a b c R l s) O:=by
  intro m
  induction m with
  | zero=>
    intro l s hl hs hD
    obtain⟨O,hO,⟨K1,h1⟩,⟨K2,h2⟩⟩:=hch 0 true s (by omega)
    dsimp only at h1 h2
    refine⟨O,.inr ⟨by omega,hO⟩,.succ ⟨K1,fun k hk=>?_⟩,.succ ⟨K2,fun k hk=>?_⟩⟩
    · simp only[spec_TreeLines.f]
      rw[if_pos (by omega),h1 k hk]
      rfl
    · simp only[impl_TreeLines.f]
      rw[if_pos (by omega),h2 k hk]
      rfl
  | succ m ih=>
    intro l s hl hs hD
    by_cases h0:l.length=0
    · exact ih l s (by omega) hs hD
    by_cases h1:l.length=1
    · have zy:(s ++ (⟨#[121]⟩ :ByteArray)).size=s.size+1:=by rw[ByteArray.size_append];rfl
      have zx:(s ++ (⟨#[120]⟩ :ByteArray)).size=s.size+1:=by rw[ByteArray.size_append];rfl
      obtain⟨O1,hO1,⟨K1,g1⟩,⟨K2,g2⟩⟩:=hch (rd l 0) false (s ++ (⟨#[121]⟩ :ByteArray)) (by omega)
      obtain⟨O2,hO2,⟨K3,g3⟩,⟨K4,g4⟩⟩:=hch 0 true (s ++ (⟨#[120]⟩ :ByteArray)) (by omega)
      dsimp only at g1 g2 g3 g4
      have hlen:((([la 3 (rd l 0) (s ++ (⟨#[121]⟩ :ByteArray)) (s ++ (⟨#[120]⟩ :ByteArray)),lp (s ++ (⟨#[121]⟩ :ByteArray))] ++ O1) ++ [lp (s ++ (⟨#[120]⟩ :ByteArray))]) ++ O2).length=3+O1.length+O2.length:=by simp;omega
      have hl1:([la 3 (rd l 0) (s ++ (⟨#[121]⟩ :ByteArray)) (s ++ (⟨#[120]⟩ :ByteArray)),lp (s ++ (⟨#[121]⟩ :ByteArray))]).length=2:=rfl
      refine⟨(([la 3 (rd l 0) (s ++ (⟨#[121]⟩ :ByteArray)) (s ++ (⟨#[120]⟩ :ByteArray)),lp (s ++ (⟨#[121]⟩ :ByteArray))] ++ O1) ++ [lp (s ++ (⟨#[120]⟩ :ByteArray))]) ++ O2,.inl (by rw[hlen,h1];omega),.succ ⟨K1+K3,fun k hk=>?_⟩,.succ ⟨K2+K4,fun k hk=>?_⟩⟩
      · clear ih
        as_aux_lemma=>
          dsimp only
          rw[spec_TreeLines.f,if_neg (by omega),if_pos (by omega),if_pos (by omega),if_pos (by omega)]
          simp only[spec_l11Asks.f,Option.bind_some]
          rw[g1 k (by omega)]
          simp only[Option.bind_some]
          rw[if_pos (by simp only[List.length_cons,List.length_nil];omega),if_pos (by simp only[List.length_append,List.length_cons,List.length_nil];omega),g3 k (by omega)]
          simp only[Option.bind_some]
          rw[if_pos (by simp only[List.length_append,List.length_cons,List.length_nil];omega)]
          rfl
      · clear ih
        as_aux_lemma=>
          dsimp only
          rw[impl_TreeLines.f,if_neg (by omega),if_pos (by omega),if_pos (by omega),if_pos (by omega)]
          simp only[impl_ask.f,impl_place.f,Option.bind_some]
          rw[g2 k (by omega)]
          simp only[Option.bind_some]
          rw[if_pos (by simp only[List.length_cons,List.length_nil];omega),if_pos (by simp only[List.length_append,List.length_cons,List.length_nil];omega),g4 k (by omega)]
          simp only[Option.bind_some]
          rw[if_pos (by simp only[List.length_append,List.length_cons,List.length_nil];omega)]
          rfl
    · have zl:(s ++ (⟨#[108]⟩ :ByteArray)).size=s.size+1:=by rw[ByteArray.size_append];rfl
      have zh:(s ++ (⟨#[104]⟩ :ByteArray)).size=s.size+1:=by rw[ByteArray.size_append];rfl
      have e1:Aside0 (wrap64 ((l.length:Int) / 2)=((l.length / 2:Nat):Int)):=⟨by rw[w64 (by omega) (by omega)];omega⟩
      have hp:(l.take (l.length / 2)).length=l.length / 2:=by rw[List.length_take];omega
      have hq:(l.drop (l.length / 2)).length=l.length - l.length / 2:=List.length_drop
      have hDs:(2*C+6)*l.length=(2*C+6)*(l.length / 2)+(2*C+6)*(l.length - l.length / 2):=by rw[← Nat.mul_add];congr 1;omega
      obtain⟨O1,hO1,⟨K1,g1⟩,⟨K2,g2⟩⟩:=ih (l.take (l.length / 2)) (s ++ (⟨#[108]⟩ :ByteArray)) (by omega) (by omega) (by rw[hp];omega)
      obtain⟨O2,hO2,⟨K3,g3⟩,⟨K4,g4⟩⟩:=ih (l.drop (l.length / 2)) (s ++ (⟨#[104]⟩ :ByteArray)) (by omega) (by omega) (by rw[hq];omega)
      rw[hp]at hO1
      rw[hq]at hO2
      replace hO1:=hO1.resolve_right (by omega)
      replace hO2:=hO2.resolve_right (by omega)
      dsimp only at g1 g2 g3 g4
      generalize (2*C+6)*(l.length / 2)=D1 at hO1 hDs
      generalize (2*C+6)*(l.length - l.length / 2)=D2 at hO2 hDs
      have hlen:((([la 5 (rd l ((l.length / 2:Nat):Int)) (s ++ (⟨#[104]⟩ :ByteArray)) (s ++ (⟨#[108]⟩ :ByteArray)),lp (s ++ (⟨#[108]⟩ :ByteArray))] ++ O1) ++ [lp (s ++ (⟨#[104]⟩ :ByteArray))]) ++ O2).length=3+O1.length+O2.length:=by simp;omega
      refine⟨(([la 5 (rd l ((l.length / 2:Nat):Int)) (s ++ (⟨#[104]⟩ :ByteArray)) (s ++ (⟨#[108]⟩ :ByteArray)),lp (s ++ (⟨#[108]⟩ :ByteArray))] ++ O1) ++ [lp (s ++ (⟨#[104]⟩ :ByteArray))]) ++ O2,.inl (by rw[hlen,hDs];omega),.succ ⟨K1+K3,fun k hk=>?_⟩,.succ ⟨K2+K4,fun k hk=>?_⟩⟩
      · clear ih
        as_aux_lemma=>
          simp only[spec_TreeLines.f,spec_l11Asks.f,Option.bind_some,e1.out,Int.toNat_natCast]
          rw[if_neg (by omega),if_neg (by omega),if_pos (by omega),if_pos (by omega),if_pos (by omega),if_pos (by omega),g1 k (by omega)]
          simp only[Option.bind_some]
          rw[if_pos (by simp only[List.length_cons,List.length_nil];omega),if_pos (by simp only[List.length_append,List.length_cons,List.length_nil];omega),g3 k (by omega)]
          simp only[Option.bind_some]
          rw[if_pos (by simp only[List.length_append,List.length_cons,List.length_nil];omega)]
          rfl
      · clear ih
        as_aux_lemma=>
          simp only[impl_TreeLines.f,impl_ask.f,impl_place.f,Option.bind_some,e1.out,Int.toNat_natCast]
          rw[if_neg (by omega),if_neg (by omega),if_pos (by omega),if_pos (by omega),if_pos (by omega),if_pos (by omega),g2 k (by omega)]
          simp only[Option.bind_some]
          rw[if_pos (by simp only[List.length_cons,List.length_nil];omega),if_pos (by simp only[List.length_append,List.length_cons,List.length_nil];omega),g4 k (by omega)]
          simp only[Option.bind_some]
          rw[if_pos (by simp only[List.length_append,List.length_cons,List.length_nil];omega)]
          rfl
end
/-- So many conditions and so many leaves, and what their lines come to. -/
theorem leaves (c n:Nat) (h:6*c+n≤1048576):(2*(10*c+53)+6)*n≤1700000000000:=by
  have h1:(2*(10*c+53)+6)*n=20*(c*n)+112*n:=by rw[Nat.add_mul,Nat.mul_add,Nat.add_mul,← Nat.mul_assoc 2 10 c,Nat.mul_assoc (2*10) c n];omega
  have h2:6*(c*n)≤274877906944:=by
    have e:n≤1048576 - 6*c:=by omega
    have h3:6*c*n≤6*c*(1048576 - 6*c):=Nat.mul_le_mul_left _ e
    have h4: ∀ x:Nat,x≤1048576→x*(1048576 - x)≤274877906944:=by
      intro x hx
      obtain⟨y,hy⟩ : ∃ y,x+y=1048576:=⟨1048576 - x,by omega⟩
      have:1048576 - x=y:=by omega
      rw[this]
      rcases Nat.le_total x 524288 with hx2|hx2
      · obtain⟨d,hd⟩ : ∃ d,x+d=524288:=⟨524288 - x,by omega⟩
        have hy2:y=524288+d:=by omega
        have hx3:x=524288 - d:=by omega
        have:x*y+d*d=524288*524288:=by
          subst hy2
          have:x*(524288+d)+d*d=x*524288+(x+d)*d:=by rw[Nat.mul_add,Nat.add_mul,Nat.add_assoc]
          rw[this,hd,Nat.mul_comm x 524288,← Nat.mul_add,hd]
        omega
      · obtain⟨d,hd⟩ : ∃ d,y+d=524288:=⟨524288 - y,by omega⟩
        have hx3:x=524288+d:=by omega
        have:x*y+d*d=524288*524288:=by
          subst hx3
          have:(524288+d)*y+d*d=524288*y+d*(y+d):=by rw[Nat.mul_add,Nat.add_mul,Nat.add_assoc]
          rw[this,hd,Nat.mul_comm d 524288,← Nat.mul_add,hd]
        omega
    have:=h4 (6*c) (by omega)
    rw[← Nat.mul_assoc]
    omega
  omega
theorem askS (a:Int):spec_l06Ask.f a=some (decide (3≤a∧a≤6)):=by
 unfold spec_l06Ask.f
 rw[inS]
 rfl
theorem askI (a b c d:Int):impl_Ins_asks.f a b c d=some (decide (3≤a∧a≤6)):=askS a
def InsP (a b c d:Int):Prop:=(1≤a∧a≤8)∧(0≤b∧b≤4294967295)∧(0≤c∧c≤15)∧(0≤d∧d≤15)∧((3≤a∧a≤6)∨(c=0∧d=0))∧(a=1→b<8)∧(a=7→b<400)
instance (a b c d:Int):Decidable (InsP a b c d):=by unfold InsP;infer_instance
theorem okS (k:Nat) (hk:2≤k) (a b c d:Int):spec_InsOk.f k a b c d=some (decide (InsP a b c d)):=by
 obtain⟨k,rfl⟩ : ∃ m,k=m+2:=⟨k - 2,by omega⟩
 have e: ∀ x:Bool,(x=true ↔ InsP a b c d)→some x=some (decide (InsP a b c d)):=fun x h=>congrArg some (by rw[Bool.eq_iff_iff,h];simp)
 unfold spec_InsOk.f
 simp only[inS,halfS,askS,spec_InsOk.j0,spec_InsOk.j1,Option.bind_some,decide_eq_true_eq,Bool.not_eq_true',decide_eq_false_iff_not]
 repeat' split
 all_goals (refine e _ ?_;clear e;unfold InsP;(try simp only[Bool.false_eq_true,bne_iff_ne,ne_eq,decide_eq_true_eq,false_iff,true_iff,Classical.not_not]at *))
 all_goals (first|contradiction|omega)
theorem okI (k:Nat) (hk:2≤k) (a b c d:Int):impl_InsOk.f k a b c d=some (decide (InsP a b c d)):=by
 obtain⟨k,rfl⟩ : ∃ m,k=m+2:=⟨k - 2,by omega⟩
 have e: ∀ x:Bool,(x=true ↔ InsP a b c d)→some x=some (decide (InsP a b c d)):=fun x h=>congrArg some (by rw[Bool.eq_iff_iff,h];simp)
 unfold impl_InsOk.f
 simp only[inI,halfI,askI,impl_InsOk.j0,Option.bind_some,decide_eq_true_eq,bne_iff_ne]
 repeat' split
 all_goals (refine e _ ?_;clear e;unfold InsP;(try simp only[Bool.false_eq_true,bne_iff_ne,ne_eq,decide_eq_true_eq,false_iff,true_iff,Classical.not_not]at *))
 all_goals (first|contradiction|omega)
/-- Where a word leads at the farthest. -/
def farP (x:S71) (i:Int):Int:=if 3≤x.f0∧x.f0≤6 then i+1+mx x.f2 x.f3 else if x.f0=7 then i+1+x.f1 else i
/-- A right word at a place, that leads inside. -/
def AtP (l:List S71) (j:Nat) (h:j<l.length):Prop:=InsP l[j].f0 l[j].f1 l[j].f2 l[j].f3∧farP l[j] j<l.length
/-- A right program. -/
def ProgP (l:List S71):Prop:=(1≤l.length∧l.length≤400)∧(∀ h:0<l.length,(l[l.length - 1]'(by omega)).f0=8)∧∀ j (h:j<l.length),AtP l j h
/-- The same, as the reference asks it. -/
def AtS (l:List S71) (j:Nat) (h:j<l.length):Prop:=InsP l[j].f0 l[j].f1 l[j].f2 l[j].f3∧(l[j].f0=8∨(j:Int)+1+(if l[j].f0=7 then l[j].f1 else if l[j].f2>l[j].f3 then l[j].f2 else l[j].f3)<l.length)
theorem l07 (a b c d:Int):spec_l07Far.f a b c d=some (if a=7 then b else if c>d then c else d):=by
 unfold spec_l07Far.f
 split
 ·rfl
 ·split <;> rfl
theorem chkS_l0 (l:List S71) (h0:0<l.length) (hn:l.length≤400): ∀ (d i:Nat),i+d=l.length→∃ b,(∀ k,d+3≤k→spec_CheckProgram.l0 k l (i:Int)=some b)∧(b=true ↔ (∀ j (h:j<l.length),i≤j→AtS l j h)∧(l[l.length - 1]'(by omega)).f0=8)
 | 0,i,hi=>by
  have e1:wrap64 ((l.length:Int) - 1)=((l.length - 1:Nat):Int):=by rw[w64 (by omega) (by omega)];omega
  have hr:rd_T71 l ((l.length - 1:Nat):Int)=l[l.length - 1]'(by omega):=rd_nat71 l _ (by omega)
  refine⟨(l[l.length - 1]'(by omega)).f0 == 8,fun k hk=>?_,?_⟩
  ·obtain⟨k,rfl⟩ : ∃ m,k=m+1:=⟨k - 1,by omega⟩
   simp only[spec_CheckProgram.l0]
   rw[if_neg (by omega),e1,if_pos (by omega),if_pos (by omega),hr]
  ·simp only[beq_iff_eq]
   exact⟨fun h=>⟨fun j h1 h2=>by omega,h⟩,fun h=>h.2⟩
 | d+1,i,hi=>by
  have hlt:i<l.length:=by omega
  obtain⟨b,hb,hbi⟩:=chkS_l0 l h0 hn d (i+1) (by omega)
  have step: ∀ k,spec_CheckProgram.l0 (k+1) l (i:Int)=((spec_InsOk.f k l[i].f0 l[i].f1 l[i].f2 l[i].f3).bind fun t=>if t=true then(if l[i].f0=8 then spec_CheckProgram.l0 k l ((i+1:Nat):Int)else((spec_l07Far.f l[i].f0 l[i].f1 l[i].f2 l[i].f3).bind fun u=>if wrap64 (((i+1:Nat):Int)+u)≥(l.length:Int)then some false else spec_CheckProgram.l0 k l ((i+1:Nat):Int)))else some false):=by
   intro k
   simp only[spec_CheckProgram.l0]
   rw[if_pos (by omega),if_pos (by omega),rd_nat71 l i hlt,wsucc hlt (by omega)]
  by_cases hA:AtS l i hlt
  ·refine⟨b,fun k hk=>?_,?_⟩
   ·obtain⟨k,rfl⟩ : ∃ m,k=m+1:=⟨k - 1,by omega⟩
    obtain⟨h1,h2⟩:=hA
    rw[step,okS k (by omega),l07]
    simp only[Option.bind_some,decide_eq_true_eq]
    rw[if_pos h1]
    split
    ·exact hb k (by omega)
    ·rename_i h8
     have h3:=h2.resolve_left h8
     unfold InsP at h1
     rw[if_neg (by rw[w64 (by split <;> (try split) <;> omega) (by split <;> (try split) <;> omega)];omega)]
     exact hb k (by omega)
   ·rw[hbi]
    refine⟨fun h=>⟨fun j hj hij=>?_,h.2⟩,fun h=>⟨fun j hj hij=>h.1 j hj (by omega),h.2⟩⟩
    rcases Nat.lt_or_ge i j with h3|h3
    ·exact h.1 j hj (by omega)
    ·have:i=j:=by omega
     subst this
     exact hA
  ·refine⟨false,fun k hk=>?_,⟨(fun h=>by cases h),fun h=>absurd (h.1 i hlt (Nat.le_refl _)) hA⟩⟩
   obtain⟨k,rfl⟩ : ∃ m,k=m+1:=⟨k - 1,by omega⟩
   rw[step,okS k (by omega),l07]
   simp only[Option.bind_some,decide_eq_true_eq]
   split
   ·rename_i h1
    have h8: ¬ l[i].f0=8:=fun h=>hA ⟨h1,.inl h⟩
    have h3: ¬ (i:Int)+1+(if l[i].f0=7 then l[i].f1 else if l[i].f2>l[i].f3 then l[i].f2 else l[i].f3)<l.length:=fun h=>hA ⟨h1,.inr h⟩
    unfold InsP at h1
    rw[if_neg h8,if_pos (by rw[w64 (by split <;> (try split) <;> omega) (by split <;> (try split) <;> omega)];omega)]
   ·rfl
theorem chkS (l:List S71): ∃ b,(∀ k,l.length+4≤k→spec_CheckProgram.f k l=some b)∧(b=true ↔ ProgP l):=by
 by_cases h1:1≤l.length∧l.length≤400
 ·obtain⟨b,hb,hbi⟩:=chkS_l0 l (by omega) h1.2 l.length 0 (by omega)
  refine⟨b,fun k hk=>?_,?_⟩
  ·unfold spec_CheckProgram.f
   rw[inS]
   simp only[Option.bind_some,decide_eq_true_eq]
   rw[if_pos (by omega)]
   exact hb k (by omega)
  ·rw[hbi]
   have key:(l[l.length - 1]'(by omega)).f0=8→∀ j (h:j<l.length),(AtS l j h ↔ AtP l j h):=by
    intro h8 j hj
    unfold AtS AtP farP
    refine and_congr_right fun hI=>?_
    have hl:j+1<l.length∨l[j].f0=8:=by
     rcases Nat.lt_or_ge (j+1) l.length with h|h
     ·exact .inl h
     ·have:j=l.length - 1:=by omega
      subst this
      exact .inr h8
    unfold InsP at hI
    unfold mx
    constructor
    · intro h
      split
      · rcases h with h|h
        · omega
        · rw[if_neg (by omega)]at h
          split <;> (split at h <;> omega)
      · split
        · rename_i h7
          rcases h with h|h
          · omega
          · rw[if_pos h7]at h
            omega
        · omega
    · intro h
      rcases hl with hl|hl
      · by_cases h9:l[j].f0=8
        · exact .inl h9
        · right
          by_cases h7:l[j].f0=7
          · rw[if_pos h7]
            rw[if_neg (by omega),if_pos h7]at h
            omega
          · rw[if_neg h7]
            by_cases ha:3≤l[j].f0∧l[j].f0≤6
            · rw[if_pos ha]at h
              split <;> (split at h <;> omega)
            · split <;> omega
      · exact .inl hl
   refine⟨fun h=>⟨h1,fun _=>h.2,fun j hj=>(key h.2 j hj).1 (h.1 j hj (by omega))⟩,fun h=>⟨fun j hj _=>(key (h.2.1 (by omega)) j hj).2 (h.2.2 j hj),h.2.1 (by omega)⟩⟩
 ·refine⟨false,fun k hk=>?_,⟨(fun h=>by cases h),fun h=>absurd h.1 h1⟩⟩
  unfold spec_CheckProgram.f
  rw[inS]
  simp only[Option.bind_some,decide_eq_true_eq]
  rw[if_neg (by omega)]
/-- The first place from an index on. -/
def Fst (Q:Nat→Prop) (n i:Nat) (v:Int):Prop:=(∃ j,i≤j∧j<n∧Q j∧v=(j:Int)∧∀ m,i≤m→m<j→ ¬ Q m)∨(v= -1∧∀ m,i≤m→m<n→ ¬ Q m)
def PZ (x:S86):Prop:=x.f1.f0=0∧x.f1.f1=0∧x.f1.f2=0∧x.f1.f3=0
instance (x:S86):Decidable (PZ x):=by unfold PZ;infer_instance
def QS (L:List S86) (s:List UInt8) (j:Nat):Prop:= ∃ h:j<L.length,PZ L[j]∧L[j].f0.toList=s
def QI (L:List S86) (s:List UInt8) (j:Nat):Prop:= ∃ h:j<L.length,L[j].f1.f0=0∧L[j].f0.toList=s
theorem Fst.here {Q:Nat→Prop} {n i:Nat} (h:i<n) (hq:Q i):Fst Q n i (i:Int):= .inl ⟨i,Nat.le_refl _,h,hq,rfl,fun m h1 h2=>by omega⟩
theorem Fst.next {Q:Nat→Prop} {n i:Nat} {v:Int} (hq: ¬ Q i) (h:Fst Q n (i+1) v):Fst Q n i v:=by
  rcases h with⟨j,h1,h2,h3,h4,h5⟩|⟨h1,h2⟩
  · refine .inl ⟨j,by omega,h2,h3,h4,fun m h6 h7=>?_⟩
    rcases Nat.lt_or_ge i m with h8|h8
    · exact h5 m h8 h7
    · have:m=i:=by omega
      subst this
      exact hq
  · refine .inr ⟨h1,fun m h6 h7=>?_⟩
    rcases Nat.lt_or_ge i m with h8|h8
    · exact h2 m h8 h7
    · have:m=i:=by omega
      subst this
      exact hq
theorem atS_l0 (L:List S86) (s:ByteArray) (hn:L.length≤4611686018427387904): ∀ d i,i+d=L.length→∃ v,(∀ k,d<k→spec_l11At.l0 k L s (i:Int)=some v)∧Fst (QS L s.toList) L.length i v
  | 0,i,hi=>by
    refine⟨-1,fun k hk=>?_,.inr ⟨rfl,fun m h1 h2=>by omega⟩⟩
    obtain⟨k,rfl⟩ : ∃ m,k=m+1:=⟨k - 1,by omega⟩
    simp only[spec_l11At.l0]
    rw[if_neg (by omega)]
  | d+1,i,hi=>by
    have hlt:i<L.length:=by omega
    by_cases hq:QS L s.toList i
    · refine⟨i,fun k hk=>?_,.here hlt hq⟩
      obtain⟨k,rfl⟩ : ∃ m,k=m+1:=⟨k - 1,by omega⟩
      obtain⟨_,h1,h2⟩:=hq
      simp only[spec_l11At.l0,spec_l11Place.f]
      rw[if_pos (by omega),if_pos (by omega),rd_nat86 L i hlt]
      simp only[Option.bind_some]
      rw[if_pos (by obtain⟨a,b,c,d⟩:=h1;simp[a,b,c,d]),if_pos h2]
    · obtain⟨v,h1,h2⟩:=atS_l0 L s hn d (i+1) (by omega)
      refine⟨v,fun k hk=>?_,h2.next hq⟩
      obtain⟨k,rfl⟩ : ∃ m,k=m+1:=⟨k - 1,by omega⟩
      simp only[spec_l11At.l0,spec_l11Place.f]
      rw[if_pos (by omega),if_pos (by omega),rd_nat86 L i hlt,wsucc hlt (by omega)]
      simp only[Option.bind_some]
      by_cases hp:PZ L[i]
      · rw[if_pos (by obtain⟨a,b,c,d⟩:=hp;simp[a,b,c,d]),if_neg fun h=>hq ⟨hlt,hp,h⟩]
        exact h1 k (by omega)
      · rw[if_neg (by unfold PZ at hp;simp;grind)]
        exact h1 k (by omega)
theorem atI_l0 (L:List S86) (s:ByteArray) (hn:L.length≤4611686018427387904): ∀ d i,i+d=L.length→∃ v,(∀ k,d<k→impl_placeOf.l0 k L s (i:Int)=some v)∧Fst (QI L s.toList) L.length i v
  | 0,i,hi=>by
    refine⟨-1,fun k hk=>?_,.inr ⟨rfl,fun m h1 h2=>by omega⟩⟩
    obtain⟨k,rfl⟩ : ∃ m,k=m+1:=⟨k - 1,by omega⟩
    simp only[impl_placeOf.l0]
    rw[if_neg (by omega)]
  | d+1,i,hi=>by
    have hlt:i<L.length:=by omega
    by_cases hq:QI L s.toList i
    · refine⟨i,fun k hk=>?_,.here hlt hq⟩
      obtain⟨k,rfl⟩ : ∃ m,k=m+1:=⟨k - 1,by omega⟩
      obtain⟨_,h1,h2⟩:=hq
      simp only[impl_placeOf.l0,impl_Line_isPlace.f]
      rw[if_pos (by omega),if_pos (by omega),rd_nat86 L i hlt]
      simp only[Option.bind_some]
      rw[if_pos (by simp[h1]),if_pos h2]
    · obtain⟨v,h1,h2⟩:=atI_l0 L s hn d (i+1) (by omega)
      refine⟨v,fun k hk=>?_,h2.next hq⟩
      obtain⟨k,rfl⟩ : ∃ m,k=m+1:=⟨k - 1,by omega⟩
      simp only[impl_placeOf.l0,impl_Line_isPlace.f]
      rw[if_pos (by omega),if_pos (by omega),rd_nat86 L i hlt,wsucc hlt (by omega)]
      simp only[Option.bind_some]
      by_cases hp:L[i].f1.f0=0
      · rw[if_pos (by simp[hp]),if_neg fun h=>hq ⟨hlt,hp,h⟩]
        exact h1 k (by omega)
      · rw[if_neg (by simp[hp])]
        exact h1 k (by omega)
theorem atS (L:List S86) (s:ByteArray) (hn:L.length≤1048576): ∃ v,(∀ k,L.length<k→spec_l11At.f k L s=some v)∧Fst (QS L s.toList) L.length 0 v:=
  atS_l0 L s (by omega) L.length 0 (by omega)
theorem atI (L:List S86) (s:ByteArray) (hn:L.length≤1048576) (a:Nat) (ha:a<L.length): ∃ v,(∀ k,L.length<k→impl_placeOf.f k L s (a:Int)=some v)∧Fst (QI L s.toList) L.length (a+1) v:=by
  obtain⟨v,h1,h2⟩:=atI_l0 L s (by omega) (L.length - (a+1)) (a+1) (by omega)
  refine⟨v,fun k hk=>?_,h2⟩
  unfold impl_placeOf.f
  rw[wsucc ha (by omega)]
  exact h1 k (by omega)
theorem atI0 (L:List S86) (s:ByteArray) (hn:L.length≤1048576): ∃ v,(∀ k,L.length<k→impl_placeOf.f k L s (-1)=some v)∧Fst (QI L s.toList) L.length 0 v:=by
  obtain⟨v,h1,h2⟩:=atI_l0 L s (by omega) L.length 0 (by omega)
  refine⟨v,fun k hk=>?_,h2⟩
  unfold impl_placeOf.f
  rw[show wrap64 (-1+1)=((0:Nat):Int)from w64 (by omega) (by omega)]
  exact h1 k hk
def SL (x:S86) (i v0 v2 v3:Int):Prop:=
  (PZ x∧(1≤(x.f0.size:Int)∧(x.f0.size:Int)≤12)∧x.f2.toList= []∧x.f3.toList= []∧v0=i)∨
  (¬ PZ x∧x.f0.toList= []∧x.f1.f2=0∧x.f1.f3=0∧(x.f1.f0=7→x.f1.f1=0)∧InsP x.f1.f0 x.f1.f1 x.f1.f2 x.f1.f3∧
    ((x.f1.f0=7∧x.f3.toList= []∧v2>i)∨((3≤x.f1.f0∧x.f1.f0≤6)∧v2>i∧v3>i)∨(¬ x.f1.f0=7∧ ¬ (3≤x.f1.f0∧x.f1.f0≤6)∧x.f2.toList= []∧x.f3.toList= [])))
instance (x:S86) (i v0 v2 v3:Int):Decidable (SL x i v0 v2 v3):=by unfold SL;infer_instance
def IL (x:S86) (i w0 w2 w3:Int):Prop:=
  (PZ x∧(1≤(x.f0.size:Int)∧(x.f0.size:Int)≤12)∧x.f2.toList= []∧x.f3.toList= []∧w0=i)∨
  (¬ x.f1.f0=0∧x.f0.toList= []∧x.f1.f2=0∧x.f1.f3=0∧(x.f1.f0=7→x.f1.f1=0)∧InsP x.f1.f0 x.f1.f1 x.f1.f2 x.f1.f3∧
    ((x.f1.f0=7∧x.f3.toList= []∧w2≥0)∨((3≤x.f1.f0∧x.f1.f0≤6)∧w2≥0∧w3≥0)∨(¬ x.f1.f0=7∧ ¬ (3≤x.f1.f0∧x.f1.f0≤6)∧x.f2.toList= []∧x.f3.toList= [])))
instance (x:S86) (i v0 v2 v3:Int):Decidable (IL x i v0 v2 v3):=by unfold IL;infer_instance
theorem eqb {b:Bool} {P:Prop} [Decidable P] (h:b=true ↔ P):some b=some (decide P):=congrArg some (by rw[Bool.eq_iff_iff,h];simp)
set_option maxHeartbeats 1000000 in
theorem lineS (L:List S86) (i:Nat) (hi:i<L.length) (k:Nat) (hk:5≤k) (v0 v2 v3:Int) (h0: ∀ m,k≤m+1→spec_l11At.f m L L[i].f0=some v0) (h2: ∀ m,k≤m+1→spec_l11At.f m L L[i].f2=some v2) (h3: ∀ m,k≤m+1→spec_l11At.f m L L[i].f3=some v3) :
    spec_l11Line.f k L (i:Int)=some (decide (SL L[i] i v0 v2 v3)):=by
  obtain⟨k,rfl⟩ : ∃ m,k=m+1:=⟨k - 1,by omega⟩
  simp only[spec_l11Line.f,spec_l11Place.f]
  rw[if_pos (by omega),if_pos (by omega),rd_nat86 L i hi]
  simp only[Option.bind_some,inS,okS _ (show 2≤k+1 by omega),h0 _ (Nat.le_succ _),spec_l11Line.j0,askS,h2 _ (Nat.le_refl _),h3 _ (Nat.le_refl _),decide_eq_true_eq]
  have eP:((L[i].f1.f0 == 0 && (L[i].f1.f1 == 0 && (L[i].f1.f2 == 0 && (L[i].f1.f3 == 0))))=true)=PZ L[i]:=by
    unfold PZ
    simp
  simp only[eP]
  generalize L[i]=x
  by_cases hp:PZ x
  · rw[if_pos hp]
    repeat' split
    all_goals (refine eqb ?_;unfold SL;grind)
  · rw[if_neg hp]
    repeat' split
    all_goals (refine eqb ?_;unfold SL;grind)
set_option maxHeartbeats 1000000 in
theorem lineI (L:List S86) (i:Nat) (hi:i<L.length) (k:Nat) (hk:5≤k) (v0 v2 v3:Int) (h0: ∀ m,k≤m+1→impl_placeOf.f m L L[i].f0 (-1)=some v0) (h2: ∀ m,k≤m+1→impl_placeOf.f m L L[i].f2 (i:Int)=some v2) (h3: ∀ m,k≤m+1→impl_placeOf.f m L L[i].f3 (i:Int)=some v3) :
    impl_lineOk.f k L (i:Int)=some (decide (IL L[i] i v0 v2 v3)):=by
  obtain⟨k,rfl⟩ : ∃ m,k=m+1:=⟨k - 1,by omega⟩
  simp only[impl_lineOk.f,impl_Line_isPlace.f]
  rw[if_pos (by omega),if_pos (by omega),rd_nat86 L i hi]
  simp only[Option.bind_some,inI,okI _ (show 2≤k+1 by omega),h0 _ (Nat.le_succ _),impl_lineOk.j0,askI,h2 _ (Nat.le_refl _),h3 _ (Nat.le_refl _),decide_eq_true_eq]
  have eP:((L[i].f1.f0 == 0 && (L[i].f1.f1 == 0 && (L[i].f1.f2 == 0 && (L[i].f1.f3 == 0))))=true)=PZ L[i]:=by
    unfold PZ
    simp
  simp only[eP]
  generalize L[i]=x
  by_cases hp:x.f1.f0=0
  · rw[if_pos (by simp[hp])]
    repeat' split
    all_goals (refine eqb ?_;unfold IL;grind [PZ])
  · rw[if_neg (by simp[hp])]
    repeat' split
    all_goals (refine eqb ?_;unfold IL;grind [PZ])
theorem Fst.uniq {Q Q':Nat→Prop} {n i:Nat} {v v':Int} (h:Fst Q n i v) (h':Fst Q' n i v') (e: ∀ m,m<n→(Q m ↔ Q' m)):v=v':=by
  rcases h with⟨j,h1,h2,h3,h4,h5⟩|⟨h1,h2⟩
  · rcases h' with⟨j',g1,g2,g3,g4,g5⟩|⟨g1,g2⟩
    · have:j=j':=by
        rcases Nat.lt_trichotomy j j' with h|h|h
        · exact absurd ((e j h2).1 h3) (g5 j h1 h)
        · exact h
        · exact absurd ((e j' g2).2 g3) (h5 j' g1 h)
      omega
    · exact absurd ((e j h2).1 h3) (g2 j h1 h2)
  · rcases h' with⟨j',g1,g2,g3,g4,g5⟩|⟨g1,g2⟩
    · exact absurd ((e j' g2).2 g3) (h2 j' g1 g2)
    · omega
theorem allLoop {F:Nat→Int→Option Bool} {n:Nat} {P:Nat→Prop} (h0: ∀ k,F (k+1) (n:Int)=some true)
    (h1: ∀ i:Nat,i<n→∃ b,(b=true ↔ P i)∧∃ K,∀ k,K≤k→F (k+1) (i:Int)=if b=true then F k ((i+1:Nat):Int)else some false): ∃ b,Evt (fun k=>F k 0) b∧(b=true ↔ ∀ i,i<n→P i):=by
  have h:=down (T:=fun i=> ∃ b,Evt (fun k=>F k (i:Int)) b∧(b=true ↔ ∀ j,i≤j→j<n→P j)) (n:=n) ?_ ?_ n 0 (by omega)
  · obtain⟨b,h2,h3⟩:=h
    exact⟨b,h2,h3.trans ⟨fun h j hj=>h j (Nat.zero_le _) hj,fun h j _ hj=>h j hj⟩⟩
  · exact⟨true,.succ (.const fun k=>h0 k),by simp;intro j h2 h3;omega⟩
  · intro i hi ⟨b,⟨K,hK⟩,hb⟩
    obtain⟨b',hb',K',hK'⟩:=h1 i hi
    cases b' with
    | true=>
      refine⟨b,.succ ⟨K+K',fun k hk=>?_⟩,hb.trans ⟨fun h j h2 h3=>?_,fun h j h2 h3=>h j (by omega) h3⟩⟩
      · show F (k+1) (i:Int)=_
        rw[hK' k (by omega),if_pos rfl]
        exact hK k (by omega)
      · rcases Nat.lt_or_ge i j with h4|h4
        · exact h j h4 h3
        · have:i=j:=by omega
          subst this
          exact hb'.1 rfl
    | false=>
      refine⟨false,.succ ⟨K',fun k hk=>?_⟩,⟨(fun h=>by cases h),fun h=>absurd (hb'.2 (h i (Nat.le_refl _) hi)) (by simp)⟩⟩
      show F (k+1) (i:Int)=_
      rw[hK' k (by omega),if_neg (by simp)]
def SAll (L:List S86):Prop:= ∀ j (h:j<L.length),∀ v0 v2 v3,Fst (QS L L[j].f0.toList) L.length 0 v0→Fst (QS L L[j].f2.toList) L.length 0 v2→Fst (QS L L[j].f3.toList) L.length 0 v3→SL L[j] j v0 v2 v3
def IAll (L:List S86):Prop:= ∀ j (h:j<L.length),∀ v0 v2 v3,Fst (QI L L[j].f0.toList) L.length 0 v0→Fst (QI L L[j].f2.toList) L.length (j+1) v2→Fst (QI L L[j].f3.toList) L.length (j+1) v3→IL L[j] j v0 v2 v3
theorem sAll (L:List S86) (hn:L.length≤1048576): ∃ b,Evt (fun k=>spec_LinesOk.l0 k L 0) b∧(b=true ↔ SAll L):=by
  obtain⟨b,h1,h2⟩:=allLoop (F:=fun k i=>spec_LinesOk.l0 k L i) (n:=L.length) (P:=fun j=> ∀ h:j<L.length,∀ v0 v2 v3,Fst (QS L L[j].f0.toList) L.length 0 v0→Fst (QS L L[j].f2.toList) L.length 0 v2→Fst (QS L L[j].f3.toList) L.length 0 v3→SL L[j] j v0 v2 v3)
    (fun k=>by simp only[spec_LinesOk.l0];rw[if_neg (by omega)]) (fun i hi=>by
      obtain⟨v0,a0,b0⟩:=atS L L[i].f0 hn
      obtain⟨v2,a2,b2⟩:=atS L L[i].f2 hn
      obtain⟨v3,a3,b3⟩:=atS L L[i].f3 hn
      refine⟨decide (SL L[i] i v0 v2 v3),?_,L.length+10,fun k hk=>?_⟩
      · rw[decide_eq_true_eq]
        refine⟨fun h _ u0 u2 u3 c0 c2 c3=>?_,fun h=>h hi v0 v2 v3 b0 b2 b3⟩
        rw[← b0.uniq c0 (fun _ _=> .rfl),← b2.uniq c2 (fun _ _=> .rfl),← b3.uniq c3 (fun _ _=> .rfl)]
        exact h
      · simp only[spec_LinesOk.l0]
        rw[if_pos (by omega),lineS L i hi k (by omega) v0 v2 v3 (fun m hm=>a0 m (by omega)) (fun m hm=>a2 m (by omega)) (fun m hm=>a3 m (by omega)),wsucc hi (by omega)]
        rfl)
  exact⟨b,h1,h2.trans ⟨fun h j hj=>h j hj hj,fun h j hj _=>h j hj⟩⟩
theorem iAll (L:List S86) (hn:L.length≤1048576): ∃ b,Evt (fun k=>impl_LinesOk.l0 k L (L.length:Int) 0) b∧(b=true ↔ IAll L):=by
  obtain⟨b,h1,h2⟩:=allLoop (F:=fun k i=>impl_LinesOk.l0 k L (L.length:Int) i) (n:=L.length) (P:=fun j=> ∀ h:j<L.length,∀ v0 v2 v3,Fst (QI L L[j].f0.toList) L.length 0 v0→Fst (QI L L[j].f2.toList) L.length (j+1) v2→Fst (QI L L[j].f3.toList) L.length (j+1) v3→IL L[j] j v0 v2 v3)
    (fun k=>by simp only[impl_LinesOk.l0];rw[if_neg (by omega)]) (fun i hi=>by
      obtain⟨v0,a0,b0⟩:=atI0 L L[i].f0 hn
      obtain⟨v2,a2,b2⟩:=atI L L[i].f2 hn i hi
      obtain⟨v3,a3,b3⟩:=atI L L[i].f3 hn i hi
      refine⟨decide (IL L[i] i v0 v2 v3),?_,L.length+10,fun k hk=>?_⟩
      · rw[decide_eq_true_eq]
        refine⟨fun h _ u0 u2 u3 c0 c2 c3=>?_,fun h=>h hi v0 v2 v3 b0 b2 b3⟩
        rw[← b0.uniq c0 (fun _ _=> .rfl),← b2.uniq c2 (fun _ _=> .rfl),← b3.uniq c3 (fun _ _=> .rfl)]
        exact h
      · simp only[impl_LinesOk.l0]
        rw[if_pos (by omega),lineI L i hi k (by omega) v0 v2 v3 (fun m hm=>a0 m (by omega)) (fun m hm=>a2 m (by omega)) (fun m hm=>a3 m (by omega)),wsucc hi (by omega)]
        rfl)
  exact⟨b,h1,h2.trans ⟨fun h j hj=>h j hj hj,fun h j hj _=>h j hj⟩⟩
/-- Both ask the same of all lines: where all are right, each place is bare and bears a name of its own. -/
theorem qs_qi {L:List S86} (H: ∀ j (h:j<L.length),L[j].f1.f0=0→PZ L[j]) (s:List UInt8) (m:Nat):QS L s m ↔ QI L s m:=
  ⟨fun ⟨h,h1,h2⟩=>⟨h,h1.1,h2⟩,fun ⟨h,h1,h2⟩=>⟨h,H m h h1,h2⟩⟩
theorem fstS (L:List S86) (hn:L.length≤1048576) (s:ByteArray): ∃ v,Fst (QS L s.toList) L.length 0 v:=by
  obtain⟨v,_,h⟩:=atS L s hn
  exact⟨v,h⟩
theorem fstI (L:List S86) (hn:L.length≤1048576) (s:ByteArray) (i:Nat) (hi:i≤L.length): ∃ v,Fst (QI L s.toList) L.length i v:=by
  obtain⟨v,_,h⟩:=atI_l0 L s (by omega) (L.length - i) i (by omega)
  exact⟨v,h⟩
theorem all_iff (L:List S86) (hn:L.length≤1048576):SAll L ↔ IAll L:=by
  constructor
  · intro hS
    have H: ∀ j (h:j<L.length),L[j].f1.f0=0→PZ L[j]:=fun j h e=>by
      obtain⟨v0,h0⟩:=fstS L hn L[j].f0
      obtain⟨v2,h2⟩:=fstS L hn L[j].f2
      obtain⟨v3,h3⟩:=fstS L hn L[j].f3
      rcases hS j h v0 v2 v3 h0 h2 h3 with h4|h4
      · exact h4.1
      · have h5:=h4.2.2.2.2.2.1
        unfold InsP at h5
        omega
    have up: ∀ (s:ByteArray) (j:Nat) (v w:Int),Fst (QS L s.toList) L.length 0 v→Fst (QI L s.toList) L.length (j+1) w→v>j→w≥0:=fun s j v w h1 h2 h3=>by
      rcases h1 with⟨m,_,m2,m3,m4,_⟩|⟨m1,_⟩
      · rcases h2 with⟨u,_,_,_,u4,_⟩|⟨_,u2⟩
        · omega
        · exact absurd ((qs_qi H _ m).1 m3) (u2 m (by omega) m2)
      · omega
    intro j h w0 w2 w3 g0 g2 g3
    obtain⟨v0,h0⟩:=fstS L hn L[j].f0
    obtain⟨v2,h2⟩:=fstS L hn L[j].f2
    obtain⟨v3,h3⟩:=fstS L hn L[j].f3
    have e0:=h0.uniq g0 (fun m _=>qs_qi H _ m)
    have u2:=up _ j v2 w2 h2 g2
    have u3:=up _ j v3 w3 h3 g3
    rcases hS j h v0 v2 v3 h0 h2 h3 with⟨a,b,c,d,e⟩|⟨a,b,c,d,e,f,g⟩
    · exact .inl ⟨a,b,c,d,by omega⟩
    · refine .inr ⟨by unfold InsP at f;omega,b,c,d,e,f,?_⟩
      rcases g with⟨g1,g2,g3⟩|⟨g1,g2,g3⟩|g
      · exact .inl ⟨g1,g2,u2 g3⟩
      · exact .inr (.inl ⟨g1,u2 g2,u3 g3⟩)
      · exact .inr (.inr g)
  · intro hI
    have hW: ∀ j (h:j<L.length),∃ w0 w2 w3,Fst (QI L L[j].f0.toList) L.length 0 w0∧Fst (QI L L[j].f2.toList) L.length (j+1) w2∧Fst (QI L L[j].f3.toList) L.length (j+1) w3∧IL L[j] j w0 w2 w3:=fun j h=>by
      obtain⟨v0,h0⟩:=fstI L hn L[j].f0 0 (by omega)
      obtain⟨v2,h2⟩:=fstI L hn L[j].f2 (j+1) h
      obtain⟨v3,h3⟩:=fstI L hn L[j].f3 (j+1) h
      exact⟨v0,v2,v3,h0,h2,h3,hI j h v0 v2 v3 h0 h2 h3⟩
    have H: ∀ j (h:j<L.length),L[j].f1.f0=0→PZ L[j]:=fun j h e=>by
      obtain⟨w0,w2,w3,_,_,_,h4⟩:=hW j h
      rcases h4 with h4|h4
      · exact h4.1
      · exact absurd e h4.1
    have dn: ∀ (s:ByteArray) (j:Nat) (v w:Int),Fst (QS L s.toList) L.length 0 v→Fst (QI L s.toList) L.length (j+1) w→w≥0→v>j:=fun s j v w h1 h2 h3=>by
      rcases h2 with⟨m,m1,m2,m3,m4,_⟩|⟨m1,_⟩
      · obtain⟨w0,w2,w3,g0,_,_,g4⟩:=hW m m2
        obtain⟨_,m5,m6⟩:=m3
        have hz:=H m m2 m5
        have e0:w0=m:=by
          rcases g4 with g4|g4
          · exact g4.2.2.2.2
          · exact absurd m5 g4.1
        rw[m6]at g0
        have:=h1.uniq g0 (fun m _=>qs_qi H _ m)
        omega
      · omega
    intro j h v0 v2 v3 h0 h2 h3
    obtain⟨w0,w2,w3,g0,g2,g3,hl⟩:=hW j h
    have e0:=h0.uniq g0 (fun m _=>qs_qi H _ m)
    have u2:=dn _ j v2 w2 h2 g2
    have u3:=dn _ j v3 w3 h3 g3
    rcases hl with⟨a,b,c,d,e⟩|⟨a,b,c,d,e,f,g⟩
    · exact .inl ⟨a,b,c,d,by omega⟩
    · refine .inr ⟨fun h=>a h.1,b,c,d,e,f,?_⟩
      rcases g with⟨g1,g2,g3⟩|⟨g1,g2,g3⟩|g
      · exact .inl ⟨g1,g2,u2 g3⟩
      · exact .inr (.inl ⟨g1,u2 g2,u3 g3⟩)
      · exact .inr (.inr g)
/-- Both answer alike. -/
theorem linesOk (L:List S86) (hn:L.length≤1048576): ∃ b,Evt (fun k=>spec_LinesOk.f k L) b∧Evt (fun k=>impl_LinesOk.f k L) b∧(b=true→(1≤L.length∧L.length≤600)∧SAll L∧IAll L∧∃ h:L.length - 1<L.length,L[L.length - 1].f1.f0=8):=by
  by_cases h1:1≤(L.length:Int)∧(L.length:Int)≤600
  · have e:wrap64 ((L.length:Int) - 1)=((L.length - 1:Nat):Int):=by unfold wrap64;omega
    have hlt:L.length - 1<L.length:=by omega
    by_cases h8:(L[L.length - 1].f1.f0)=8
    · obtain⟨b,⟨K,hb⟩,hbi⟩:=sAll L hn
      obtain⟨b',⟨K',hb'⟩,hbi'⟩:=iAll L hn
      have eb:b'=b:=by rw[Bool.eq_iff_iff,hbi,hbi',all_iff L hn]
      subst eb
      refine⟨b',.succ ⟨K+1,fun k hk=>?_⟩,.succ ⟨K'+1,fun k hk=>?_⟩,fun h=>⟨by omega,hbi.1 h,hbi'.1 h,hlt,h8⟩⟩
      · simp only[spec_LinesOk.f,inS,Option.bind_some,decide_eq_true_eq]
        rw[if_pos h1,e,if_pos (by omega),if_pos (by omega),rd_nat86 L _ hlt,h8]
        simp only[spec_LinesOk.j0]
        rw[if_neg (by simp)]
        exact hb k (by omega)
      · simp only[impl_LinesOk.f,inI,Option.bind_some,decide_eq_true_eq]
        rw[if_pos h1,e,if_pos (by omega),if_pos (by omega),rd_nat86 L _ hlt,h8]
        simp only[impl_LinesOk.j0]
        rw[if_neg (by simp)]
        exact hb' k (by omega)
    · refine⟨false,.succ (.const fun k=>?_),.succ (.const fun k=>?_),fun h=>by cases h⟩
      · simp only[spec_LinesOk.f,inS,Option.bind_some,decide_eq_true_eq]
        rw[if_pos h1,e,if_pos (by omega),if_pos (by omega),rd_nat86 L _ hlt]
        simp only[spec_LinesOk.j0]
        rw[if_pos (by simp[h8])]
      · simp only[impl_LinesOk.f,inI,Option.bind_some,decide_eq_true_eq]
        rw[if_pos h1,e,if_pos (by omega),if_pos (by omega),rd_nat86 L _ hlt]
        simp only[impl_LinesOk.j0]
        rw[if_pos (by simp[h8])]
  · refine⟨false,.succ (.const fun k=>?_),.succ (.const fun k=>?_),fun h=>by cases h⟩
    · simp only[spec_LinesOk.f,inS,Option.bind_some,decide_eq_true_eq]
      rw[if_neg h1]
      simp only[spec_LinesOk.j0,if_true]
    · simp only[impl_LinesOk.f,inI,Option.bind_some,decide_eq_true_eq]
      rw[if_neg h1]
      simp only[impl_LinesOk.j0,if_true]
theorem Fst.ex (Q:Nat→Prop) (n:Nat): ∀ d i,i+d=n→∃ v,Fst Q n i v
  | 0,i,h=>⟨-1,.inr ⟨rfl,fun m h1 h2=>by omega⟩⟩
  | d+1,i,h=>by
    by_cases hq:Q i
    · exact⟨i,.here (by omega) hq⟩
    · obtain⟨v,hv⟩:=Fst.ex Q n d (i+1) (by omega)
      exact⟨v,hv.next hq⟩
/-- Sizes before an index, summed up. -/
def pre (o:List Int) (i:Nat):Int:=(o.take i).sum
theorem pre_succ {o:List Int} {i:Nat} (h:i<o.length):pre o (i+1)=pre o i+o[i]:=by
  unfold pre
  rw[List.take_succ_eq_append_getElem h,List.sum_append]
  simp
theorem pre_bound {o:List Int} (ho: ∀ j (h:j<o.length),0≤o[j]∧o[j]≤3): ∀ i,i≤o.length→0≤pre o i∧pre o i≤3*i
  | 0,_=>by simp[pre]
  | i+1,h=>by
    have:=pre_bound ho i (by omega)
    have:=ho i (by omega)
    rw[pre_succ (by omega)]
    omega
theorem nrdI (l:List Int) (i:Nat) (h:i<l.length):rd l (i:Int)=l[i]:=getD_lt _ h
def ones:List Int→Nat
  | []=>0
  | x :: l=>(if x=1 then 1 else 0)+ones l
theorem ones_le: ∀ l:List Int,ones l≤l.length
  | []=>Nat.le_refl _
  | x :: l=>by
    have:=ones_le l
    simp only[ones,List.length_cons]
    split <;> omega
theorem ones_set: ∀ (l:List Int) (i:Nat) (h:i<l.length),l[i]=1→ones (l.set i 3)+1=ones l
  | x :: l,0,h,e=>by
    simp only[List.getElem_cons_zero]at e
    subst e
    simp[ones]
    omega
  | x :: l,i+1,h,e=>by
    simp only[List.getElem_cons_succ]at e
    have:=ones_set l i (by simpa using h) e
    simp only[List.set_cons_succ,ones]
    omega
/-- Where each word begins. -/
theorem begins (o:List Int) (hn:o.length≤600) (ho: ∀ j (h:j<o.length),0≤o[j]∧o[j]≤3): ∃ B:List Int,B.length=o.length∧(∀ i (h:i<B.length),B[i]=pre o i)∧Evt (fun k=>spec_l11Begins.f k o) B:=by
  have key:=down (T:=fun i=> ∀ b:List Int,b.length=i→(∀ j (h:j<b.length),b[j]=pre o j)→∃ B:List Int,B.length=o.length∧(∀ j (h:j<B.length),B[j]=pre o j)∧Evt (fun k=>spec_l11Begins.l0 k o b (pre o i) (i:Int)) B) (n:=o.length) ?_ ?_ o.length 0 (by omega) [] rfl (by simp)
  · obtain⟨B,h1,h2,h3⟩:=key
    exact⟨B,h1,h2,h3⟩
  · intro b hb hj
    refine⟨b,hb,hj,.succ (.const fun k=>?_)⟩
    simp only[spec_l11Begins.l0]
    rw[if_neg (by omega)]
  · intro i hi ih b hb hj
    have b1:=pre_bound ho i (by omega)
    have b2:=ho i hi
    obtain⟨B,h1,h2,K,h3⟩:=ih (b ++ [pre o i]) (by simp;omega) (fun j h=>by
      rcases Nat.lt_or_ge j b.length with h4|h4
      · rw[List.getElem_append_left h4]
        exact hj j h4
      · have:j=b.length:=by simp at h;omega
        subst this
        rw[List.getElem_append_right (Nat.le_refl _)]
        simp
        rw[hb])
    refine⟨B,h1,h2,.succ ⟨K,fun k hk=>?_⟩⟩
    simp only[spec_l11Begins.l0]
    rw[if_pos (by omega),if_pos (by omega),if_pos (by omega),nrdI o i hi,w64 (x:=pre o i+o[i]) (by omega) (by omega),wsucc hi (by omega)]
    have:=h3 k hk
    rw[pre_succ hi]at this
    exact this
/-- How much stands between. -/
theorem betw (o:List Int) (hn:o.length≤600) (ho: ∀ j (h:j<o.length),0≤o[j]∧o[j]≤3) (y:Nat) (hy:y≤o.length): ∀ (d i:Nat) (t:Int),i+d=y→0≤t→t≤3*i→Evt (fun k=>impl_between.l0 k o t (y:Int) (i:Int)) (t+(pre o y - pre o i)):=by
  intro d
  induction d with
  | zero=>
    intro i t h _ _
    have:i=y:=by omega
    subst this
    refine .succ (.const fun k=>?_)
    simp only[impl_between.l0]
    rw[if_neg (by omega)]
    simp
  | succ d ih=>
    intro i t h h0 h3
    have hi:i<o.length:=by omega
    have b2:=ho i hi
    obtain⟨K,hK⟩:=ih (i+1) (t+o[i]) (by omega) (by omega) (by omega)
    refine .succ ⟨K,fun k hk=>?_⟩
    simp only[impl_between.l0]
    rw[if_pos (by omega),if_pos (by omega),if_pos (by omega),nrdI o i hi,w64 (x:=t+o[i]) (by omega) (by omega),wsucc hi (by omega)]
    have:=hK k hk
    dsimp only at this
    rw[this,pre_succ hi]
    refine congrArg some ?_
    omega
/-- Where the ways of right lines lead: both sides find the same place, behind the line. -/
theorem wayTo {L:List S86} (hn:L.length≤1048576) (hS:SAll L) (hI:IAll L) {i:Nat} (hi:i<L.length) (ha:3≤L[i].f1.f0∧L[i].f1.f0≤6) (s:ByteArray) (hs:s=L[i].f2∨s=L[i].f3) :
    ∃ y:Nat,i<y∧y<L.length∧s.toList≠[]∧(∀ k,L.length<k→spec_l11At.f k L s=some (y:Int))∧(∀ k,L.length<k→impl_placeOf.f k L s (i:Int)=some (y:Int)):=by
  have H: ∀ j (h:j<L.length),L[j].f1.f0=0→PZ L[j]:=fun j h e=>by
    obtain⟨w0,h0⟩:=fstI L hn L[j].f0 0 (by omega)
    obtain⟨w2,h2⟩:=fstI L hn L[j].f2 (j+1) h
    obtain⟨w3,h3⟩:=fstI L hn L[j].f3 (j+1) h
    rcases hI j h w0 w2 w3 h0 h2 h3 with h4|h4
    · exact h4.1
    · exact absurd e h4.1
  obtain⟨v,hv,fv⟩:=atS L s hn
  obtain⟨w,hw,fw⟩:=atI L s hn i hi
  have hgt:v>i:=by
    obtain⟨v0,f0⟩:=fstS L hn L[i].f0
    obtain⟨v2,f2⟩:=fstS L hn L[i].f2
    obtain⟨v3,f3⟩:=fstS L hn L[i].f3
    have hl:=hS i hi v0 v2 v3 f0 f2 f3
    have hz: ¬ PZ L[i]:=fun h=>by unfold PZ at h;omega
    rcases hl with h|⟨_,_,_,_,_,_,h|h|h⟩
    · exact absurd h.1 hz
    · omega
    · rcases hs with e|e
      · subst e
        rw[fv.uniq f2 (fun _ _=> .rfl)]
        exact h.2.1
      · subst e
        rw[fv.uniq f3 (fun _ _=> .rfl)]
        exact h.2.2
    · exact absurd ha h.2.1
  rcases fv with⟨m,_,m2,m3,m4,m5⟩|⟨m1,_⟩
  · have hwm:w=(m:Int):=by
      rcases fw with⟨u,u1,u2,u3,u4,u5⟩|⟨_,u2⟩
      · have q1: ¬ m<u:=fun h=>u5 m (by omega) h ((qs_qi H _ m).1 m3)
        have q2: ¬ u<m:=fun h=>m5 u (Nat.zero_le _) h ((qs_qi H _ u).2 u3)
        omega
      · exact absurd ((qs_qi H _ m).1 m3) (u2 m (by omega) m2)
    refine⟨m,by omega,m2,?_,fun k hk=>(hv k hk).trans (by rw[m4]),fun k hk=>(hw k hk).trans (by rw[hwm])⟩
    obtain⟨_,p1,p2⟩:=m3
    obtain⟨v0,f0⟩:=fstS L hn L[m].f0
    obtain⟨v2,f2⟩:=fstS L hn L[m].f2
    obtain⟨v3,f3⟩:=fstS L hn L[m].f3
    rcases hS m m2 v0 v2 v3 f0 f2 f3 with h|h
    · intro e
      rw[← p2]at e
      rw[ByteArray.toList_eq]at e
      have h5:L[m].f0.data.size=0:=by simpa using congrArg List.length e
      have h6:L[m].f0.size=L[m].f0.data.size:=rfl
      have:=h.2.1
      omega
    · exact absurd p1 h.1
  · omega
/-- Sizes that may stand for right lines. -/
def OkS (L:List S86) (o:List Int):Prop:=o.length=L.length∧(∀ j (h:j<o.length),0≤o[j]∧o[j]≤3)∧(∀ j (h:j<o.length) (h':j<L.length),3≤L[j].f1.f0∧L[j].f1.f0≤6→o[j]=1∨o[j]=3)∧(∀ j (h:j<o.length) (h':j<L.length),¬ (3≤L[j].f1.f0∧L[j].f1.f0≤6)→o[j]=if L[j].f1.f0=0 then 0 else 1)
theorem OkS.set {L:List S86} {o:List Int} (h:OkS L o) (i:Nat) (hi:i<L.length) (hask:3≤L[i].f1.f0∧L[i].f1.f0≤6):OkS L (o.set i 3):=by
  obtain⟨h1,h2,h3,h4⟩:=h
  refine⟨by rw[List.length_set];exact h1,fun j hj=>?_,fun j hj hj' ha=>?_,fun j hj hj' ha=>?_⟩
  · rw[List.length_set]at hj
    rw[List.getElem_set]
    split
    · omega
    · exact h2 j hj
  · rw[List.length_set]at hj
    rw[List.getElem_set]
    split
    · exact .inr rfl
    · exact h3 j hj hj' ha
  · rw[List.length_set]at hj
    rw[List.getElem_set]
    split
    · rename_i e
      subst e
      exact absurd hask ha
    · exact h4 j hj hj' ha
/-- The ways, as the reference keeps them. -/
def OkW (L:List S86) (Y N:List Int):Prop:=Y.length=L.length∧N.length=L.length∧∀ j (h:j<L.length) (h1:j<Y.length) (h2:j<N.length),(L[j].f2.toList≠[]→∀ v,(∀ k,L.length<k→spec_l11At.f k L L[j].f2=some v)→Y[j]=v)∧(L[j].f3.toList≠[]→∀ v,(∀ k,L.length<k→spec_l11At.f k L L[j].f3=some v)→N[j]=v)
theorem ways (L:List S86) (hn:L.length≤600): ∃ Y N,OkW L Y N∧Evt (fun k=>spec_l11Ways.f k L) (Y,N):=by
  have key:=down (T:=fun i=> ∀ y n:List Int,y.length=i→n.length=i→(∀ j (h:j<L.length) (h1:j<y.length) (h2:j<n.length),(L[j].f2.toList≠[]→∀ v,(∀ k,L.length<k→spec_l11At.f k L L[j].f2=some v)→y[j]=v)∧(L[j].f3.toList≠[]→∀ v,(∀ k,L.length<k→spec_l11At.f k L L[j].f3=some v)→n[j]=v))→∃ Y N,OkW L Y N∧Evt (fun k=>spec_l11Ways.l0 k L y n (i:Int)) (Y,N)) (n:=L.length) ?_ ?_ L.length 0 (by omega) [] [] rfl rfl (by simp)
  · exact key
  · intro y n hy hm hj
    exact⟨y,n,⟨hy,hm,hj⟩,.succ (.const fun k=>by simp only[spec_l11Ways.l0];rw[if_neg (by omega)])⟩
  · intro i hi ih y n hy hm hj
    obtain⟨a,ha,_⟩:=atS L L[i].f2 (by omega)
    obtain⟨b,hb,_⟩:=atS L L[i].f3 (by omega)
    have ext: ∀ u v:Int,(L[i].f2.toList≠[]→u=a)→(L[i].f3.toList≠[]→v=b)→∃ Y N,OkW L Y N∧Evt (fun k=>spec_l11Ways.l0 k L (y ++ [u]) (n ++ [v]) ((i+1:Nat):Int)) (Y,N):=fun u v hu hv=>by
      refine ih (y ++ [u]) (n ++ [v]) (by simp;omega) (by simp;omega) (fun j h h1 h2=>?_)
      rcases Nat.lt_or_ge j i with h4|h4
      · rw[List.getElem_append_left (by omega),List.getElem_append_left (by omega)]
        exact hj j h (by omega) (by omega)
      · have:j=i:=by simp at h1;omega
        subst this
        have e1:(y ++ [u])[j]=u:=by rw[List.getElem_append_right (by omega)];simp
        have e2:(n ++ [v])[j]=v:=by rw[List.getElem_append_right (by omega)];simp
        rw[e1,e2]
        refine⟨fun h5 w h6=>?_,fun h5 w h6=>?_⟩
        · rw[hu h5]
          exact Option.some.inj ((ha (L.length+1) (by omega)).symm.trans (h6 (L.length+1) (by omega)))
        · rw[hv h5]
          exact Option.some.inj ((hb (L.length+1) (by omega)).symm.trans (h6 (L.length+1) (by omega)))
    by_cases c2:L[i].f2.toList= []
    · by_cases c3:L[i].f3.toList= []
      · obtain⟨Y,N,h1,K,h2⟩:=ext (-1) (-1) (fun h=>absurd c2 h) (fun h=>absurd c3 h)
        refine⟨Y,N,h1,.succ ⟨K,fun k hk=>?_⟩⟩
        simp only[spec_l11Ways.l0]
        rw[if_pos (by omega),if_pos (by omega),nrd_T86 L i hi,if_pos c2,if_pos c3,if_pos (by omega),if_pos (by omega),wsucc hi (by omega)]
        exact h2 k hk
      · obtain⟨Y,N,h1,K,h2⟩:=ext (-1) b (fun h=>absurd c2 h) (fun _=>rfl)
        refine⟨Y,N,h1,.succ ⟨K+L.length+1,fun k hk=>?_⟩⟩
        simp only[spec_l11Ways.l0]
        rw[if_pos (by omega),if_pos (by omega),nrd_T86 L i hi,if_pos c2,if_neg c3,hb k (by omega)]
        simp only[Option.bind_some]
        rw[if_pos (by omega),if_pos (by omega),wsucc hi (by omega)]
        exact h2 k (by omega)
    · by_cases c3:L[i].f3.toList= []
      · obtain⟨Y,N,h1,K,h2⟩:=ext a (-1) (fun _=>rfl) (fun h=>absurd c3 h)
        refine⟨Y,N,h1,.succ ⟨K+L.length+1,fun k hk=>?_⟩⟩
        simp only[spec_l11Ways.l0]
        rw[if_pos (by omega),if_pos (by omega),nrd_T86 L i hi,if_neg c2,ha k (by omega)]
        simp only[Option.bind_some]
        rw[if_pos c3,if_pos (by omega),if_pos (by omega),wsucc hi (by omega)]
        exact h2 k (by omega)
      · obtain⟨Y,N,h1,K,h2⟩:=ext a b (fun _=>rfl) (fun _=>rfl)
        refine⟨Y,N,h1,.succ ⟨K+L.length+1,fun k hk=>?_⟩⟩
        simp only[spec_l11Ways.l0]
        rw[if_pos (by omega),if_pos (by omega),nrd_T86 L i hi,if_neg c2,ha k (by omega)]
        simp only[Option.bind_some]
        rw[if_neg c3,hb k (by omega)]
        simp only[Option.bind_some]
        rw[if_pos (by omega),if_pos (by omega),wsucc hi (by omega)]
        exact h2 k (by omega)
/-- What both sides ask of a way. -/
theorem far_eq (o B:List Int) (i y:Nat) (hB:B.length=o.length) (hb: ∀ j (h:j<B.length),B[j]=pre o j) (hn:o.length≤600) (ho: ∀ j (h:j<o.length),0≤o[j]∧o[j]≤3) (hi:i<o.length) (hy:i<y) (hy':y<o.length) (h1:o[i]=1) :
    wrap64 (wrap64 (rd B (y:Int) - rd B (i:Int)) - 1)=pre o y - pre o (i+1):=by
  have b1:=pre_bound ho y (by omega)
  have b2:=pre_bound ho i (by omega)
  rw[nrdI B y (by omega),nrdI B i (by omega),hb y (by omega),hb i (by omega),pre_succ hi,h1]
  rw[w64 (x:=pre o y - pre o i) (by omega) (by omega),w64 (by omega) (by omega)]
  omega
theorem round (L:List S86) (hn:L.length≤600) (hS:SAll L) (hI:IAll L) (o Y N B:List Int) (ho:OkS L o) (hW:OkW L Y N) (hB:B.length=o.length) (hb: ∀ j (h:j<B.length),B[j]=pre o j) (r:Int) :
    ∃ c f,OkS L c∧(f=true→ones c<ones o)∧(∀ R,Evt (fun k=>if f=true then spec_Sizes.l1 k L c Y N (wrap64 (r+1))else some c) R→Evt (fun k=>spec_Sizes.l2 k L o Y N r B false ((0:Nat):Int)) R)∧(∀ R,Evt (fun k=>impl_Sizes.l1 k L c f) R→Evt (fun k=>impl_Sizes.l2 k L o false o L (L.length:Int) ((0:Nat):Int)) R):=by
  have ho':=ho
  obtain⟨ol,o3,oa,_⟩:=ho
  obtain⟨wy,wn,wj⟩:=hW
  have key:=down (T:=fun i=> ∀ (c:List Int) (f:Bool),OkS L c→(∀ j (h:j<c.length) (h':j<o.length),i≤j→c[j]=o[j])→ones c≤ones o→(f=true→ones c<ones o)→
    ∃ c' f',OkS L c'∧(f'=true→ones c'<ones o)∧(∀ R,Evt (fun k=>if f'=true then spec_Sizes.l1 k L c' Y N (wrap64 (r+1))else some c') R→Evt (fun k=>spec_Sizes.l2 k L c Y N r B f (i:Int)) R)∧(∀ R,Evt (fun k=>impl_Sizes.l1 k L c' f') R→Evt (fun k=>impl_Sizes.l2 k L o f c L (L.length:Int) (i:Int)) R)) (n:=L.length) ?_ ?_ L.length 0 (by omega) o false ho' (fun _ _ _ _=>rfl) (Nat.le_refl _) (fun h=>by cases h)
  · exact key
  · intro c f hc _ _ h2
    refine⟨c,f,hc,h2,fun R hR=> .succ ?_,fun R hR=> .succ ?_⟩
    · obtain⟨K,hK⟩:=hR
      refine⟨K,fun k hk=>?_⟩
      simp only[spec_Sizes.l2]
      rw[if_neg (by omega)]
      exact hK k hk
    · obtain⟨K,hK⟩:=hR
      refine⟨K,fun k hk=>?_⟩
      simp only[impl_Sizes.l2]
      rw[if_neg (by omega)]
      exact hK k hk
  · intro i hi ih c f hc hj h1 h2
    have cl:=hc.1
    have ws:=wsucc hi (show L.length≤9223372036854775807 by omega)
    have skip:(∀ k,spec_Sizes.l2 (k+2) L c Y N r B f (i:Int)=spec_Sizes.l2 k L c Y N r B f ((i+1:Nat):Int))→(∀ k,impl_Sizes.l2 (k+2) L o f c L (L.length:Int) (i:Int)=impl_Sizes.l2 k L o f c L (L.length:Int) ((i+1:Nat):Int))→
        ∃ c' f',OkS L c'∧(f'=true→ones c'<ones o)∧(∀ R,Evt (fun k=>if f'=true then spec_Sizes.l1 k L c' Y N (wrap64 (r+1))else some c') R→Evt (fun k=>spec_Sizes.l2 k L c Y N r B f (i:Int)) R)∧(∀ R,Evt (fun k=>impl_Sizes.l1 k L c' f') R→Evt (fun k=>impl_Sizes.l2 k L o f c L (L.length:Int) (i:Int)) R):=fun eS eI=>by
      obtain⟨c',f',a1,a2,a3,a4⟩:=ih c f hc (fun j h h' hij=>hj j h h' (by omega)) h1 h2
      refine⟨c',f',a1,a2,fun R hR=>?_,fun R hR=>?_⟩
      · obtain⟨K,hK⟩:=a3 R hR
        refine⟨K+2,fun k hk=>?_⟩
        obtain⟨k,rfl⟩ : ∃ m,k=m+2:=⟨k - 2,by omega⟩
        exact(eS k).trans (hK k (by omega))
      · obtain⟨K,hK⟩:=a4 R hR
        refine⟨K+2,fun k hk=>?_⟩
        obtain⟨k,rfl⟩ : ∃ m,k=m+2:=⟨k - 2,by omega⟩
        exact(eI k).trans (hK k (by omega))
    by_cases ha:3≤L[i].f1.f0∧L[i].f1.f0≤6
    · have hio:i<o.length:=by omega
      have hic:i<c.length:=by omega
      have ec:c[i]=o[i]:=hj i hic hio (Nat.le_refl _)
      by_cases e3:o[i]=3
      · refine skip (fun k=>?_) (fun k=>?_)
        · simp only[spec_Sizes.l2,spec_Sizes.j3]
          rw[if_pos (by omega),if_pos (by omega),nrd_T86 L i hi]
          simp only[askS,Option.bind_some,decide_eq_true_eq]
          rw[if_pos ha,if_pos (by omega),nrdI c i hic,ec,e3,if_pos (by simp),ws]
        · simp only[impl_Sizes.l2,impl_Sizes.j3]
          rw[if_pos (by omega),if_pos (by omega),if_pos (by omega),nrd_T86 L i hi]
          simp only[askI,Option.bind_some,decide_eq_true_eq]
          rw[if_pos ha,if_pos (by omega),nrdI o i hio,e3,if_pos (by simp),ws]
      · have e1:o[i]=1:=(oa i hio hi ha).resolve_right e3
        obtain⟨y,y1,y2,y3,y4,y5⟩:=wayTo (by omega) hS hI hi ha L[i].f2 (.inl rfl)
        obtain⟨z,z1,z2,z3,z4,z5⟩:=wayTo (by omega) hS hI hi ha L[i].f3 (.inr rfl)
        have hY:rd Y (i:Int)=(y:Int):=by rw[nrdI Y i (by omega)];exact(wj i hi (by omega) (by omega)).1 y3 _ y4
        have hN:rd N (i:Int)=(z:Int):=by rw[nrdI N i (by omega)];exact(wj i hi (by omega) (by omega)).2 z3 _ z4
        have ey:=far_eq o B i y hB hb (by omega) o3 hio y1 (by omega) e1
        have ez:=far_eq o B i z hB hb (by omega) o3 hio z1 (by omega) e1
        obtain⟨K1,b1⟩:=betw o (by omega) o3 y (by omega) (y - (i+1)) (i+1) 0 (by omega) (by omega) (by omega)
        obtain⟨K2,b2⟩:=betw o (by omega) o3 z (by omega) (z - (i+1)) (i+1) 0 (by omega) (by omega) (by omega)
        dsimp only at b1 b2
        have g1: ∀ k,K1+L.length<k→impl_between.f k L o (i:Int) L[i].f2=some (pre o y - pre o (i+1)):=fun k hk=>by
          simp only[impl_between.f,y5 k (by omega),Option.bind_some,ws,b1 k (by omega)]
          exact congrArg some (by omega)
        have g2: ∀ k,K2+L.length<k→impl_between.f k L o (i:Int) L[i].f3=some (pre o z - pre o (i+1)):=fun k hk=>by
          simp only[impl_between.f,z5 k (by omega),Option.bind_some,ws,b2 k (by omega)]
          exact congrArg some (by omega)
        generalize pre o y - pre o (i+1)=gy at ey g1
        generalize pre o z - pre o (i+1)=gz at ez g2
        have n3: ¬ (rd c (i:Int) == 3)=true:=by rw[nrdI c i hic,ec,e1];simp
        have m3: ¬ (rd o (i:Int) == 3)=true:=by rw[nrdI o i hio,e1];simp
        by_cases far:gy>15∨gz>15
        · have hs:=ones_set c i hic (ec.trans e1)
          obtain⟨c',f',a1,a2,a3,a4⟩:=ih (c.set i 3) true (hc.set i hi ha) (fun j h h' hij=>by
            rw[List.getElem_set_ne (by omega)]
            rw[List.length_set]at h
            exact hj j h h' (by omega)) (by omega) (fun _=>by omega)
          refine⟨c',f',a1,a2,fun R hR=>?_,fun R hR=>?_⟩
          · obtain⟨K,hK⟩:=a3 R hR
            refine⟨K+2,fun k hk=>?_⟩
            obtain⟨k,rfl⟩ : ∃ m,k=m+2:=⟨k - 2,by omega⟩
            simp only[spec_Sizes.l2,spec_Sizes.j3]
            rw[if_pos (by omega),if_pos (by omega),nrd_T86 L i hi]
            simp only[askS,Option.bind_some,decide_eq_true_eq]
            rw[if_pos ha,if_pos (by omega),if_neg n3,if_pos (by omega),if_pos (by omega),hY,if_pos (by omega),if_pos (by omega),if_pos (by omega),ey]
            by_cases q:gy>15
            · rw[if_pos q,if_pos (by omega),ws,Int.toNat_natCast]
              exact hK k (by omega)
            · rw[if_neg q,if_pos (by omega),hN,if_pos (by omega),if_pos (by omega),ez,if_pos (far.resolve_left q),if_pos (by omega),ws,Int.toNat_natCast]
              exact hK k (by omega)
          · obtain⟨K,hK⟩:=a4 R hR
            refine⟨K+K1+K2+L.length+3,fun k hk=>?_⟩
            obtain⟨k,rfl⟩ : ∃ m,k=m+2:=⟨k - 2,by omega⟩
            simp only[impl_Sizes.l2,impl_Sizes.j3]
            rw[if_pos (by omega),if_pos (by omega),if_pos (by omega),nrd_T86 L i hi]
            simp only[askI,Option.bind_some,decide_eq_true_eq]
            rw[if_pos ha,if_pos (by omega),if_neg m3,g1 k (by omega)]
            simp only[Option.bind_some]
            by_cases q:gy>15
            · rw[if_pos q,if_pos (by omega),if_pos (by omega),ws,Int.toNat_natCast]
              exact hK k (by omega)
            · rw[if_neg q,g2 k (by omega)]
              simp only[Option.bind_some]
              rw[if_pos (far.resolve_left q),if_pos (by omega),if_pos (by omega),ws,Int.toNat_natCast]
              exact hK k (by omega)
        · have q1: ¬ gy>15:=fun h=>far (.inl h)
          have q2: ¬ gz>15:=fun h=>far (.inr h)
          obtain⟨c',f',a1,a2,a3,a4⟩:=ih c f hc (fun j h h' hij=>hj j h h' (by omega)) h1 h2
          refine⟨c',f',a1,a2,fun R hR=>?_,fun R hR=>?_⟩
          · obtain⟨K,hK⟩:=a3 R hR
            refine⟨K+2,fun k hk=>?_⟩
            obtain⟨k,rfl⟩ : ∃ m,k=m+2:=⟨k - 2,by omega⟩
            simp only[spec_Sizes.l2,spec_Sizes.j3]
            rw[if_pos (by omega),if_pos (by omega),nrd_T86 L i hi]
            simp only[askS,Option.bind_some,decide_eq_true_eq]
            rw[if_pos ha,if_pos (by omega),if_neg n3,if_pos (by omega),if_pos (by omega),hY,if_pos (by omega),if_pos (by omega),if_pos (by omega),ey,if_neg q1,if_pos (by omega),hN,if_pos (by omega),if_pos (by omega),ez,if_neg q2,ws]
            exact hK k (by omega)
          · obtain⟨K,hK⟩:=a4 R hR
            refine⟨K+K1+K2+L.length+3,fun k hk=>?_⟩
            obtain⟨k,rfl⟩ : ∃ m,k=m+2:=⟨k - 2,by omega⟩
            simp only[impl_Sizes.l2,impl_Sizes.j3]
            rw[if_pos (by omega),if_pos (by omega),if_pos (by omega),nrd_T86 L i hi]
            simp only[askI,Option.bind_some,decide_eq_true_eq]
            rw[if_pos ha,if_pos (by omega),if_neg m3,g1 k (by omega)]
            simp only[Option.bind_some]
            rw[if_neg q1,g2 k (by omega)]
            simp only[Option.bind_some]
            rw[if_neg q2,ws]
            exact hK k (by omega)
    · refine skip (fun k=>?_) (fun k=>?_)
      · simp only[spec_Sizes.l2,spec_Sizes.j3]
        rw[if_pos (by omega),if_pos (by omega),nrd_T86 L i hi]
        simp only[askS,Option.bind_some,decide_eq_true_eq]
        rw[if_neg ha,if_pos trivial,ws]
      · simp only[impl_Sizes.l2,impl_Sizes.j3]
        rw[if_pos (by omega),if_pos (by omega),if_pos (by omega),nrd_T86 L i hi]
        simp only[askI,Option.bind_some,decide_eq_true_eq]
        rw[if_neg ha,if_pos trivial,ws]
theorem rounds (L:List S86) (hn:L.length≤600) (hS:SAll L) (hI:IAll L) (Y N:List Int) (hW:OkW L Y N): ∀ (m:Nat) (o:List Int) (r:Nat),ones o≤m→ones o+r≤L.length→OkS L o→
    ∃ O,OkS L O∧Evt (fun k=>spec_Sizes.l1 k L o Y N (r:Int)) O∧Evt (fun k=>impl_Sizes.l1 k L o true) O:=by
  intro m
  induction m with
  | zero=>
    intro o r hm hr ho
    obtain⟨B,hB,hb,K0,b0⟩:=begins o (by have:=ho.1;omega) ho.2.1
    obtain⟨c,f,hc,hf,h1,h2⟩:=round L hn hS hI o Y N B ho hW hB hb (r:Int)
    cases f with
    | true=>have:=hf rfl;omega
    | false=>
      obtain⟨K1,g1⟩:=h1 c (.const fun _=>by rw[if_neg (by simp)])
      obtain⟨K2,g2⟩:=h2 c (.succ (.const fun k=>by simp only[impl_Sizes.l1];rw[if_neg (by simp)]))
      dsimp only at b0 g1 g2
      refine⟨c,hc,.succ ⟨K0+K1,fun k hk=>?_⟩,.succ ⟨K2,fun k hk=>?_⟩⟩
      · simp only[spec_Sizes.l1]
        rw[if_pos (by omega),b0 k (by omega)]
        exact g1 k (by omega)
      · have e:([] :List Int) ++ o=o:=rfl
        simp only[impl_Sizes.l1,Option.bind_some,if_true]
        rw[if_pos (by have:=ho.1;simp;omega)]
        exact g2 k hk
  | succ m ih=>
    intro o r hm hr ho
    obtain⟨B,hB,hb,K0,b0⟩:=begins o (by have:=ho.1;omega) ho.2.1
    obtain⟨c,f,hc,hf,h1,h2⟩:=round L hn hS hI o Y N B ho hW hB hb (r:Int)
    dsimp only at b0
    have fin: ∀ R,Evt (fun k=>if f=true then spec_Sizes.l1 k L c Y N (wrap64 ((r:Int)+1))else some c) R→Evt (fun k=>impl_Sizes.l1 k L c f) R→Evt (fun k=>spec_Sizes.l1 k L o Y N (r:Int)) R∧Evt (fun k=>impl_Sizes.l1 k L o true) R:=fun R r1 r2=>by
      obtain⟨K1,g1⟩:=h1 R r1
      obtain⟨K2,g2⟩:=h2 R r2
      dsimp only at g1 g2
      refine⟨.succ ⟨K0+K1,fun k hk=>?_⟩,.succ ⟨K2,fun k hk=>?_⟩⟩
      · simp only[spec_Sizes.l1]
        rw[if_pos (by omega),b0 k (by omega)]
        exact g1 k (by omega)
      · simp only[impl_Sizes.l1,Option.bind_some,if_true]
        rw[if_pos (by have:=ho.1;simp;omega)]
        exact g2 k hk
    cases f with
    | true=>
      have hlt:=hf rfl
      obtain⟨O,hO,i1,i2⟩:=ih c (r+1) (by omega) (by omega) hc
      have ew:wrap64 ((r:Int)+1)=((r+1:Nat):Int):=by unfold wrap64;omega
      exact⟨O,hO,fin O (i1.congr fun k=>by rw[if_pos rfl,ew]) i2⟩
    | false=>
      exact⟨c,hc,fin c (.const fun _=>by rw[if_neg (by simp)]) (.succ (.const fun k=>by simp only[impl_Sizes.l1];rw[if_neg (by simp)]))⟩
theorem sizes_l0 (L:List S86) (hn:L.length≤600) (hS:SAll L) (hI:IAll L): ∃ O,OkS L O∧Evt (fun k=>spec_Sizes.l0 k L [] ((0:Nat):Int)) O∧Evt (fun k=>impl_Sizes.l0 k L [] L (L.length:Int) ((0:Nat):Int)) O:=by
  have H: ∀ j (h:j<L.length),L[j].f1.f0=0→PZ L[j]:=fun j h e=>by
    obtain⟨w0,h0⟩:=fstI L (by omega) L[j].f0 0 (by omega)
    obtain⟨w2,h2⟩:=fstI L (by omega) L[j].f2 (j+1) h
    obtain⟨w3,h3⟩:=fstI L (by omega) L[j].f3 (j+1) h
    rcases hI j h w0 w2 w3 h0 h2 h3 with h4|h4
    · exact h4.1
    · exact absurd e h4.1
  refine down (T:=fun i=> ∀ o:List Int,o.length=i→(∀ j (h:j<o.length) (h':j<L.length),(0≤o[j]∧o[j]≤3)∧(3≤L[j].f1.f0∧L[j].f1.f0≤6→o[j]=1∨o[j]=3)∧(¬ (3≤L[j].f1.f0∧L[j].f1.f0≤6)→o[j]=if L[j].f1.f0=0 then 0 else 1))→∃ O,OkS L O∧Evt (fun k=>spec_Sizes.l0 k L o (i:Int)) O∧Evt (fun k=>impl_Sizes.l0 k L o L (L.length:Int) (i:Int)) O) (n:=L.length) ?_ ?_ L.length 0 (by omega) [] rfl (by simp)
  · intro o hl hj
    obtain⟨Y,N,hW,K0,w0⟩:=ways L hn
    have ho:OkS L o:=⟨hl,fun j h=>(hj j h (by omega)).1,fun j h h'=>(hj j h h').2.1,fun j h h'=>(hj j h h').2.2⟩
    obtain⟨O,hO,⟨K1,h1⟩,⟨K2,h2⟩⟩:=rounds L hn hS hI Y N hW (ones o) o 0 (Nat.le_refl _) (by have:=ones_le o;omega) ho
    dsimp only at w0 h1 h2
    refine⟨O,hO,.succ ⟨K0+K1,fun k hk=>?_⟩,.succ ⟨K2,fun k hk=>?_⟩⟩
    · simp only[spec_Sizes.l0]
      rw[if_neg (by omega),w0 k (by omega)]
      exact h1 k (by omega)
    · simp only[impl_Sizes.l0]
      rw[if_neg (by omega)]
      exact h2 k hk
  · intro i hi ih o hl hj
    have ws:=wsucc hi (show L.length≤9223372036854775807 by omega)
    have ext: ∀ v:Int,(0≤v∧v≤3)→(3≤L[i].f1.f0∧L[i].f1.f0≤6→v=1∨v=3)→(¬ (3≤L[i].f1.f0∧L[i].f1.f0≤6)→v=if L[i].f1.f0=0 then 0 else 1)→∃ O,OkS L O∧Evt (fun k=>spec_Sizes.l0 k L (o ++ [v]) ((i+1:Nat):Int)) O∧Evt (fun k=>impl_Sizes.l0 k L (o ++ [v]) L (L.length:Int) ((i+1:Nat):Int)) O:=fun v h1 h2 h3=>by
      refine ih (o ++ [v]) (by simp;omega) (fun j h h'=>?_)
      rcases Nat.lt_or_ge j i with h4|h4
      · rw[List.getElem_append_left (by omega)]
        exact hj j (by omega) h'
      · have:j=i:=by simp at h;omega
        subst this
        have e1:(o ++ [v])[j]=v:=by rw[List.getElem_append_right (by omega)];simp
        rw[e1]
        exact⟨h1,h2,h3⟩
    by_cases hp:L[i].f1.f0=0
    · obtain⟨a,b,c,d⟩:=H i hi hp
      obtain⟨O,hO,⟨K1,h1⟩,⟨K2,h2⟩⟩:=ext 0 (by omega) (fun h=>by omega) (fun _=>by rw[if_pos hp])
      dsimp only at h1 h2
      refine⟨O,hO,.succ ⟨K1,fun k hk=>?_⟩,.succ ⟨K2,fun k hk=>?_⟩⟩
      · simp only[spec_Sizes.l0,spec_l11Place.f]
        rw[if_pos (by omega),if_pos (by omega),nrd_T86 L i hi]
        simp only[Option.bind_some]
        rw[if_pos (by simp[a,b,c,d]),if_pos (by omega),ws]
        exact h1 k hk
      · simp only[impl_Sizes.l0,impl_Line_isPlace.f]
        rw[if_pos (by omega),if_pos (by omega),if_pos (by omega),nrd_T86 L i hi]
        simp only[Option.bind_some]
        rw[if_pos (by simp[hp]),if_pos (by omega),ws]
        exact h2 k hk
    · obtain⟨O,hO,⟨K1,h1⟩,⟨K2,h2⟩⟩:=ext 1 (by omega) (fun _=> .inl rfl) (fun _=>by rw[if_neg hp])
      dsimp only at h1 h2
      refine⟨O,hO,.succ ⟨K1,fun k hk=>?_⟩,.succ ⟨K2,fun k hk=>?_⟩⟩
      · simp only[spec_Sizes.l0,spec_l11Place.f]
        rw[if_pos (by omega),if_pos (by omega),nrd_T86 L i hi]
        simp only[Option.bind_some]
        rw[if_neg (by simp[hp]),if_pos (by omega),ws]
        exact h1 k hk
      · simp only[impl_Sizes.l0,impl_Line_isPlace.f]
        rw[if_pos (by omega),if_pos (by omega),if_pos (by omega),nrd_T86 L i hi]
        simp only[Option.bind_some]
        rw[if_neg (by simp[hp]),if_pos (by omega),ws]
        exact h2 k hk
theorem sizes (L:List S86) (hn:L.length≤1048576): ∃ O:List Int,Evt (fun k=>spec_Sizes.f k L) O∧Evt (fun k=>impl_Sizes.f k L) O∧O.length≤600∧(O≠[]→L.length≤600∧SAll L∧IAll L∧OkS L O∧∃ h:L.length - 1<L.length,L[L.length - 1].f1.f0=8)∧(O= []→L.length=0∨O.length=0):=by
  obtain⟨b,⟨K1,h1⟩,⟨K2,h2⟩,hb⟩:=linesOk L hn
  dsimp only at h1 h2
  cases b with
  | false=>
    refine⟨[],⟨K1,fun k hk=>?_⟩,⟨K2,fun k hk=>?_⟩,by simp,fun h=>absurd rfl h,fun _=> .inr rfl⟩
    · simp only[spec_Sizes.f,h1 k hk,Option.bind_some,Bool.false_eq_true,if_false]
    · simp only[impl_Sizes.f,h2 k hk,Option.bind_some,Bool.false_eq_true,if_false]
  | true=>
    obtain⟨hl,hS,hI,h8⟩:=hb rfl
    obtain⟨O,hO,⟨K3,h3⟩,⟨K4,h4⟩⟩:=sizes_l0 L hl.2 hS hI
    dsimp only at h3 h4
    refine⟨O,⟨K1+K3,fun k hk=>?_⟩,⟨K2+K4,fun k hk=>?_⟩,by have:=hO.1;omega,fun _=>⟨hl.2,hS,hI,hO,h8⟩,fun h=> .inr (by rw[h];rfl)⟩
    · simp only[spec_Sizes.f,h1 k (by omega),Option.bind_some,if_true]
      exact h3 k (by omega)
    · simp only[impl_Sizes.f,h2 k (by omega),Option.bind_some,if_true]
      exact h4 k (by omega)
/-- A jump's way. -/
theorem wayJ {L:List S86} (hn:L.length≤1048576) (hS:SAll L) (hI:IAll L) {i:Nat} (hi:i<L.length) (ha:L[i].f1.f0=7) :
    ∃ y:Nat,i<y∧y<L.length∧L[i].f2.toList≠[]∧(∀ k,L.length<k→spec_l11At.f k L L[i].f2=some (y:Int))∧(∀ k,L.length<k→impl_placeOf.f k L L[i].f2 (i:Int)=some (y:Int)):=by
  have H: ∀ j (h:j<L.length),L[j].f1.f0=0→PZ L[j]:=fun j h e=>by
    obtain⟨w0,h0⟩:=fstI L hn L[j].f0 0 (by omega)
    obtain⟨w2,h2⟩:=fstI L hn L[j].f2 (j+1) h
    obtain⟨w3,h3⟩:=fstI L hn L[j].f3 (j+1) h
    rcases hI j h w0 w2 w3 h0 h2 h3 with h4|h4
    · exact h4.1
    · exact absurd e h4.1
  obtain⟨v,hv,fv⟩:=atS L L[i].f2 hn
  obtain⟨w,hw,fw⟩:=atI L L[i].f2 hn i hi
  have hgt:v>i:=by
    obtain⟨v0,f0⟩:=fstS L hn L[i].f0
    obtain⟨v3,f3⟩:=fstS L hn L[i].f3
    have hl:=hS i hi v0 v v3 f0 fv f3
    have hz: ¬ PZ L[i]:=fun h=>by unfold PZ at h;omega
    rcases hl with h|⟨_,_,_,_,_,_,h|h|h⟩
    · exact absurd h.1 hz
    · exact h.2.2
    · omega
    · exact absurd ha h.1
  rcases fv with⟨m,_,m2,m3,m4,m5⟩|⟨m1,_⟩
  · have hwm:w=(m:Int):=by
      rcases fw with⟨u,u1,u2,u3,u4,u5⟩|⟨_,u2⟩
      · have q1: ¬ m<u:=fun h=>u5 m (by omega) h ((qs_qi H _ m).1 m3)
        have q2: ¬ u<m:=fun h=>m5 u (Nat.zero_le _) h ((qs_qi H _ u).2 u3)
        omega
      · exact absurd ((qs_qi H _ m).1 m3) (u2 m (by omega) m2)
    refine⟨m,by omega,m2,?_,fun k hk=>(hv k hk).trans (by rw[m4]),fun k hk=>(hw k hk).trans (by rw[hwm])⟩
    obtain⟨_,p1,p2⟩:=m3
    obtain⟨v0,f0⟩:=fstS L hn L[m].f0
    obtain⟨v2,f2⟩:=fstS L hn L[m].f2
    obtain⟨v3,f3⟩:=fstS L hn L[m].f3
    rcases hS m m2 v0 v2 v3 f0 f2 f3 with h|h
    · intro e
      rw[← p2]at e
      rw[ByteArray.toList_eq]at e
      have h5:L[m].f0.data.size=0:=by simpa using congrArg List.length e
      have h6:L[m].f0.size=L[m].f0.data.size:=rfl
      have:=h.2.1
      omega
    · exact absurd p1 h.1
  · omega
theorem askZero {L:List S86} (hn:L.length≤1048576) (hS:SAll L) {i:Nat} (hi:i<L.length) (ha: ¬ L[i].f1.f0=0):L[i].f1.f2=0∧L[i].f1.f3=0:=by
  obtain⟨v0,f0⟩:=fstS L hn L[i].f0
  obtain⟨v2,f2⟩:=fstS L hn L[i].f2
  obtain⟨v3,f3⟩:=fstS L hn L[i].f3
  rcases hS i hi v0 v2 v3 f0 f2 f3 with h|h
  · exact absurd h.1.1 ha
  · exact⟨h.2.2.1,h.2.2.2.1⟩
theorem far_gen (o B:List Int) (i y:Nat) (q:Int) (hB:B.length=o.length) (hb: ∀ j (h:j<B.length),B[j]=pre o j) (hn:o.length≤600) (ho: ∀ j (h:j<o.length),0≤o[j]∧o[j]≤3) (hi:i<o.length) (hy:i<y) (hy':y<o.length) (hq:0≤q) (hq':q≤10) :
    wrap64 (wrap64 (rd B (y:Int) - rd B (i:Int)) - q)=pre o y - pre o (i+1)+(o[i] - q):=by
  have b1:=pre_bound ho y (by omega)
  have b2:=pre_bound ho i (by omega)
  have b3:=ho i hi
  rw[nrdI B y (by omega),nrdI B i (by omega),hb y (by omega),hb i (by omega),pre_succ hi]
  rw[w64 (x:=pre o y - pre o i) (by omega) (by omega),w64 (by omega) (by omega)]
  omega
theorem lay_l0 (L:List S86) (hn:L.length≤600) (hS:SAll L) (hI:IAll L) (o Y N B:List Int) (ho:OkS L o) (hW:OkW L Y N) (hB:B.length=o.length) (hb: ∀ j (h:j<B.length),B[j]=pre o j) (h8: ∃ h:L.length - 1<L.length,L[L.length - 1].f1.f0=8) :
    ∃ R:List S71×Bool,R.1.length≤2000∧Evt (fun k=>spec_Layout.l0 k L [] o Y N B [] ((0:Nat):Int)) R∧Evt (fun k=>impl_Layout.l0 k L o [] L (L.length:Int) ((0:Nat):Int)) R:=by
  obtain⟨ol,o3,oa,ok⟩:=ho
  obtain⟨wy,wn,wj⟩:=hW
  refine down (T:=fun i=> ∀ c:List S71,c.length≤3*i→(i=L.length→1≤c.length)→∃ R:List S71×Bool,R.1.length≤2000∧Evt (fun k=>spec_Layout.l0 k L [] o Y N B c (i:Int)) R∧Evt (fun k=>impl_Layout.l0 k L o c L (L.length:Int) (i:Int)) R) (n:=L.length) ?_ ?_ L.length 0 (by omega) [] (by simp) (fun h=>by obtain⟨h,_⟩:=h8;omega)
  · intro c hc h1
    have h1:=h1 rfl
    by_cases hm:(c.length:Int)>400
    · refine⟨([],false),by simp,.succ (.const fun k=>?_),.succ (.const fun k=>?_)⟩
      · simp only[spec_Layout.l0]
        rw[if_neg (by omega),if_pos hm]
      · simp only[impl_Layout.l0,inI,Option.bind_some,decide_eq_true_eq]
        rw[if_neg (by omega),if_neg (by omega)]
    · refine⟨(c,true),by show c.length≤_;omega,.succ (.const fun k=>?_),.succ (.const fun k=>?_)⟩
      · simp only[spec_Layout.l0]
        rw[if_neg (by omega),if_neg hm]
      · simp only[impl_Layout.l0,inI,Option.bind_some,decide_eq_true_eq]
        rw[if_neg (by omega),if_pos (by omega)]
  · intro i hi ih c hc _
    have ws:=wsucc hi (show L.length≤9223372036854775807 by omega)
    have hio:i<o.length:=by omega
    have o0: ¬ (o.length:Int)=0:=by omega
    by_cases hp:L[i].f1.f0=0
    · have e0:o[i]=0:=by rw[ok i hio hi (by omega),if_pos hp]
      obtain⟨R,hR,⟨K1,g1⟩,⟨K2,g2⟩⟩:=ih c (by omega) (fun h=>by
        obtain⟨h,e⟩:=h8
        have e2:L.length - 1=i:=by omega
        have e3:L[i].f1.f0=8:=by simpa only[e2] using e
        omega)
      dsimp only at g1 g2
      refine⟨R,hR,.succ ⟨K1,fun k hk=>?_⟩,.succ ⟨K2,fun k hk=>?_⟩⟩
      · simp only[spec_Layout.l0]
        rw[if_pos (by omega),if_pos (by omega),if_pos (by omega),nrdI o i hio,if_pos e0,ws]
        exact g1 k hk
      · simp only[impl_Layout.l0,impl_Line_isPlace.f]
        rw[if_pos (by omega),if_pos (by omega),if_pos (by omega),if_neg o0,nrd_T86 L i hi]
        simp only[Option.bind_some]
        rw[if_pos (by simp[hp]),ws]
        exact g2 k hk
    have hz:=askZero (by omega) hS hi hp
    have hnp: ¬ (L[i].f1.f0 == 0)=true:=by simpa using hp
    by_cases c7:L[i].f1.f0=7
    · have e1:o[i]=1:=by rw[ok i hio hi (by omega),if_neg hp]
      obtain⟨y,y1,y2,y3,y4,y5⟩:=wayJ (by omega) hS hI hi c7
      have hY:rd Y (i:Int)=(y:Int):=by rw[nrdI Y i (by omega)];exact(wj i hi (by omega) (by omega)).1 y3 _ y4
      have ey:=far_gen o B i y 1 hB hb (by omega) o3 hio y1 (by omega) (by omega) (by omega)
      rw[e1]at ey
      obtain⟨K0,b1⟩:=betw o (by omega) o3 y (by omega) (y - (i+1)) (i+1) 0 (by omega) (by omega) (by omega)
      dsimp only at b1
      have gI: ∀ k,K0+L.length<k→impl_between.f k L o (i:Int) L[i].f2=some (pre o y - pre o (i+1)):=fun k hk=>by
        simp only[impl_between.f,y5 k (by omega),Option.bind_some,ws,b1 k (by omega)]
        exact congrArg some (by omega)
      generalize pre o y - pre o (i+1)=gy at ey gI
      have ey':wrap64 (wrap64 (rd B (y:Int) - rd B (i:Int)) - 1)=gy:=by rw[ey];omega
      obtain⟨R,hR,⟨K1,g1⟩,⟨K2,g2⟩⟩:=ih (c ++ [⟨L[i].f1.f0,gy,L[i].f1.f2,L[i].f1.f3⟩]) (by simp;omega) (fun _=>by simp)
      dsimp only at g1 g2
      refine⟨R,hR,.succ ⟨K1,fun k hk=>?_⟩,.succ ⟨K2+K0+L.length+1,fun k hk=>?_⟩⟩
      · simp only[spec_Layout.l0]
        rw[if_pos (by omega),if_pos (by omega),if_pos (by omega),nrdI o i hio,if_neg (by omega),if_neg (by omega),nrd_T86 L i hi,if_pos c7,if_pos (by omega),hY,if_pos (by omega),if_pos (by omega),if_pos (by omega),if_pos (by omega),ey',ws]
        exact g1 k hk
      · simp only[impl_Layout.l0,impl_Line_isPlace.f]
        rw[if_pos (by omega),if_pos (by omega),if_pos (by omega),if_neg o0,nrd_T86 L i hi]
        simp only[Option.bind_some]
        rw[if_neg hnp,if_pos c7,gI k (by omega)]
        simp only[Option.bind_some]
        rw[if_pos (by omega),ws]
        exact g2 k (by omega)
    by_cases ha:3≤L[i].f1.f0∧L[i].f1.f0≤6
    · obtain⟨y,y1,y2,y3,y4,y5⟩:=wayTo (by omega) hS hI hi ha L[i].f2 (.inl rfl)
      obtain⟨z,z1,z2,z3,z4,z5⟩:=wayTo (by omega) hS hI hi ha L[i].f3 (.inr rfl)
      have hY:rd Y (i:Int)=(y:Int):=by rw[nrdI Y i (by omega)];exact(wj i hi (by omega) (by omega)).1 y3 _ y4
      have hN:rd N (i:Int)=(z:Int):=by rw[nrdI N i (by omega)];exact(wj i hi (by omega) (by omega)).2 z3 _ z4
      have ey:=fun q=>far_gen o B i y q hB hb (by omega) o3 hio y1 (by omega)
      have ez:=fun q=>far_gen o B i z q hB hb (by omega) o3 hio z1 (by omega)
      obtain⟨K0,b1⟩:=betw o (by omega) o3 y (by omega) (y - (i+1)) (i+1) 0 (by omega) (by omega) (by omega)
      obtain⟨K9,b2⟩:=betw o (by omega) o3 z (by omega) (z - (i+1)) (i+1) 0 (by omega) (by omega) (by omega)
      have p1:=pre_bound o3 y (by omega)
      have p2:=pre_bound o3 (i+1) (by omega)
      dsimp only at b1 b2
      have gI: ∀ k,K0+L.length<k→impl_between.f k L o (i:Int) L[i].f2=some (pre o y - pre o (i+1)):=fun k hk=>by
        simp only[impl_between.f,y5 k (by omega),Option.bind_some,ws,b1 k (by omega)]
        exact congrArg some (by omega)
      have gJ: ∀ k,K9+L.length<k→impl_between.f k L o (i:Int) L[i].f3=some (pre o z - pre o (i+1)):=fun k hk=>by
        simp only[impl_between.f,z5 k (by omega),Option.bind_some,ws,b2 k (by omega)]
        exact congrArg some (by omega)
      have hgy:wrap64 (pre o y - pre o (i+1)+1)=pre o y - pre o (i+1)+1:=w64 (by omega) (by omega)
      generalize pre o y - pre o (i+1)=gy at ey gI hgy
      generalize pre o z - pre o (i+1)=gz at ez gJ
      rcases oa i hio hi ha with e1|e3
      · have ey':wrap64 (wrap64 (rd B (y:Int) - rd B (i:Int)) - 1)=gy:=by rw[ey 1 (by omega) (by omega),e1];omega
        have ez':wrap64 (wrap64 (rd B (z:Int) - rd B (i:Int)) - 1)=gz:=by rw[ez 1 (by omega) (by omega),e1];omega
        obtain⟨R,hR,⟨K1,g1⟩,⟨K2,g2⟩⟩:=ih (c ++ [⟨L[i].f1.f0,L[i].f1.f1,gy,gz⟩]) (by simp;omega) (fun _=>by simp)
        dsimp only at g1 g2
        refine⟨R,hR,.succ ⟨K1,fun k hk=>?_⟩,⟨K2+K0+K9+L.length+3,fun k hk=>?_⟩⟩
        · simp only[spec_Layout.l0]
          rw[if_pos (by omega),if_pos (by omega),if_pos (by omega),nrdI o i hio,if_neg (by omega),if_neg (by omega),nrd_T86 L i hi,if_neg c7]
          simp only[askS,Option.bind_some,decide_eq_true_eq]
          rw[if_pos ha,if_pos (by omega),hY,if_pos (by omega),if_pos (by omega),if_pos (by omega),if_pos (by omega),hN,if_pos (by omega),if_pos (by omega),if_pos (by omega),ey',ez',ws]
          exact g1 k hk
        · obtain⟨k,rfl⟩ : ∃ m,k=m+2:=⟨k - 2,by omega⟩
          simp only[impl_Layout.l0,impl_Line_isPlace.f,impl_Layout.j1]
          rw[if_pos (by omega),if_pos (by omega),if_pos (by omega),if_neg o0,nrd_T86 L i hi]
          simp only[Option.bind_some,askI,decide_eq_true_eq]
          rw[if_neg hnp,if_neg c7,if_pos ha,if_pos (by omega),nrdI o i hio,e1,if_neg (by simp),if_pos ha,gI k (by omega)]
          simp only[Option.bind_some]
          rw[gJ k (by omega)]
          simp only[Option.bind_some]
          rw[if_pos (by omega),ws]
          exact g2 k (by omega)
      · have ey':wrap64 (wrap64 (rd B (y:Int) - rd B (i:Int)) - 2)=gy+1:=by rw[ey 2 (by omega) (by omega),e3];omega
        have ez':wrap64 (wrap64 (rd B (z:Int) - rd B (i:Int)) - 3)=gz:=by rw[ez 3 (by omega) (by omega),e3];omega
        obtain⟨R,hR,⟨K1,g1⟩,⟨K2,g2⟩⟩:=ih (c ++ [⟨L[i].f1.f0,L[i].f1.f1,0,1⟩,⟨7,gy+1,0,0⟩,⟨7,gz,0,0⟩]) (by simp;omega) (fun _=>by simp)
        dsimp only at g1 g2
        refine⟨R,hR,.succ ⟨K1,fun k hk=>?_⟩,⟨K2+K0+K9+L.length+3,fun k hk=>?_⟩⟩
        · simp only[spec_Layout.l0]
          rw[if_pos (by omega),if_pos (by omega),if_pos (by omega),nrdI o i hio,if_neg (by omega),if_pos e3,if_pos (by omega),hY,if_pos (by omega),if_pos (by omega),if_pos (by omega),if_pos (by omega),hN,if_pos (by omega),if_pos (by omega),nrd_T86 L i hi,ey',ez',hz.1]
          simp only[Option.bind_some]
          rw[if_pos (by simp;omega),ws]
          exact g1 k hk
        · obtain⟨k,rfl⟩ : ∃ m,k=m+2:=⟨k - 2,by omega⟩
          simp only[impl_Layout.l0,impl_Line_isPlace.f,impl_Layout.j1]
          rw[if_pos (by omega),if_pos (by omega),if_pos (by omega),if_neg o0,nrd_T86 L i hi]
          simp only[Option.bind_some,askI,decide_eq_true_eq]
          rw[if_neg hnp,if_neg c7,if_pos ha,if_pos (by omega),nrdI o i hio,e3,if_pos (by simp),gI k (by omega)]
          simp only[Option.bind_some]
          rw[gJ k (by omega)]
          simp only[Option.bind_some]
          rw[if_pos (by simp;omega),hgy,ws]
          exact g2 k (by omega)
    · have e1:o[i]=1:=by rw[ok i hio hi ha,if_neg hp]
      obtain⟨R,hR,⟨K1,g1⟩,⟨K2,g2⟩⟩:=ih (c ++ [⟨L[i].f1.f0,L[i].f1.f1,L[i].f1.f2,L[i].f1.f3⟩]) (by simp;omega) (fun _=>by simp)
      dsimp only at g1 g2
      refine⟨R,hR,.succ ⟨K1,fun k hk=>?_⟩,⟨K2+2,fun k hk=>?_⟩⟩
      · simp only[spec_Layout.l0]
        rw[if_pos (by omega),if_pos (by omega),if_pos (by omega),nrdI o i hio,if_neg (by omega),if_neg (by omega),nrd_T86 L i hi,if_neg c7]
        simp only[askS,Option.bind_some,decide_eq_true_eq]
        rw[if_neg ha,if_pos (by omega),ws]
        exact g1 k hk
      · obtain⟨k,rfl⟩ : ∃ m,k=m+2:=⟨k - 2,by omega⟩
        simp only[impl_Layout.l0,impl_Line_isPlace.f,impl_Layout.j1]
        rw[if_pos (by omega),if_pos (by omega),if_pos (by omega),if_neg o0,nrd_T86 L i hi]
        simp only[Option.bind_some,askI,decide_eq_true_eq]
        rw[if_neg hnp,if_neg c7,if_neg ha,if_neg (by simp),if_neg ha,if_pos (by omega),ws]
        exact g2 k (by omega)
theorem layout (L:List S86) (hn:L.length≤1048576): ∃ R:List S71×Bool,R.1.length≤2000∧Evt (fun k=>spec_Layout.f k L) R∧Evt (fun k=>impl_Layout.f k L) R:=by
  obtain⟨O,⟨K1,h1⟩,⟨K2,h2⟩,hO,hne,_⟩:=sizes L hn
  dsimp only at h1 h2
  by_cases he:O= []
  · subst he
    refine⟨([],false),by simp,⟨K1,fun k hk=>?_⟩,⟨K2+1,fun k hk=>?_⟩⟩
    · simp only[spec_Layout.f,h1 k hk,Option.bind_some,List.length_nil]
      rw[if_pos (by omega)]
    · obtain⟨k,rfl⟩ : ∃ m,k=m+1:=⟨k - 1,by omega⟩
      simp only[impl_Layout.f,h2 (k+1) (by omega),Option.bind_some,impl_Layout.l0]
      by_cases hl:(0:Int)<(L.length:Int)
      · rw[if_pos hl,if_pos (by omega),if_pos hl,if_pos (by simp)]
      · rw[if_neg hl]
        simp only[inI,Option.bind_some,decide_eq_true_eq]
        rw[if_neg (by simp)]
  · obtain⟨hl,hS,hI,ho,h8⟩:=hne he
    obtain⟨Y,N,hW,K3,h3⟩:=ways L hl
    obtain⟨B,hB,hb,K4,h4⟩:=begins O (by omega) ho.2.1
    obtain⟨R,hR,⟨K5,h5⟩,⟨K6,h6⟩⟩:=lay_l0 L hl hS hI O Y N B ho hW hB hb h8
    dsimp only at h3 h4 h5 h6
    have hpos: ¬ (O.length:Int)=0:=fun h=>he (List.eq_nil_of_length_eq_zero (by omega))
    refine⟨R,hR,⟨K1+K3+K4+K5,fun k hk=>?_⟩,⟨K2+K6,fun k hk=>?_⟩⟩
    · simp only[spec_Layout.f,h1 k (by omega),h3 k (by omega),h4 k (by omega),Option.bind_some,if_neg hpos]
      exact h5 k (by omega)
    · simp only[impl_Layout.f,h2 k (by omega),Option.bind_some]
      exact h6 k (by omega)
theorem actS (a b:Int):Tot (fun _=>spec_l09Act.f a b):=by
  refine⟨decide ((0≤a∧a≤5)∧(0≤b∧b≤65535)),.const fun k=>?_⟩
  unfold spec_l09Act.f
  simp only[inS,Option.bind_some,decide_eq_true_eq]
  split
  · rename_i h
    exact congrArg some (by rw[Bool.eq_iff_iff];simp[h])
  · rename_i h
    exact congrArg some (by rw[Bool.eq_iff_iff];simp[h])
/-- A rule's second loop, and its end. -/
theorem rule_l1 (x:List Int) (l:List S118) (a b:Int) (hn:l.length≤4611686018427387904): ∃ r,(r=true→x.length≤4∧l.length≤3)∧Evt (fun k=>spec_l09Rule.l1 k 0 x l a b) r∧Evt (fun k=>impl_ruleOk.l1 k l (l.length:Int) 0 x l a b) r:=by
  refine down (T:=fun i=> ∃ r,(r=true→x.length≤4∧l.length≤3)∧Evt (fun k=>spec_l09Rule.l1 k (i:Int) x l a b) r∧Evt (fun k=>impl_ruleOk.l1 k l (l.length:Int) (i:Int) x l a b) r) (n:=l.length) ?_ ?_ l.length 0 (by omega)
  · obtain⟨v,K,hv⟩:=actS a b
    dsimp only at hv
    have hv0:=hv K (Nat.le_refl _)
    have hv1:impl_actionOk.f a b=some v:=hv0
    refine⟨if(x.length:Int)≤4 then(if(l.length:Int)≤3 then v else false)else false,fun hr=>by(repeat' split at hr) <;> first|(cases hr;done)|omega,.succ (.const fun k=>?_),.succ (.const fun k=>?_)⟩
    · simp only[spec_l09Rule.l1]
      rw[if_neg (by omega),hv0]
      simp only[Option.bind_some]
      repeat' split
      all_goals rfl
    · simp only[impl_ruleOk.l1]
      rw[if_neg (by omega),hv1]
      simp only[Option.bind_some]
      repeat' split
      all_goals rfl
  · intro i hi ih
    obtain⟨r,hr,⟨K1,h1⟩,⟨K2,h2⟩⟩:=ih
    dsimp only at h1 h2
    obtain⟨q,e,e'⟩ : ∃ q,spec_CondOk.f l[i].f0 l[i].f1.f0 l[i].f1.f1 l[i].f2 l[i].f3.f0 l[i].f3.f1=some q∧impl_CondOk.f l[i].f0 l[i].f1.f0 l[i].f1.f1 l[i].f2 l[i].f3.f0 l[i].f3.f1=some q:=⟨_,condS _ _ _ _ _ _,condI _ _ _ _ _ _⟩
    refine⟨if q=true then r else false,fun e=>hr (by revert e;cases q <;> simp),.succ ⟨K1,fun k hk=>?_⟩,.succ ⟨K2,fun k hk=>?_⟩⟩
    · simp only[spec_l09Rule.l1]
      rw[if_pos (by omega),if_pos (by omega),nrd_T118 l i hi,e,wsucc hi (by omega)]
      simp only[Option.bind_some]
      rw[h1 k (by omega)]
      split <;> rfl
    · simp only[impl_ruleOk.l1]
      rw[if_pos (by omega),if_pos (by omega),if_pos (by omega),nrd_T118 l i hi,e',wsucc hi (by omega)]
      simp only[Option.bind_some]
      rw[h2 k (by omega)]
      split <;> rfl
theorem rule (x:List Int) (l:List S118) (a b:Int) (hx:x.length≤4611686018427387904) (hn:l.length≤4611686018427387904): ∃ r,(r=true→x.length≤4∧l.length≤3)∧Evt (fun k=>spec_l09Rule.f k x l a b) r∧Evt (fun k=>impl_ruleOk.f k x l a b) r:=by
  refine down (T:=fun i=> ∃ r,(r=true→x.length≤4∧l.length≤3)∧Evt (fun k=>spec_l09Rule.l0 k (i:Int) x l a b) r∧Evt (fun k=>impl_ruleOk.l0 k x (x.length:Int) (i:Int) x l a b) r) (n:=x.length) ?_ ?_ x.length 0 (by omega)
  · obtain⟨r,hr,⟨K1,h1⟩,⟨K2,h2⟩⟩:=rule_l1 x l a b hn
    dsimp only at h1 h2
    refine⟨r,hr,.succ ⟨K1,fun k hk=>?_⟩,.succ ⟨K2,fun k hk=>?_⟩⟩
    · simp only[spec_l09Rule.l0]
      rw[if_neg (by omega)]
      exact h1 k hk
    · simp only[impl_ruleOk.l0]
      rw[if_neg (by omega)]
      exact h2 k hk
  · intro i hi ih
    obtain⟨r,hr,⟨K1,h1⟩,⟨K2,h2⟩⟩:=ih
    dsimp only at h1 h2
    obtain⟨q,e,e'⟩ : ∃ q,spec_HalfOk.f x[i]=some q∧impl_HalfOk.f x[i]=some q:=⟨_,halfS _,halfI _⟩
    have ew:0<i→wrap64 ((i:Int) - 1)=((i - 1:Nat):Int):=fun h=>by rw[w64 (by omega) (by omega)];omega
    refine⟨if q=true then(if 0<i∧rd x (wrap64 ((i:Int) - 1))≥x[i]then false else r)else false,fun e=>hr (by(repeat' split at e) <;> first|(cases e;done)|exact e),.succ ⟨K1,fun k hk=>?_⟩,.succ ⟨K2,fun k hk=>?_⟩⟩
    · simp only[spec_l09Rule.l0]
      rw[if_pos (by omega),if_pos (by omega),nrd x i hi,e,wsucc hi (by omega)]
      simp only[Option.bind_some]
      by_cases h0:0<i
      · have h9:=ew h0
        rw[h9,if_pos (show(i:Int)>0 by omega),if_pos (show(0:Int)≤((i - 1:Nat):Int) by omega),if_pos (show((i - 1:Nat):Int)<(x.length:Int) by omega),h1 k (by omega)]
        simp only[h0,true_and]
        repeat' split
        all_goals rfl
      · rw[if_neg (show ¬ (i:Int)>0 by omega),h1 k (by omega)]
        simp only[h0,false_and,if_false]
        split <;> rfl
    · simp only[impl_ruleOk.l0]
      rw[if_pos (by omega),if_pos (by omega),if_pos (by omega),nrd x i hi,e',wsucc hi (by omega)]
      simp only[Option.bind_some]
      by_cases h0:0<i
      · have h9:=ew h0
        rw[h9,if_pos (show(i:Int)>0 by omega),if_pos (show(0:Int)≤((i - 1:Nat):Int) by omega),if_pos (show((i - 1:Nat):Int)<(x.length:Int) by omega),h2 k (by omega)]
        simp only[h0,true_and]
        repeat' split
        all_goals rfl
      · rw[if_neg (show ¬ (i:Int)>0 by omega),h2 k (by omega)]
        simp only[h0,false_and,if_false]
        split <;> rfl
theorem pol (a b c:Int) (l:List S78) (hn:l.length≤4611686018427387904) (hl: ∀ y ∈ l,y.f0.length≤4611686018427387904∧y.f1.length≤4611686018427387904): ∃ r,(r=true→l.length≤10∧∀ y ∈ l,y.f0.length≤4∧y.f1.length≤3)∧Evt (fun k=>spec_PolicyOk.f k a b c l) r∧Evt (fun k=>impl_PolicyOk.f k a b c l) r:=by
  suffices h: ∃ r,(r=true→l.length≤10∧∀ j (h:j<l.length),0≤j→l[j].f0.length≤4∧l[j].f1.length≤3)∧Evt (fun k=>spec_PolicyOk.l0 k 0 a b c l) r∧Evt (fun k=>impl_PolicyOk.l0 k l (l.length:Int) 0 a b c l) r by
    obtain⟨r,hr,h1,h2⟩:=h
    refine⟨r,fun e=>⟨(hr e).1,fun y hy=>?_⟩,h1,h2⟩
    obtain⟨j,hj,rfl⟩:=List.getElem_of_mem hy
    exact(hr e).2 j hj (Nat.zero_le _)
  refine down (T:=fun i=> ∃ r,(r=true→l.length≤10∧∀ j (h:j<l.length),i≤j→l[j].f0.length≤4∧l[j].f1.length≤3)∧Evt (fun k=>spec_PolicyOk.l0 k (i:Int) a b c l) r∧Evt (fun k=>impl_PolicyOk.l0 k l (l.length:Int) (i:Int) a b c l) r) (n:=l.length) ?_ ?_ l.length 0 (by omega)
  · obtain⟨v,K,hv⟩:=actS b c
    dsimp only at hv
    have hv0:=hv K (Nat.le_refl _)
    have hv1:impl_actionOk.f b c=some v:=hv0
    refine⟨if decide (0≤a∧a≤4294967295)=true then(if v=true then decide ((l.length:Int)≤10)else false)else false,fun e=>by(repeat' split at e) <;> first|(cases e;done)|(have:=of_decide_eq_true e;exact⟨by omega,fun j hj h=>absurd hj (by omega)⟩),.succ (.const fun k=>?_),.succ (.const fun k=>?_)⟩
    · simp only[spec_PolicyOk.l0]
      rw[if_neg (by omega),halfS,hv0]
      simp only[Option.bind_some]
      repeat' split
      all_goals rfl
    · simp only[impl_PolicyOk.l0]
      rw[if_neg (by omega),halfI,hv1]
      simp only[Option.bind_some]
      repeat' split
      all_goals rfl
  · intro i hi ih
    obtain⟨r,hr,⟨K1,h1⟩,⟨K2,h2⟩⟩:=ih
    have hb:=hl _ (List.getElem_mem hi)
    obtain⟨q,hq,⟨K3,h3⟩,⟨K4,h4⟩⟩:=rule l[i].f0 l[i].f1 l[i].f2 l[i].f3 hb.1 hb.2
    dsimp only at h1 h2 h3 h4
    refine⟨if q=true then r else false,fun e=>by
      have e1:q=true:=by revert e;cases q <;> simp
      have e2:r=true:=by revert e;cases q <;> simp
      refine⟨(hr e2).1,fun j hj hij=>?_⟩
      rcases Nat.eq_or_lt_of_le hij with rfl|hlt
      · exact hq e1
      · exact(hr e2).2 j hj hlt,.succ ⟨K1+K3,fun k hk=>?_⟩,.succ ⟨K2+K4,fun k hk=>?_⟩⟩
    · simp only[spec_PolicyOk.l0]
      rw[if_pos (by omega),if_pos (by omega),nrd_T78 l i hi,h3 k (by omega),wsucc hi (by omega)]
      simp only[Option.bind_some]
      rw[h1 k (by omega)]
      split <;> rfl
    · simp only[impl_PolicyOk.l0]
      rw[if_pos (by omega),if_pos (by omega),if_pos (by omega),nrd_T78 l i hi,h4 k (by omega),wsucc hi (by omega)]
      simp only[Option.bind_some]
      rw[h2 k (by omega)]
      split <;> rfl
theorem sumLe (g:S78→Nat) (m:Nat): ∀ R:List S78,(∀ y ∈ R,g y≤m)→(R.map g).sum≤m*R.length
  | [],_=>by simp
  | y :: R,h=>by
    have h1:=sumLe g m R fun z hz=>h z (List.mem_cons_of_mem _ hz)
    have h2:=h y (List.mem_cons_self ..)
    rw[List.map_cons,List.sum_cons,List.length_cons,Nat.mul_succ]
    omega
/-- The lines of a right policy: the same on both sides, and not many. -/
theorem compLines (a b c:Int) (R:List S78) (hR:R.length≤10) (hb: ∀ y ∈ R,y.f0.length≤4∧y.f1.length≤3): ∃ O:List S86,O.length≤1048576∧Evt (fun k=>spec_PolicyLines.f k a b c R) O∧Evt (fun k=>impl_PolicyLines.f k a b c R) O:=by
  have hb2: ∀ y ∈ R,y.f0.length≤1048576∧y.f1.length≤1048576:=fun y hy=>by have:=hb y hy;omega
  have hR2:R.length≤1048576:=by omega
  have s0:=sumLe (fun y=>y.f0.length) 4 R fun y hy=>(hb y hy).1
  have s1:=sumLe (fun y=>y.f1.length) 3 R fun y hy=>(hb y hy).2
  obtain⟨N,_,hN,_,_,⟨K1,h1⟩,⟨K2,h2⟩⟩:=numsOf a b c R hR2 (fun y hy=>(hb2 y hy).1)
  generalize hc:(R.map (fun y=>y.f1.length)).sum=cc at s1
  generalize hn:(R.map (fun y=>y.f0.length)).sum=nn at s0 hN
  have hlv:=leaves cc N.length (by omega)
  obtain⟨O,hO,⟨K3,h3⟩,⟨K4,h4⟩⟩:=tree a b c R (10*cc+53) (by omega) (fun n t s hs=>chainB a b c n R t s hR2 hb2 hs (10*cc+52) (by omega) (by rw[hc];omega)) N.length N (⟨#[116]⟩ :ByteArray) (Nat.le_refl _) (by show 1+N.length≤_;omega) hlv
  have hm:(2*(10*cc+53)+6)*N.length≤712*40:=Nat.mul_le_mul (by omega) (by omega)
  have hO2:O.length≤30000:=by rcases hO with hO|hO <;> omega
  dsimp only at h1 h2 h3 h4
  refine⟨[lw 1 1,la 3 a (⟨#[112]⟩ :ByteArray) (⟨#[113]⟩ :ByteArray),lp (⟨#[113]⟩ :ByteArray),lw 8 0,lp (⟨#[112]⟩ :ByteArray),lw 1 0] ++ O,by simp;omega,⟨K1+K3,fun k hk=>?_⟩,⟨K2+K4,fun k hk=>?_⟩⟩
  · dsimp only
    rw[spec_PolicyLines.f]
    simp only[spec_l11Word.f,spec_l11Asks.f,Option.bind_some,h1 k (by omega),h3 k (by omega)]
    rw[if_pos (by simp only[List.length_cons,List.length_nil];omega)]
    rfl
  · dsimp only
    rw[impl_PolicyLines.f]
    simp only[impl_word.f,impl_ask.f,impl_place.f,Option.bind_some,h2 k (by omega),h4 k (by omega)]
    rw[if_pos (by simp only[List.length_cons,List.length_nil];omega)]
    rfl
/-- A policy made a program: the same on both sides. -/
theorem compile (a b c:Int) (R:List S78) (hn:R.length≤4611686018427387904) (hl: ∀ y ∈ R,y.f0.length≤4611686018427387904∧y.f1.length≤4611686018427387904): ∃ L e,L.length≤2000∧Evt (fun k=>spec_Compile.f k a b c R) (L,e)∧Evt (fun k=>impl_Compile.f k a b c R) (L,e):=by
  obtain⟨r,hr,⟨K1,h1⟩,⟨K2,h2⟩⟩:=pol a b c R hn hl
  dsimp only at h1 h2
  cases r
  · refine⟨[],1,by simp,⟨K1,fun k hk=>?_⟩,⟨K2,fun k hk=>?_⟩⟩
    · dsimp only
      simp only[spec_Compile.f,h1 k hk,Option.bind_some]
      rfl
    · dsimp only
      simp only[impl_Compile.f,h2 k hk,Option.bind_some]
      rfl
  obtain⟨hR,hb⟩:=hr rfl
  obtain⟨O,hO,⟨K3,h3⟩,⟨K4,h4⟩⟩:=compLines a b c R hR hb
  obtain⟨⟨P,q⟩,hP,⟨K5,h5⟩,⟨K6,h6⟩⟩:=layout O hO
  dsimp only at h3 h4 h5 h6 hP
  by_cases hb:(O.length:Int)>600
  · refine⟨[],2,by simp,⟨K1+K3,fun k hk=>?_⟩,⟨K2+K4+K6,fun k hk=>?_⟩⟩
    · dsimp only
      simp only[spec_Compile.f,h1 k (by omega),h3 k (by omega),Option.bind_some,if_pos hb]
      rfl
    · dsimp only
      simp only[impl_Compile.f,h2 k (by omega),h4 k (by omega),h6 k (by omega),Option.bind_some,if_pos hb]
      rfl
  cases q
  · refine⟨[],2,by simp,⟨K1+K3+K5,fun k hk=>?_⟩,⟨K2+K4+K6,fun k hk=>?_⟩⟩
    · dsimp only
      simp only[spec_Compile.f,h1 k (by omega),h3 k (by omega),h5 k (by omega),Option.bind_some,if_neg hb]
      rfl
    · dsimp only
      simp only[impl_Compile.f,h2 k (by omega),h4 k (by omega),h6 k (by omega),Option.bind_some,if_neg hb]
      rfl
  · refine⟨P,0,hP,⟨K1+K3+K5,fun k hk=>?_⟩,⟨K2+K4+K6,fun k hk=>?_⟩⟩
    · dsimp only
      simp only[spec_Compile.f,h1 k (by omega),h3 k (by omega),h5 k (by omega),Option.bind_some,if_neg hb]
      rfl
    · dsimp only
      simp only[impl_Compile.f,h2 k (by omega),h4 k (by omega),h6 k (by omega),Option.bind_some,if_neg hb]
      rfl
theorem and255 (x:Int):0≤Go.bits .and .i64 x 255∧Go.bits .and .i64 x 255≤255:=by
  have h:((BitVec.ofInt IntKind.i64.bits x) &&& (BitVec.ofInt IntKind.i64.bits 255)).toNat≤255:=by
    rw[BitVec.toNat_and]
    exact Nat.le_trans Nat.and_le_right (by decide)
  have e:Go.bits .and .i64 x 255=IntKind.i64.wrap ((((BitVec.ofInt IntKind.i64.bits x) &&& (BitVec.ofInt IntKind.i64.bits 255)).toNat:Nat):Int):=rfl
  rw[e,IntKind.wrap_i64]
  omega
theorem byte {s:List Int} (hs:s.length≤1048576) (p e:Int) (hp:0≤p): ∃ b p' e',spec_l01Byte.f s p e=some (b,p',e')∧(0≤b∧b≤255)∧0≤p':=by
  unfold spec_l01Byte.f
  by_cases h:p<(s.length:Int)
  · rw[if_pos h,if_pos hp]
    exact⟨_,_,_,rfl,and255 _,by rw[w64 (by omega) (by omega)];omega⟩
  · rw[if_neg h]
    exact⟨_,_,_,rfl,and255 _,hp⟩
theorem below {s:List Int} (hs:s.length≤1048576) (p e:Int) (hp:0≤p) (n:Int) (h1:1≤n) (h2:n≤256): ∃ r p' e',spec_l01Below.f s p e n=some (r,p',e')∧(0≤r∧r<n)∧0≤p':=by
  obtain⟨b,p',e',hb,hr,hp'⟩:=byte hs p e hp
  unfold spec_l01Below.f
  rw[if_neg (by omega),if_pos h2,hb]
  simp only[Option.bind_some]
  rw[if_neg (by omega)]
  refine⟨_,_,_,rfl,?_,hp'⟩
  rw[Int.tmod_eq_emod_of_nonneg hr.1]
  exact⟨Int.emod_nonneg _ (by omega),Int.emod_lt_of_pos _ (by omega)⟩
theorem once {s:List Int} (hs:s.length≤1048576) (p e:Int) (hp:0≤p) (n:Int) (h1:1≤n) (h2:n≤256): ∃ r p' e',spec_l01Once.f s p e n=some (r,p',e')∧0≤p':=by
  obtain⟨r,p',e',h,_,hp'⟩:=below hs p e hp n h1 h2
  exact⟨_,p',e',by unfold spec_l01Once.f;rw[h];rfl,hp'⟩
theorem pick {s:List Int} (hs:s.length≤1048576) (p e:Int) (hp:0≤p) (l:List Int) (h1:1≤(l.length:Int)) (h2:(l.length:Int)≤256): ∃ v p' e',spec_l01PickInt.f s p e l=some (v,p',e')∧v ∈ l∧0≤p':=by
  obtain⟨r,p',e',h,hr,hp'⟩:=below hs p e hp _ h1 h2
  refine⟨rd l r,p',e',by unfold spec_l01PickInt.f;rw[h];simp only[Option.bind_some];rw[if_pos hr.1,if_pos hr.2],?_,hp'⟩
  obtain⟨i,rfl⟩:=Int.eq_ofNat_of_zero_le hr.1
  have hi:i<l.length:=by omega
  have e:rd l (i:Int)=l[i]:=getD_lt _ hi
  rw[e]
  exact List.getElem_mem hi
theorem half {s:List Int} (hs:s.length≤1048576) (p e:Int) (hp:0≤p): ∃ v p' e',spec_l04Half.f s p e=some (v,p',e')∧(0≤v∧v≤4294967295)∧0≤p':=by
  obtain⟨r,p1,e1,h,hr,hp1⟩:=below hs p e hp 12 (by omega) (by omega)
  obtain⟨v,p2,e2,g,hv,hp2⟩:=pick hs p1 e1 hp1 [0,1,2,3,5,7,255,4294967295,2147483648,r] (by simp) (by simp)
  refine⟨v,p2,e2,by unfold spec_l04Half.f;rw[h];simp only[Option.bind_some];rw[g];rfl,?_,hp2⟩
  simp only[List.mem_cons,List.not_mem_nil,or_false]at hv
  omega
theorem wide {s:List Int} (hs:s.length≤1048576) (p e:Int) (hp:0≤p): ∃ a b p' e',spec_l04Wide.f s p e=some (a,b,p',e')∧((0≤a∧a≤4294967295)∧(0≤b∧b≤4294967295))∧0≤p':=by
  obtain⟨r,p1,e1,h,hr,hp1⟩:=half hs p e hp
  obtain⟨b,p2,e2,g,hp2⟩:=once hs p1 e1 hp1 3 (by omega) (by omega)
  unfold spec_l04Wide.f
  rw[h]
  simp only[Option.bind_some]
  rw[g]
  simp only[Option.bind_some]
  cases b with
  | true=>
    obtain⟨q,p3,e3,f,hq,hp3⟩:=half hs p2 e2 hp2
    rw[if_pos rfl,f]
    exact⟨_,_,_,_,rfl,⟨hq,hr⟩,hp3⟩
  | false=>
    rw[if_neg (by simp)]
    exact⟨_,_,_,_,rfl,⟨by omega,hr⟩,hp2⟩
theorem drawCond {s:List Int} (hs:s.length≤1048576) (p e:Int) (hp:0≤p): ∃ a b c d f g p' e',spec_l09Cond.f s p e=some (a,b,c,d,f,g,p',e')∧((0≤a∧a≤2)∧((0≤b∧b≤4294967295)∧(0≤c∧c≤4294967295))∧((0≤f∧f≤4294967295)∧(0≤g∧g≤4294967295))∧1≤d∧d≤6)∧0≤p':=by
  obtain⟨a,p1,e1,h1,ha,hp1⟩:=below hs p e hp 3 (by omega) (by omega)
  obtain⟨d,p2,e2,h2,hd,hp2⟩:=below hs p1 e1 hp1 6 (by omega) (by omega)
  obtain⟨f,g,p3,e3,h3,hf,hp3⟩:=wide hs p2 e2 hp2
  obtain⟨o,p4,e4,h4,hp4⟩:=once hs p3 e3 hp3 3 (by omega) (by omega)
  have ed:wrap64 (1+d)=1+d:=w64 (by omega) (by omega)
  unfold spec_l09Cond.f
  rw[h1]
  simp only[Option.bind_some]
  rw[h2]
  simp only[Option.bind_some]
  rw[h3]
  simp only[Option.bind_some]
  rw[h4]
  simp only[Option.bind_some,ed]
  cases o with
  | true=>
    obtain⟨b,c,p5,e5,h5,hb,hp5⟩:=wide hs p4 e4 hp4
    rw[if_pos rfl,h5]
    exact⟨_,_,_,_,_,_,_,_,rfl,⟨by omega,hb,hf,by omega⟩,hp5⟩
  | false=>
    rw[if_neg (by simp)]
    exact⟨_,_,_,_,_,_,_,_,rfl,⟨by omega,⟨by omega,by omega⟩,hf,by omega⟩,hp4⟩
theorem newC (l:List Int) (hl:l.length≤1048576): ∃ e,Evt (fun k=>spec_l01New.f k l) (l,0,e):=by
  have key: ∀ (d i:Nat) (e:Int),i+d=l.length→∃ e',Evt (fun k=>spec_l01New.l0 k l e (i:Int)) (l,0,e'):=by
    intro d
    induction d with
    | zero=>
      intro i e h
      exact⟨e,.succ (.const fun k=>by simp only[spec_l01New.l0];rw[if_neg (by omega)])⟩
    | succ d ih=>
      intro i e h
      by_cases h4:(i:Int)<4000
      · obtain⟨e',K,hK⟩:=ih (i+1) (Go.bits .and .i64 (wrap64 ((wrap64 ((wrap64 (e*131))+(wrap64 (rd l (i:Int)))))+7)) 1073741823) (by omega)
        refine⟨e',.succ ⟨K,fun k hk=>?_⟩⟩
        simp only[spec_l01New.l0]
        rw[if_pos (by omega),if_pos h4,if_pos (by omega),wsucc (show i<l.length by omega) (by omega)]
        exact hK k hk
      · exact⟨e,.succ (.const fun k=>by simp only[spec_l01New.l0];rw[if_pos (by omega),if_neg h4])⟩
  exact key l.length 0 _ (by omega)
/-- A right condition. -/
def CondR (y:S118):Prop:=(0≤y.f0∧y.f0≤2)∧((0≤y.f1.f0∧y.f1.f0≤4294967295)∧(0≤y.f1.f1∧y.f1.f1≤4294967295))∧((0≤y.f3.f0∧y.f3.f0≤4294967295)∧(0≤y.f3.f1∧y.f3.f1≤4294967295))∧1≤y.f2∧y.f2≤6
/-- Numbers that go up, each a half. -/
def NumsR (x:List Int):Prop:=(∀ i (h:i<x.length),0≤x[i]∧x[i]≤4294967295)∧∀ i (h:i+1<x.length),x[i]<x[i+1]
/-- A right rule. -/
def RuleR (x:List Int) (l:List S118) (a b:Int):Prop:=NumsR x∧(∀ y ∈ l,CondR y)∧x.length≤4∧l.length≤3∧(0≤a∧a≤5)∧(0≤b∧b≤65535)
theorem nums_up {x:List Int} {t v:Int} (h:NumsR x) (ht: ∀ i (hi:i<x.length),x[i]<t) (hv:t≤v) (h0:0≤v) (h1:v≤4294967295):NumsR (x ++ [v]):=by
  refine⟨fun i hi=>?_,fun i hi=>?_⟩
  · rw[List.getElem_append]
    split
    · exact h.1 i _
    · simp only[List.getElem_singleton]
      exact⟨h0,h1⟩
  · rw[List.getElem_append,List.getElem_append]
    rw[List.length_append,List.length_singleton]at hi
    have h2:i<x.length:=by omega
    rw[dif_pos h2]
    split
    · rename_i h3
      exact h.2 i h3
    · simp only[List.getElem_singleton]
      have:=ht i h2
      omega
theorem madeR_l1 {s:List Int} (hs:s.length≤1048576) (nums:List Int) (a b:Int): ∀ (d i:Nat) (p e:Int) (l:List S118),i+d=3→0≤p→l.length=i→i≤2→(∀ y ∈ l,CondR y)→∃ R p' e',Evt (fun k=>spec_l09Made.l1 k (i:Int) s p e nums l a b) (nums,R,a,b,p',e')∧R.length≤2∧(∀ y ∈ R,CondR y)∧0≤p':=by
  intro d
  induction d with
  | zero=>
    intro i p e l hi hp hl hi2
    omega
  | succ d ih=>
    intro i p e l hi hp hl hi2 hc
    obtain⟨r,p1,e1,h1,hr,hp1⟩:=below hs p e hp 3 (by omega) (by omega)
    by_cases hlt:(i:Int)<r
    · obtain⟨a1,b1,c1,d1,f1,g1,p2,e2,h2,hw,hp2⟩:=drawCond hs p1 e1 hp1
      obtain⟨R,p',e',⟨K,h⟩,hR,hcR,hp'⟩:=ih (i+1) p2 e2 (l ++ [⟨a1,⟨b1,c1⟩,d1,⟨f1,g1⟩⟩]) (by omega) hp2 (by simp;omega) (by omega) (fun y hy=>by
        rcases List.mem_append.1 hy with hy|hy
        · exact hc y hy
        · rw[List.mem_singleton]at hy
          subst hy
          exact hw)
      refine⟨R,p',e',.succ ⟨K,fun k hk=>?_⟩,hR,hcR,hp'⟩
      have q:=h k hk
      simp only[spec_l09Made.l1,h1,Option.bind_some]
      rw[if_pos hlt]
      simp only[h2,Option.bind_some]
      rw[if_pos (by omega),wsucc (show i<3 by omega) (by omega)]
      exact q
    · refine⟨l,p1,e1,.succ (.const fun k=>?_),by omega,hc,hp1⟩
      simp only[spec_l09Made.l1,h1,Option.bind_some]
      rw[if_neg hlt]
theorem madeR_l0 {s:List Int} (hs:s.length≤1048576) (n:Int) (hn:n≤2) (a b:Int): ∀ (d i:Nat) (t p e:Int) (nums:List Int),i+d=3→0≤p→nums.length=i→NumsR nums→(∀ j (hj:j<nums.length),nums[j]<t)→0≤t→t≤3*i→∃ N R p' e',Evt (fun k=>spec_l09Made.l0 k n t (i:Int) s p e nums a b) (N,R,a,b,p',e')∧NumsR N∧N.length≤3∧R.length≤2∧(∀ y ∈ R,CondR y)∧0≤p':=by
  have fin: ∀ (t p e:Int) (i:Nat) (nums:List Int),¬ (i:Int)<n→0≤p→nums.length≤3→NumsR nums→∃ N R p' e',Evt (fun k=>spec_l09Made.l0 k n t (i:Int) s p e nums a b) (N,R,a,b,p',e')∧NumsR N∧N.length≤3∧R.length≤2∧(∀ y ∈ R,CondR y)∧0≤p':=fun t p e i nums hi hp hm hN=>by
    obtain⟨R,p',e',⟨K,h⟩,hR,hc,hp'⟩:=madeR_l1 hs nums a b 3 0 p e [] (by omega) hp rfl (by omega) (fun y hy=>by simp at hy)
    refine⟨nums,R,p',e',.succ ⟨K,fun k hk=>?_⟩,hN,hm,hR,hc,hp'⟩
    have q:=h k hk
    simp only[spec_l09Made.l0]
    rw[if_neg hi]
    exact q
  intro d
  induction d with
  | zero=>
    intro i t p e nums hi hp hm hN ht h0 h3
    exact fin t p e i nums (by omega) hp (by omega) hN
  | succ d ih=>
    intro i t p e nums hi hp hm hN ht h0 h3
    by_cases hc:(i:Int)<n
    · obtain⟨r,p1,e1,h1,hr,hp1⟩:=below hs p e hp 3 (by omega) (by omega)
      have et:Aside0 (wrap64 ((wrap64 (t+1))+r)=t+1+r):=⟨by rw[w64 (x:=t+1) (by omega) (by omega),w64 (by omega) (by omega)]⟩
      have ev:Aside0 (wrap64 (t+1+r - 1)=t+r):=⟨by rw[w64 (by omega) (by omega)];omega⟩
      obtain⟨N,R,p',e',⟨K,h⟩,hN'⟩:=ih (i+1) (t+1+r) p1 e1 (nums ++ [t+r]) (by omega) hp1 (by simp;omega) (nums_up hN ht (by omega) (by omega) (by omega)) (fun j hj=>by
        rw[List.getElem_append]
        split
        · have:=ht j ‹_›
          omega
        · simp only[List.getElem_singleton]
          omega) (by omega) (by omega)
      refine⟨N,R,p',e',.succ ⟨K,fun k hk=>?_⟩,hN'⟩
      have q:=h k hk
      simp only[spec_l09Made.l0]
      rw[if_pos hc]
      simp only[h1,Option.bind_some]
      rw[if_pos (by omega),et.out,ev.out,wsucc (show i<3 by omega) (by omega)]
      exact q
    · exact fin t p e i nums hc hp (by omega) hN
theorem madeR_j0 {s:List Int} (hs:s.length≤1048576) (p e a b:Int) (hp:0≤p): ∃ N R p' e',Evt (fun k=>spec_l09Made.j0 k s p e a b) (N,R,a,b,p',e')∧NumsR N∧N.length≤3∧R.length≤2∧(∀ y ∈ R,CondR y)∧0≤p':=by
  obtain⟨r,p1,e1,h1,hr,hp1⟩:=below hs p e hp 4 (by omega) (by omega)
  have er:wrap64 (r - 1)=r - 1:=w64 (by omega) (by omega)
  obtain⟨N,R,p',e',⟨K,h⟩,hN⟩:=madeR_l0 hs (r - 1) (by omega) a b 3 0 0 p1 e1 [] (by omega) hp1 rfl ⟨fun i hi=>absurd hi (by simp),fun i hi=>absurd hi (by simp)⟩ (fun j hj=>absurd hj (by simp)) (by omega) (by omega)
  refine⟨N,R,p',e',.succ ⟨K,fun k hk=>?_⟩,hN⟩
  have q:=h k hk
  simp only[spec_l09Made.j0,h1,Option.bind_some,er]
  exact q
/-- A drawn rule is right. -/
theorem madeR {s:List Int} (hs:s.length≤1048576) (p e:Int) (hp:0≤p): ∃ N R a b p' e',Evt (fun k=>spec_l09Made.f k s p e) (N,R,a,b,p',e')∧RuleR N R a b∧N.length≤3∧R.length≤2∧0≤p':=by
  obtain⟨a,p1,e1,h1,ha,hp1⟩:=pick hs p e hp [0,1,2,3,4,4,5] (by simp) (by simp)
  simp only[List.mem_cons,List.not_mem_nil,or_false]at ha
  by_cases h2:a=2
  · obtain⟨b,p2,e2,g1,hb,hp2⟩:=pick hs p1 e1 hp1 [1,13,65535] (by simp) (by simp)
    simp only[List.mem_cons,List.not_mem_nil,or_false]at hb
    obtain⟨N,R,p',e',⟨K,h⟩,hN,hN3,hR,hc,hp'⟩:=madeR_j0 hs p2 e2 a b hp2
    refine⟨N,R,a,b,p',e',⟨K,fun k hk=>?_⟩,⟨hN,hc,by omega,by omega,by omega,by omega⟩,hN3,hR,hp'⟩
    have q:=h k hk
    simp only[spec_l09Made.f,h1,Option.bind_some]
    rw[if_pos h2]
    simp only[g1,Option.bind_some]
    exact q
  · obtain⟨N,R,p',e',⟨K,h⟩,hN,hN3,hR,hc,hp'⟩:=madeR_j0 hs p1 e1 a 0 hp1
    refine⟨N,R,a,0,p',e',⟨K,fun k hk=>?_⟩,⟨hN,hc,by omega,by omega,by omega,by omega⟩,hN3,hR,hp'⟩
    have q:=h k hk
    simp only[spec_l09Made.f,h1,Option.bind_some]
    rw[if_neg h2]
    exact q
/-- A drawn call is right. -/
def WideR (y:S105):Prop:=(0≤y.f0∧y.f0≤4294967295)∧(0≤y.f1∧y.f1≤4294967295)
theorem callR_l0 {s:List Int} (hs:s.length≤1048576) (a b:Int): ∀ (d i:Nat) (p e:Int) (w:List S105),i+d=3→0≤p→w.length=i→(∀ y ∈ w,WideR y)→∃ W p' e',Evt (fun k=>spec_l04Call.l0 k (i:Int) s p e a b w) (a,b,W,p',e')∧W.length=3∧(∀ y ∈ W,WideR y)∧0≤p':=by
  intro d
  induction d with
  | zero=>
    intro i p e w hi hp hw hc
    refine⟨w,p,e,.succ (.const fun k=>?_),by omega,hc,hp⟩
    simp only[spec_l04Call.l0]
    rw[if_neg (by omega)]
  | succ d ih=>
    intro i p e w hi hp hw hc
    obtain⟨x,y,p1,e1,h1,hx,hp1⟩:=wide hs p e hp
    obtain⟨W,p',e',⟨K,h⟩,hW⟩:=ih (i+1) p1 e1 (w ++ [⟨x,y⟩]) (by omega) hp1 (by simp;omega) (fun z hz=>by
      rcases List.mem_append.1 hz with hz|hz
      · exact hc z hz
      · rw[List.mem_singleton]at hz
        subst hz
        exact hx)
    refine⟨W,p',e',.succ ⟨K,fun k hk=>?_⟩,hW⟩
    have q:=h k hk
    simp only[spec_l04Call.l0,h1,Option.bind_some]
    rw[if_pos (by omega),if_pos (by omega),wsucc (show i<3 by omega) (by omega)]
    exact q
theorem callR {s:List Int} (hs:s.length≤1048576) (p e:Int) (hp:0≤p): ∃ a b W p' e',Evt (fun k=>spec_l04Call.f k s p e) (a,b,W,p',e')∧((0≤a∧a≤4294967295)∧(0≤b∧b≤4294967295)∧W.length=3∧∀ y ∈ W,WideR y)∧0≤p':=by
  obtain⟨a,p1,e1,h1,ha,hp1⟩:=pick hs p e hp [62,62,62,62,3] (by simp) (by simp)
  obtain⟨b,p2,e2,h2,hb,hp2⟩:=pick hs p1 e1 hp1 [0,1,2,3,4,6,9,11,4294967295,77] (by simp) (by simp)
  simp only[List.mem_cons,List.not_mem_nil,or_false]at ha hb
  obtain⟨W,p',e',⟨K,h⟩,hW3,hW,hp'⟩:=callR_l0 hs a b 3 0 p2 e2 [] (by omega) hp2 rfl (fun y hy=>by simp at hy)
  refine⟨a,b,W,p',e',⟨K,fun k hk=>?_⟩,⟨by omega,by omega,hW3,hW⟩,hp'⟩
  have q:=h k hk
  simp only[spec_l04Call.f,h1,h2,Option.bind_some]
  exact q
theorem polR_l0 {s:List Int} (hs:s.length≤1048576) (a b c:Int): ∀ (d i:Nat) (p e:Int) (l:List S78),i+d=5→0≤p→l.length=i→i≤4→(∀ y ∈ l,RuleR y.f0 y.f1 y.f2 y.f3∧y.f0.length≤3∧y.f1.length≤2)→∃ L p' e',Evt (fun k=>spec_l09Policy.l0 k (i:Int) s p e a b c l) (a,b,c,L,p',e')∧L.length≤4∧(∀ y ∈ L,RuleR y.f0 y.f1 y.f2 y.f3∧y.f0.length≤3∧y.f1.length≤2)∧0≤p':=by
  intro d
  induction d with
  | zero=>
    intro i p e l hi hp hl hi2
    omega
  | succ d ih=>
    intro i p e l hi hp hl hi2 hc
    obtain⟨r,p1,e1,h1,hr,hp1⟩:=below hs p e hp 5 (by omega) (by omega)
    by_cases hlt:(i:Int)<r
    · obtain⟨N,R,x,y,p2,e2,⟨K2,h2⟩,hw,hw3,hw2,hp2⟩:=madeR hs p1 e1 hp1
      obtain⟨L,p',e',⟨K,h⟩,hL,hcL,hp'⟩:=ih (i+1) p2 e2 (l ++ [⟨N,R,x,y⟩]) (by omega) hp2 (by simp;omega) (by omega) (fun z hz=>by
        rcases List.mem_append.1 hz with hz|hz
        · exact hc z hz
        · rw[List.mem_singleton]at hz
          subst hz
          exact⟨hw,hw3,hw2⟩)
      refine⟨L,p',e',.succ ⟨K+K2,fun k hk=>?_⟩,hL,hcL,hp'⟩
      have q:=h k (by omega)
      have q2:=h2 k (by omega)
      simp only[spec_l09Policy.l0,h1,Option.bind_some]
      rw[if_pos hlt]
      simp only[q2,Option.bind_some]
      rw[if_pos (by omega),wsucc (show i<5 by omega) (by omega)]
      exact q
    · refine⟨l,p1,e1,.succ (.const fun k=>?_),by omega,hc,hp1⟩
      simp only[spec_l09Policy.l0,h1,Option.bind_some]
      rw[if_neg hlt]
/-- A drawn policy is right. -/
theorem polR {s:List Int} (hs:s.length≤1048576) (p e:Int) (hp:0≤p): ∃ b c L p' e',Evt (fun k=>spec_l09Policy.f k s p e) (62,b,c,L,p',e')∧((0≤b∧b≤5)∧(0≤c∧c≤65535))∧L.length≤4∧(∀ y ∈ L,RuleR y.f0 y.f1 y.f2 y.f3∧y.f0.length≤3∧y.f1.length≤2)∧0≤p':=by
  obtain⟨b,p1,e1,h1,hb,hp1⟩:=pick hs p e hp [5,4,0,2] (by simp) (by simp)
  simp only[List.mem_cons,List.not_mem_nil,or_false]at hb
  have J: ∀ c:Int,(0≤c∧c≤65535)→∃ L p' e',Evt (fun k=>spec_l09Policy.j0 k s p1 e1 62 b c) (62,b,c,L,p',e')∧L.length≤4∧(∀ y ∈ L,RuleR y.f0 y.f1 y.f2 y.f3∧y.f0.length≤3∧y.f1.length≤2)∧0≤p':=fun c hc=>by
    obtain⟨L,p',e',⟨K,h⟩,hL⟩:=polR_l0 hs 62 b c 5 0 p1 e1 [] (by omega) hp1 rfl (by omega) (fun y hy=>by simp at hy)
    refine⟨L,p',e',.succ ⟨K,fun k hk=>?_⟩,hL⟩
    have q:=h k hk
    simp only[spec_l09Policy.j0]
    exact q
  by_cases h2:b=2
  · obtain⟨L,p',e',⟨K,h⟩,hL,hc,hp'⟩:=J 1 (by omega)
    refine⟨b,1,L,p',e',⟨K,fun k hk=>?_⟩,by omega,hL,hc,hp'⟩
    have q:=h k hk
    simp only[spec_l09Policy.f,h1,Option.bind_some]
    rw[if_pos h2]
    exact q
  · obtain⟨L,p',e',⟨K,h⟩,hL,hc,hp'⟩:=J 0 (by omega)
    refine⟨b,0,L,p',e',⟨K,fun k hk=>?_⟩,by omega,hL,hc,hp'⟩
    have q:=h k hk
    simp only[spec_l09Policy.f,h1,Option.bind_some]
    rw[if_neg h2]
    exact q
/-- The place that a way leads to. -/
def Way (L:List S86) (i:Nat) (s:ByteArray) (y:Nat):Prop:=i<y∧y<L.length∧QI L s.toList y∧Fst (QS L s.toList) L.length 0 (y:Int)∧Fst (QI L s.toList) L.length (i+1) (y:Int)∧s.toList≠[]
theorem Way.uniq {L:List S86} {i:Nat} {s:ByteArray} {y z:Nat} (h:Way L i s y) (h':Way L i s z):y=z:=by
  have:=h.2.2.2.1.uniq h'.2.2.2.1 (fun _ _=> .rfl)
  omega
/-- The ways that a line has. -/
def Has (x:S86) (s:ByteArray):Prop:=(x.f1.f0=7∧s=x.f2)∨((3≤x.f1.f0∧x.f1.f0≤6)∧(s=x.f2∨s=x.f3))
theorem plz {L:List S86} (hn:L.length≤1048576) (hI:IAll L) {j:Nat} (h:j<L.length) (e:L[j].f1.f0=0):PZ L[j]:=by
  obtain⟨w0,h0⟩:=fstI L hn L[j].f0 0 (by omega)
  obtain⟨w2,h2⟩:=fstI L hn L[j].f2 (j+1) h
  obtain⟨w3,h3⟩:=fstI L hn L[j].f3 (j+1) h
  rcases hI j h w0 w2 w3 h0 h2 h3 with h4|h4
  · exact h4.1
  · exact absurd e h4.1
theorem wayP {L:List S86} (hn:L.length≤1048576) (hS:SAll L) (hI:IAll L) {i:Nat} (hi:i<L.length) (s:ByteArray) (hs:Has L[i] s): ∃ y:Nat,Way L i s y:=by
  have H: ∀ j (h:j<L.length),L[j].f1.f0=0→PZ L[j]:=fun j h e=>plz hn hI h e
  obtain⟨v,fv⟩:=fstS L hn s
  obtain⟨w,fw⟩:=fstI L hn s (i+1) hi
  have hgt:v>i:=by
    obtain⟨v0,f0⟩:=fstS L hn L[i].f0
    obtain⟨v2,f2⟩:=fstS L hn L[i].f2
    obtain⟨v3,f3⟩:=fstS L hn L[i].f3
    have hl:=hS i hi v0 v2 v3 f0 f2 f3
    have hz: ¬ PZ L[i]:=fun h=>by unfold PZ at h;rcases hs with h1|h1 <;> omega
    rcases hl with h|⟨_,_,_,_,_,_,h⟩
    · exact absurd h.1 hz
    · rcases hs with⟨h7,e⟩|⟨ha,e|e⟩
      · subst e
        rw[fv.uniq f2 (fun _ _=> .rfl)]
        rcases h with h|h|h
        · exact h.2.2
        · omega
        · exact absurd h7 h.1
      · subst e
        rw[fv.uniq f2 (fun _ _=> .rfl)]
        rcases h with h|h|h
        · omega
        · exact h.2.1
        · exact absurd ha h.2.1
      · subst e
        rw[fv.uniq f3 (fun _ _=> .rfl)]
        rcases h with h|h|h
        · omega
        · exact h.2.2
        · exact absurd ha h.2.1
  rcases fv with⟨m,m1,m2,m3,m4,m5⟩|⟨m1,_⟩
  · have hwm:w=(m:Int):=by
      rcases fw with⟨u,u1,u2,u3,u4,u5⟩|⟨_,u2⟩
      · have q1: ¬ m<u:=fun h=>u5 m (by omega) h ((qs_qi H _ m).1 m3)
        have q2: ¬ u<m:=fun h=>m5 u (Nat.zero_le _) h ((qs_qi H _ u).2 u3)
        omega
      · exact absurd ((qs_qi H _ m).1 m3) (u2 m (by omega) m2)
    refine⟨m,by omega,m2,(qs_qi H _ m).1 m3,.inl ⟨m,m1,m2,m3,rfl,m5⟩,hwm ▸ fw,?_⟩
    obtain⟨_,p1,p2⟩:=m3
    obtain⟨v0,f0⟩:=fstS L hn L[m].f0
    obtain⟨v2,f2⟩:=fstS L hn L[m].f2
    obtain⟨v3,f3⟩:=fstS L hn L[m].f3
    rcases hS m m2 v0 v2 v3 f0 f2 f3 with h|h
    · intro e
      rw[← p2]at e
      rw[ByteArray.toList_eq]at e
      have h5:L[m].f0.data.size=0:=by simpa using congrArg List.length e
      have h6:L[m].f0.size=L[m].f0.data.size:=rfl
      have:=h.2.1
      omega
    · exact absurd p1 h.1
  · omega
/-- What a right line's word is. -/
theorem insR {L:List S86} (hn:L.length≤1048576) (hI:IAll L) {i:Nat} (hi:i<L.length) (hp: ¬ L[i].f1.f0=0):L[i].f1.f2=0∧L[i].f1.f3=0∧InsP L[i].f1.f0 L[i].f1.f1 L[i].f1.f2 L[i].f1.f3:=by
  obtain⟨w0,h0⟩:=fstI L hn L[i].f0 0 (by omega)
  obtain⟨w2,h2⟩:=fstI L hn L[i].f2 (i+1) hi
  obtain⟨w3,h3⟩:=fstI L hn L[i].f3 (i+1) hi
  rcases hI i hi w0 w2 w3 h0 h2 h3 with h4|h4
  · exact absurd h4.1.1 hp
  · exact⟨h4.2.2.1,h4.2.2.2.1,h4.2.2.2.2.2.1⟩
/-- Every way of a line of one word passes over 15 words at most. -/
def Near (L:List S86) (o:List Int) (n:Nat):Prop:= ∀ i (h:i<L.length) (h':i<o.length),i<n→(3≤L[i].f1.f0∧L[i].f1.f0≤6)→o[i]=1→∀ s y,(s=L[i].f2∨s=L[i].f3)→Way L i s y→pre o y - pre o (i+1)≤15
/-- The words of a line. -/
def Words (L:List S86) (o:List Int) (i:Nat) (h:i<L.length) (h':i<o.length) (w:List S71):Prop:=
  (L[i].f1.f0=0∧w= [])∨
  (L[i].f1.f0=7∧∃ y,Way L i L[i].f2 y∧w= [⟨7,pre o y - pre o (i+1),0,0⟩])∨
  ((3≤L[i].f1.f0∧L[i].f1.f0≤6)∧∃ y z,Way L i L[i].f2 y∧Way L i L[i].f3 z∧((o[i]=1∧w= [⟨L[i].f1.f0,L[i].f1.f1,pre o y - pre o (i+1),pre o z - pre o (i+1)⟩])∨(o[i]=3∧w= [⟨L[i].f1.f0,L[i].f1.f1,0,1⟩,⟨7,pre o y - pre o (i+1)+1,0,0⟩,⟨7,pre o z - pre o (i+1),0,0⟩])))∨
  ((L[i].f1.f0=1∨L[i].f1.f0=2∨L[i].f1.f0=8)∧w= [⟨L[i].f1.f0,L[i].f1.f1,0,0⟩])
inductive Laid (L:List S86) (o:List Int):Nat→List S71→Prop
  | done:Laid L o L.length []
  | line (i:Nat) (h:i<L.length) (h':i<o.length) (w r:List S71):Words L o i h h' w→Laid L o (i+1) r→Laid L o i (w ++ r)
theorem words_len {L:List S86} {o:List Int} (ho:OkS L o) {i:Nat} {h:i<L.length} {h':i<o.length} {w:List S71} (hw:Words L o i h h' w):(w.length:Int)=o[i]:=by
  obtain⟨_,_,oa,ok⟩:=ho
  rcases hw with⟨a,rfl⟩|⟨a,y,_,rfl⟩|⟨a,y,z,_,_,⟨b,rfl⟩|⟨b,rfl⟩⟩|⟨a,rfl⟩
  · rw[ok i h' h (by omega),if_pos a];rfl
  · rw[ok i h' h (by omega),if_neg (by omega)];rfl
  · rw[b];rfl
  · rw[b];rfl
  · rw[ok i h' h (by omega),if_neg (by omega)];rfl
theorem laid_len {L:List S86} {o:List Int} (ho:OkS L o) {i:Nat} {r:List S71} (hl:Laid L o i r):(r.length:Int)=pre o L.length - pre o i:=by
  induction hl with
  | done=>simp
  | line i h h' w r hw _ ih=>
    have:=words_len ho hw
    rw[List.length_append,pre_succ h']at *
    omega
theorem linesOkS (L:List S86) (hn:L.length≤1048576): ∃ b,Evt (fun k=>spec_LinesOk.f k L) b∧(b=true ↔ (1≤L.length∧L.length≤600)∧SAll L∧∃ h:L.length - 1<L.length,L[L.length - 1].f1.f0=8):=by
  by_cases h1:1≤(L.length:Int)∧(L.length:Int)≤600
  · have e:wrap64 ((L.length:Int) - 1)=((L.length - 1:Nat):Int):=by unfold wrap64;omega
    have hlt:L.length - 1<L.length:=by omega
    by_cases h8:(L[L.length - 1].f1.f0)=8
    · obtain⟨b',⟨K',hb'⟩,hbi'⟩:=sAll L hn
      refine⟨b',.succ ⟨K'+1,fun k hk=>?_⟩,hbi'.trans ⟨fun h=>⟨by omega,h,hlt,h8⟩,fun h=>h.2.1⟩⟩
      simp only[spec_LinesOk.f,inS,Option.bind_some,decide_eq_true_eq]
      rw[if_pos h1,e,if_pos (by omega),if_pos (by omega),rd_nat86 L _ hlt,h8]
      simp only[spec_LinesOk.j0]
      rw[if_neg (by simp)]
      exact hb' k (by omega)
    · refine⟨false,.succ (.const fun k=>?_),⟨(fun h=>by cases h),fun h=>absurd h.2.2.2 h8⟩⟩
      simp only[spec_LinesOk.f,inS,Option.bind_some,decide_eq_true_eq]
      rw[if_pos h1,e,if_pos (by omega),if_pos (by omega),rd_nat86 L _ hlt]
      simp only[spec_LinesOk.j0]
      rw[if_pos (by simp[h8])]
  · refine⟨false,.succ (.const fun k=>?_),⟨(fun h=>by cases h),fun h=>by omega⟩⟩
    simp only[spec_LinesOk.f,inS,Option.bind_some,decide_eq_true_eq]
    rw[if_neg h1]
    simp only[spec_LinesOk.j0,if_true]
theorem atW {L:List S86} (hn:L.length≤1048576) {i y:Nat} {s:ByteArray} (h:Way L i s y): ∀ k,L.length<k→spec_l11At.f k L s=some (y:Int):=by
  obtain⟨v,hv,fv⟩:=atS L s hn
  rw[← fv.uniq h.2.2.2.1 (fun _ _=> .rfl)]
  exact hv
theorem yesW {L:List S86} (hn:L.length≤1048576) {Y N:List Int} (hW:OkW L Y N) {i y:Nat} (hi:i<L.length) (h:Way L i L[i].f2 y):rd Y (i:Int)=(y:Int):=by
  obtain⟨wy,wn,wj⟩:=hW
  rw[nrdI Y i (by omega)]
  exact(wj i hi (by omega) (by omega)).1 h.2.2.2.2.2 _ (atW hn h)
theorem noW {L:List S86} (hn:L.length≤1048576) {Y N:List Int} (hW:OkW L Y N) {i y:Nat} (hi:i<L.length) (h:Way L i L[i].f3 y):rd N (i:Int)=(y:Int):=by
  obtain⟨wy,wn,wj⟩:=hW
  rw[nrdI N i (by omega)]
  exact(wj i hi (by omega) (by omega)).2 h.2.2.2.2.2 _ (atW hn h)
theorem roundS (L:List S86) (hn:L.length≤600) (hS:SAll L) (hI:IAll L) (o Y N B:List Int) (ho:OkS L o) (hW:OkW L Y N) (hB:B.length=o.length) (hb: ∀ j (h:j<B.length),B[j]=pre o j) (r:Int) :
    ∃ c f,OkS L c∧(f=true→ones c<ones o)∧(f=false→c=o∧Near L o L.length)∧(∀ R,Evt (fun k=>if f=true then spec_Sizes.l1 k L c Y N (wrap64 (r+1))else some c) R→Evt (fun k=>spec_Sizes.l2 k L o Y N r B false ((0:Nat):Int)) R):=by
  have ho':=ho
  obtain⟨ol,o3,oa,_⟩:=ho
  refine down (T:=fun i=> ∀ (c:List Int) (f:Bool),OkS L c→(∀ j (h:j<c.length) (h':j<o.length),i≤j→c[j]=o[j])→ones c≤ones o→(f=true→ones c<ones o)→(f=false→c=o∧Near L o i)→
    ∃ c' f',OkS L c'∧(f'=true→ones c'<ones o)∧(f'=false→c'=o∧Near L o L.length)∧(∀ R,Evt (fun k=>if f'=true then spec_Sizes.l1 k L c' Y N (wrap64 (r+1))else some c') R→Evt (fun k=>spec_Sizes.l2 k L c Y N r B f (i:Int)) R)) (n:=L.length) ?_ ?_ L.length 0 (by omega) o false ho' (fun _ _ _ _=>rfl) (Nat.le_refl _) (fun h=>by cases h) (fun _=>⟨rfl,fun i _ _ h=>by omega⟩)
  · intro c f hc _ _ h2 h3
    refine⟨c,f,hc,h2,h3,fun R hR=> .succ ?_⟩
    obtain⟨K,hK⟩:=hR
    refine⟨K,fun k hk=>?_⟩
    simp only[spec_Sizes.l2]
    rw[if_neg (by omega)]
    exact hK k hk
  · intro i hi ih c f hc hj h1 h2 h3
    have ws:=wsucc hi (show L.length≤9223372036854775807 by omega)
    have hio:i<o.length:=by omega
    have hic:i<c.length:=by have:=hc.1;omega
    have cl:=hc.1
    have skip:(∀ k,spec_Sizes.l2 (k+2) L c Y N r B f (i:Int)=spec_Sizes.l2 k L c Y N r B f ((i+1:Nat):Int))→((3≤L[i].f1.f0∧L[i].f1.f0≤6)→o[i]=1→∀ s y,(s=L[i].f2∨s=L[i].f3)→Way L i s y→pre o y - pre o (i+1)≤15)→∃ c' f',OkS L c'∧(f'=true→ones c'<ones o)∧(f'=false→c'=o∧Near L o L.length)∧(∀ R,Evt (fun k=>if f'=true then spec_Sizes.l1 k L c' Y N (wrap64 (r+1))else some c') R→Evt (fun k=>spec_Sizes.l2 k L c Y N r B f (i:Int)) R):=fun e hne=>by
      obtain⟨c',f',a1,a2,a3,a4⟩:=ih c f hc (fun j h h' hij=>hj j h h' (by omega)) h1 h2 (fun h=>⟨(h3 h).1,fun j hj1 hj2 hlt=>by
        rcases Nat.lt_or_ge j i with h4|h4
        · exact(h3 h).2 j hj1 hj2 h4
        · have:j=i:=by omega
          subst this
          exact hne⟩)
      refine⟨c',f',a1,a2,a3,fun R hR=>?_⟩
      obtain⟨K,hK⟩:=a4 R hR
      refine⟨K+2,fun k hk=>?_⟩
      obtain⟨k,rfl⟩ : ∃ m,k=m+2:=⟨k - 2,by omega⟩
      exact(e k).trans (hK k (by omega))
    by_cases ha:3≤L[i].f1.f0∧L[i].f1.f0≤6
    · have ec:c[i]=o[i]:=hj i hic hio (Nat.le_refl _)
      by_cases e3:o[i]=3
      · refine skip (fun k=>?_) (fun _ h=>by omega)
        simp only[spec_Sizes.l2,spec_Sizes.j3]
        rw[if_pos (by omega),if_pos (by omega),nrd_T86 L i hi]
        simp only[askS,Option.bind_some,decide_eq_true_eq]
        rw[if_pos ha,if_pos (by omega),nrdI c i hic,ec,e3,if_pos (by simp),ws]
      · have e1:o[i]=1:=(oa i hio hi ha).resolve_right e3
        obtain⟨y,hy⟩:=wayP (by omega) hS hI hi L[i].f2 (.inr ⟨ha,.inl rfl⟩)
        obtain⟨z,hz⟩:=wayP (by omega) hS hI hi L[i].f3 (.inr ⟨ha,.inr rfl⟩)
        have hY:=yesW (by omega) hW hi hy
        have hN:=noW (by omega) hW hi hz
        have y1:=hy.1
        have y2:=hy.2.1
        have z1:=hz.1
        have z2:=hz.2.1
        have wl:=hW.1
        have wl2:=hW.2.1
        have ey:wrap64 (wrap64 (rd B (y:Int) - rd B (i:Int)) - 1)=pre o y - pre o (i+1):=by rw[far_gen o B i y 1 hB hb (by omega) o3 hio y1 (by omega) (by omega) (by omega),e1];omega
        have ez:wrap64 (wrap64 (rd B (z:Int) - rd B (i:Int)) - 1)=pre o z - pre o (i+1):=by rw[far_gen o B i z 1 hB hb (by omega) o3 hio z1 (by omega) (by omega) (by omega),e1];omega
        have n3: ¬ (rd c (i:Int) == 3)=true:=by rw[nrdI c i hic,ec,e1];simp
        by_cases far:pre o y - pre o (i+1)>15∨pre o z - pre o (i+1)>15
        · have hs:=ones_set c i hic (ec.trans e1)
          obtain⟨c',f',a1,a2,a3,a4⟩:=ih (c.set i 3) true (hc.set i hi ha) (fun j h h' hij=>by
            rw[List.getElem_set_ne (by omega)]
            rw[List.length_set]at h
            exact hj j h h' (by omega)) (by omega) (fun _=>by omega) (fun h=>by cases h)
          refine⟨c',f',a1,a2,a3,fun R hR=>?_⟩
          obtain⟨K,hK⟩:=a4 R hR
          refine⟨K+2,fun k hk=>?_⟩
          obtain⟨k,rfl⟩ : ∃ m,k=m+2:=⟨k - 2,by omega⟩
          simp only[spec_Sizes.l2,spec_Sizes.j3]
          rw[if_pos (by omega),if_pos (by omega),nrd_T86 L i hi]
          simp only[askS,Option.bind_some,decide_eq_true_eq]
          rw[if_pos ha,if_pos (by omega),if_neg n3,if_pos (by omega),if_pos (by omega),hY,if_pos (by omega),if_pos (by omega),if_pos (by omega),ey]
          by_cases q:pre o y - pre o (i+1)>15
          · rw[if_pos q,if_pos (by omega),ws,Int.toNat_natCast]
            exact hK k (by omega)
          · rw[if_neg q,if_pos (by omega),hN,if_pos (by omega),if_pos (by omega),ez,if_pos (far.resolve_left q),if_pos (by omega),ws,Int.toNat_natCast]
            exact hK k (by omega)
        · have q1: ¬ pre o y - pre o (i+1)>15:=fun h=>far (.inl h)
          have q2: ¬ pre o z - pre o (i+1)>15:=fun h=>far (.inr h)
          refine skip (fun k=>?_) (fun _ _ s t hs ht=>?_)
          · simp only[spec_Sizes.l2,spec_Sizes.j3]
            rw[if_pos (by omega),if_pos (by omega),nrd_T86 L i hi]
            simp only[askS,Option.bind_some,decide_eq_true_eq]
            rw[if_pos ha,if_pos (by omega),if_neg n3,if_pos (by omega),if_pos (by omega),hY,if_pos (by omega),if_pos (by omega),if_pos (by omega),ey,if_neg q1,if_pos (by omega),hN,if_pos (by omega),if_pos (by omega),ez,if_neg q2,ws]
          · rcases hs with rfl|rfl
            · rw[ht.uniq hy];omega
            · rw[ht.uniq hz];omega
    · refine skip (fun k=>?_) (fun h=>absurd h ha)
      simp only[spec_Sizes.l2,spec_Sizes.j3]
      rw[if_pos (by omega),if_pos (by omega),nrd_T86 L i hi]
      simp only[askS,Option.bind_some,decide_eq_true_eq]
      rw[if_neg ha,if_pos trivial,ws]
theorem roundsS (L:List S86) (hn:L.length≤600) (hS:SAll L) (hI:IAll L) (Y N:List Int) (hW:OkW L Y N): ∀ (m:Nat) (o:List Int) (r:Nat),ones o≤m→ones o+r≤L.length→OkS L o→
    ∃ O,OkS L O∧Near L O L.length∧Evt (fun k=>spec_Sizes.l1 k L o Y N (r:Int)) O:=by
  intro m
  induction m with
  | zero=>
    intro o r hm hr ho
    obtain⟨B,hB,hb,K0,b0⟩:=begins o (by have:=ho.1;omega) ho.2.1
    obtain⟨c,f,hc,hf,hg,h1⟩:=roundS L hn hS hI o Y N B ho hW hB hb (r:Int)
    cases f with
    | true=>have:=hf rfl;omega
    | false=>
      obtain⟨K1,g1⟩:=h1 c (.const fun _=>by rw[if_neg (by simp)])
      dsimp only at b0 g1
      refine⟨c,hc,(hg rfl).1 ▸ (hg rfl).2,.succ ⟨K0+K1,fun k hk=>?_⟩⟩
      simp only[spec_Sizes.l1]
      rw[if_pos (by omega),b0 k (by omega)]
      exact g1 k (by omega)
  | succ m ih=>
    intro o r hm hr ho
    obtain⟨B,hB,hb,K0,b0⟩:=begins o (by have:=ho.1;omega) ho.2.1
    obtain⟨c,f,hc,hf,hg,h1⟩:=roundS L hn hS hI o Y N B ho hW hB hb (r:Int)
    dsimp only at b0
    have fin: ∀ R,Evt (fun k=>if f=true then spec_Sizes.l1 k L c Y N (wrap64 ((r:Int)+1))else some c) R→Evt (fun k=>spec_Sizes.l1 k L o Y N (r:Int)) R:=fun R r1=>by
      obtain⟨K1,g1⟩:=h1 R r1
      dsimp only at g1
      refine .succ ⟨K0+K1,fun k hk=>?_⟩
      simp only[spec_Sizes.l1]
      rw[if_pos (by omega),b0 k (by omega)]
      exact g1 k (by omega)
    cases f with
    | true=>
      have hlt:=hf rfl
      obtain⟨O,hO,hN,i1⟩:=ih c (r+1) (by omega) (by omega) hc
      have ew:wrap64 ((r:Int)+1)=((r+1:Nat):Int):=by unfold wrap64;omega
      exact⟨O,hO,hN,fin O (i1.congr fun k=>by rw[if_pos rfl,ew])⟩
    | false=>
      exact⟨c,hc,(hg rfl).1 ▸ (hg rfl).2,fin c (.const fun _=>by rw[if_neg (by simp)])⟩
theorem sizesS (L:List S86) (hn:1≤L.length∧L.length≤600) (hS:SAll L) (hI:IAll L) (h8: ∃ h:L.length - 1<L.length,L[L.length - 1].f1.f0=8): ∃ O,OkS L O∧Near L O L.length∧Evt (fun k=>spec_Sizes.f k L) O:=by
  obtain⟨b,⟨K1,h1⟩,hb⟩:=linesOkS L (by omega)
  have hbt:b=true:=hb.2 ⟨hn,hS,h8⟩
  subst hbt
  have key: ∃ O,OkS L O∧Near L O L.length∧Evt (fun k=>spec_Sizes.l0 k L [] ((0:Nat):Int)) O:=by
    refine down (T:=fun i=> ∀ o:List Int,o.length=i→(∀ j (h:j<o.length) (h':j<L.length),(0≤o[j]∧o[j]≤3)∧(3≤L[j].f1.f0∧L[j].f1.f0≤6→o[j]=1∨o[j]=3)∧(¬ (3≤L[j].f1.f0∧L[j].f1.f0≤6)→o[j]=if L[j].f1.f0=0 then 0 else 1))→∃ O,OkS L O∧Near L O L.length∧Evt (fun k=>spec_Sizes.l0 k L o (i:Int)) O) (n:=L.length) ?_ ?_ L.length 0 (by omega) [] rfl (by simp)
    · intro o hl hj
      obtain⟨Y,N,hW,K0,w0⟩:=ways L hn.2
      have ho:OkS L o:=⟨hl,fun j h=>(hj j h (by omega)).1,fun j h h'=>(hj j h h').2.1,fun j h h'=>(hj j h h').2.2⟩
      obtain⟨O,hO,hN,⟨K2,h2⟩⟩:=roundsS L hn.2 hS hI Y N hW (ones o) o 0 (Nat.le_refl _) (by have:=ones_le o;omega) ho
      dsimp only at w0 h2
      refine⟨O,hO,hN,.succ ⟨K0+K2,fun k hk=>?_⟩⟩
      simp only[spec_Sizes.l0]
      rw[if_neg (by omega),w0 k (by omega)]
      exact h2 k (by omega)
    · intro i hi ih o hl hj
      have ws:=wsucc hi (show L.length≤9223372036854775807 by omega)
      have ext: ∀ v:Int,(0≤v∧v≤3)→(3≤L[i].f1.f0∧L[i].f1.f0≤6→v=1∨v=3)→(¬ (3≤L[i].f1.f0∧L[i].f1.f0≤6)→v=if L[i].f1.f0=0 then 0 else 1)→∃ O,OkS L O∧Near L O L.length∧Evt (fun k=>spec_Sizes.l0 k L (o ++ [v]) ((i+1:Nat):Int)) O:=fun v h1 h2 h3=>by
        refine ih (o ++ [v]) (by simp;omega) (fun j h h'=>?_)
        rcases Nat.lt_or_ge j i with h4|h4
        · rw[List.getElem_append_left (by omega)]
          exact hj j (by omega) h'
        · have:j=i:=by simp at h;omega
          subst this
          have e1:(o ++ [v])[j]=v:=by rw[List.getElem_append_right (by omega)];simp
          rw[e1]
          exact⟨h1,h2,h3⟩
      by_cases hp:L[i].f1.f0=0
      · obtain⟨a,b,c,d⟩:=plz (by omega) hI hi hp
        obtain⟨O,hO,hN,⟨K2,h2⟩⟩:=ext 0 (by omega) (fun h=>by omega) (fun _=>by rw[if_pos hp])
        dsimp only at h2
        refine⟨O,hO,hN,.succ ⟨K2,fun k hk=>?_⟩⟩
        simp only[spec_Sizes.l0,spec_l11Place.f]
        rw[if_pos (by omega),if_pos (by omega),nrd_T86 L i hi]
        simp only[Option.bind_some]
        rw[if_pos (by simp[a,b,c,d]),if_pos (by omega),ws]
        exact h2 k hk
      · obtain⟨O,hO,hN,⟨K2,h2⟩⟩:=ext 1 (by omega) (fun _=> .inl rfl) (fun _=>by rw[if_neg hp])
        dsimp only at h2
        refine⟨O,hO,hN,.succ ⟨K2,fun k hk=>?_⟩⟩
        simp only[spec_Sizes.l0,spec_l11Place.f]
        rw[if_pos (by omega),if_pos (by omega),nrd_T86 L i hi]
        simp only[Option.bind_some]
        rw[if_neg (by simp[hp]),if_pos (by omega),ws]
        exact h2 k hk
  obtain⟨O,hO,hN,⟨K2,h2⟩⟩:=key
  dsimp only at h1 h2
  refine⟨O,hO,hN,⟨K1+K2,fun k hk=>?_⟩⟩
  simp only[spec_Sizes.f,h1 k (by omega),Option.bind_some,if_true]
  exact h2 k (by omega)
theorem layS_l0 (L:List S86) (hn:L.length≤600) (hS:SAll L) (hI:IAll L) (o Y N B:List Int) (ho:OkS L o) (hW:OkW L Y N) (hB:B.length=o.length) (hb: ∀ j (h:j<B.length),B[j]=pre o j) (h1L:1≤L.length) (h8: ∃ h:L.length - 1<L.length,L[L.length - 1].f1.f0=8) :
    ∃ R,Laid L o 0 R∧∀ c:List S71,c.length≤3*0→Evt (fun k=>spec_Layout.l0 k L [] o Y N B c ((0:Nat):Int)) (if(c ++ R).length≤400 then(c ++ R,true)else([],false)):=by
  have ho':=ho
  obtain⟨ol,o3,oa,ok⟩:=ho
  have wl:=hW.1
  have wl2:=hW.2.1
  refine down (T:=fun i=> ∃ R,Laid L o i R∧∀ c:List S71,c.length≤3*i→Evt (fun k=>spec_Layout.l0 k L [] o Y N B c (i:Int)) (if(c ++ R).length≤400 then(c ++ R,true)else([],false))) (n:=L.length) ?_ ?_ L.length 0 (by omega)
  · refine⟨[],.done,fun c hc=> .succ (.const fun k=>?_)⟩
    simp only[spec_Layout.l0,List.append_nil]
    rw[if_neg (by omega)]
    by_cases hm:c.length≤400
    · rw[if_neg (by omega),if_pos hm]
    · rw[if_pos (by omega),if_neg hm]
  · intro i hi ⟨R,hL,hR⟩
    have ws:=wsucc hi (show L.length≤9223372036854775807 by omega)
    have hio:i<o.length:=by omega
    have fin: ∀ w,Words L o i hi hio w→w.length≤3→(∀ c:List S71,c.length≤3*i→∀ k,spec_Layout.l0 (k+1) L [] o Y N B c (i:Int)=spec_Layout.l0 k L [] o Y N B (c ++ w) ((i+1:Nat):Int))→∃ R,Laid L o i R∧∀ c:List S71,c.length≤3*i→Evt (fun k=>spec_Layout.l0 k L [] o Y N B c (i:Int)) (if(c ++ R).length≤400 then(c ++ R,true)else([],false)):=fun w hw h3 hs=>by
      refine⟨w ++ R,.line i hi hio w R hw hL,fun c hc=>?_⟩
      obtain⟨K2,h2⟩:=hR (c ++ w) (by rw[List.length_append];omega)
      rw[List.append_assoc]at h2
      exact .succ ⟨K2,fun k hk=>(hs c hc k).trans (h2 k hk)⟩
    by_cases hp:L[i].f1.f0=0
    · have e0:o[i]=0:=by rw[ok i hio hi (by omega),if_pos hp]
      refine fin [] (.inl ⟨hp,rfl⟩) (by simp) (fun c hc k=>?_)
      rw[List.append_nil]
      simp only[spec_Layout.l0]
      rw[if_pos (by omega),if_pos (by omega),if_pos (by omega),nrdI o i hio,if_pos e0,ws]
    obtain⟨z2,z3,hIns⟩:=insR (by omega) hI hi hp
    by_cases c7:L[i].f1.f0=7
    · have e1:o[i]=1:=by rw[ok i hio hi (by omega),if_neg hp]
      obtain⟨y,hy⟩:=wayP (by omega) hS hI hi L[i].f2 (.inl ⟨c7,rfl⟩)
      have y1:=hy.1
      have y2:=hy.2.1
      have hY:=yesW (by omega) hW hi hy
      have ey:wrap64 (wrap64 (rd B (y:Int) - rd B (i:Int)) - 1)=pre o y - pre o (i+1):=by rw[far_gen o B i y 1 hB hb (by omega) o3 hio y1 (by omega) (by omega) (by omega),e1];omega
      refine fin [⟨7,pre o y - pre o (i+1),0,0⟩] (.inr (.inl ⟨c7,y,hy,rfl⟩)) (by simp) (fun c hc k=>?_)
      simp only[spec_Layout.l0]
      rw[if_pos (by omega),if_pos (by omega),if_pos (by omega),nrdI o i hio,if_neg (by omega),if_neg (by omega),nrd_T86 L i hi,if_pos c7,if_pos (by omega),hY,if_pos (by omega),if_pos (by omega),if_pos (by omega),if_pos (by omega),ey,ws,z2,z3,c7]
    by_cases ha:3≤L[i].f1.f0∧L[i].f1.f0≤6
    · obtain⟨y,hy⟩:=wayP (by omega) hS hI hi L[i].f2 (.inr ⟨ha,.inl rfl⟩)
      obtain⟨z,hz⟩:=wayP (by omega) hS hI hi L[i].f3 (.inr ⟨ha,.inr rfl⟩)
      have y1:=hy.1
      have y2:=hy.2.1
      have z1:=hz.1
      have z2':=hz.2.1
      have hY:=yesW (by omega) hW hi hy
      have hN:=noW (by omega) hW hi hz
      have ey:=fun q=>far_gen o B i y q hB hb (by omega) o3 hio y1 (by omega)
      have ez:=fun q=>far_gen o B i z q hB hb (by omega) o3 hio z1 (by omega)
      rcases oa i hio hi ha with e1|e3
      · have ey':wrap64 (wrap64 (rd B (y:Int) - rd B (i:Int)) - 1)=pre o y - pre o (i+1):=by rw[ey 1 (by omega) (by omega),e1];omega
        have ez':wrap64 (wrap64 (rd B (z:Int) - rd B (i:Int)) - 1)=pre o z - pre o (i+1):=by rw[ez 1 (by omega) (by omega),e1];omega
        refine fin _ (.inr (.inr (.inl ⟨ha,y,z,hy,hz,.inl ⟨e1,rfl⟩⟩))) (by simp) (fun c hc k=>?_)
        simp only[spec_Layout.l0]
        rw[if_pos (by omega),if_pos (by omega),if_pos (by omega),nrdI o i hio,if_neg (by omega),if_neg (by omega),nrd_T86 L i hi,if_neg c7]
        simp only[askS,Option.bind_some,decide_eq_true_eq]
        rw[if_pos ha,if_pos (by omega),hY,if_pos (by omega),if_pos (by omega),if_pos (by omega),if_pos (by omega),hN,if_pos (by omega),if_pos (by omega),if_pos (by omega),ey',ez',ws]
      · have ey':wrap64 (wrap64 (rd B (y:Int) - rd B (i:Int)) - 2)=pre o y - pre o (i+1)+1:=by rw[ey 2 (by omega) (by omega),e3];omega
        have ez':wrap64 (wrap64 (rd B (z:Int) - rd B (i:Int)) - 3)=pre o z - pre o (i+1):=by rw[ez 3 (by omega) (by omega),e3];omega
        refine fin _ (.inr (.inr (.inl ⟨ha,y,z,hy,hz,.inr ⟨e3,rfl⟩⟩))) (by simp) (fun c hc k=>?_)
        simp only[spec_Layout.l0]
        rw[if_pos (by omega),if_pos (by omega),if_pos (by omega),nrdI o i hio,if_neg (by omega),if_pos e3,if_pos (by omega),hY,if_pos (by omega),if_pos (by omega),if_pos (by omega),if_pos (by omega),hN,if_pos (by omega),if_pos (by omega),nrd_T86 L i hi,ey',ez',z2]
        simp only[Option.bind_some]
        rw[if_pos (by simp;omega),ws]
    · have hk:L[i].f1.f0=1∨L[i].f1.f0=2∨L[i].f1.f0=8:=by have:=hIns.1;omega
      have e1:o[i]=1:=by rw[ok i hio hi ha,if_neg hp]
      refine fin _ (.inr (.inr (.inr ⟨hk,rfl⟩))) (by simp) (fun c hc k=>?_)
      simp only[spec_Layout.l0]
      rw[if_pos (by omega),if_pos (by omega),if_pos (by omega),nrdI o i hio,if_neg (by omega),if_neg (by omega),nrd_T86 L i hi,if_neg c7]
      simp only[askS,Option.bind_some,decide_eq_true_eq]
      rw[if_neg ha,if_pos (by omega),ws,z2,z3]
theorem layS (L:List S86) (hn:1≤L.length∧L.length≤600) (hS:SAll L) (hI:IAll L) (h8: ∃ h:L.length - 1<L.length,L[L.length - 1].f1.f0=8) :
    ∃ O R,OkS L O∧Near L O L.length∧Laid L O 0 R∧Evt (fun k=>spec_Layout.f k L) (if R.length≤400 then(R,true)else([],false)):=by
  obtain⟨O,hO,hN,⟨K1,h1⟩⟩:=sizesS L hn hS hI h8
  obtain⟨Y,N,hW,K3,h3⟩:=ways L hn.2
  obtain⟨B,hB,hb,K4,h4⟩:=begins O (by have:=hO.1;omega) hO.2.1
  obtain⟨R,hL,hR⟩:=layS_l0 L hn.2 hS hI O Y N B hO hW hB hb hn.1 h8
  obtain⟨K2,h2⟩:=hR [] (by simp)
  dsimp only at h1 h2 h3 h4
  have hpos: ¬ (O.length:Int)=0:=by have:=hO.1;omega
  refine⟨O,R,hO,hN,hL,⟨K1+K2+K3+K4,fun k hk=>?_⟩⟩
  simp only[spec_Layout.f,h1 k (by omega),h3 k (by omega),h4 k (by omega),Option.bind_some,if_neg hpos]
  exact h2 k (by omega)
/-- A right call is told right. -/
theorem callT (a b:Int) (l:List S105) (ha:0≤a∧a≤4294967295) (hb:0≤b∧b≤4294967295) (hl:l.length=3) (hw: ∀ y ∈ l,(0≤y.f0∧y.f0≤4294967295)∧(0≤y.f1∧y.f1≤4294967295)): ∀ k,4≤k→spec_CallOk.f k a b l=some true:=by
  have key: ∀ (d i:Nat),i+d=3→∀ k,d<k→spec_CallOk.l0 k (i:Int) a b l=some true:=by
    intro d
    induction d with
    | zero=>
      intro i hi k hk
      obtain⟨k,rfl⟩ : ∃ m,k=m+1:=⟨k - 1,by omega⟩
      simp only[spec_CallOk.l0]
      rw[if_neg (by omega)]
      simp only[halfS,Option.bind_some]
      rw[decide_eq_true ha,if_pos rfl,decide_eq_true hb,if_pos rfl,hl]
      rfl
    | succ d ih=>
      intro i hi k hk
      obtain⟨k,rfl⟩ : ∃ m,k=m+1:=⟨k - 1,by omega⟩
      have hlt:i<l.length:=by omega
      have h:(0≤l[i].f0∧l[i].f0≤4294967295)∧(0≤l[i].f1∧l[i].f1≤4294967295):=hw l[i] (List.getElem_mem hlt)
      have q:=ih (i+1) (by omega) k (by omega)
      simp only[spec_CallOk.l0]
      rw[if_pos (by omega),if_pos (by omega),nrd_T105 l i hlt,wsucc hlt (by omega),wideS]
      simp only[Option.bind_some,decide_eq_true_eq]
      rw[if_pos h]
      exact q
  intro k hk
  exact key 3 0 (by omega) k (by omega)
/-- What lines come to, from a line on. -/
inductive Ends (L:List S86) (a b:Int) (w:List S105):Nat→Int→Int→Prop
  | place (i:Nat) (g v:Int) (h:i<L.length):L[i].f1.f0=0→Ends L a b w (i+1) g v→Ends L a b w i g v
  | load (i:Nat) (g v:Int) (h:i<L.length) (p:Int×Bool):L[i].f1.f0=1→Evt (fun k=>spec_FieldAt.f k a b w L[i].f1.f1) p→Ends L a b w (i+1) p.1 v→Ends L a b w i g v
  | and (i:Nat) (g v:Int) (h:i<L.length):L[i].f1.f0=2→Ends L a b w (i+1) (Go.bits .and .i64 g L[i].f1.f1) v→Ends L a b w i g v
  | ret (i:Nat) (g:Int) (h:i<L.length):L[i].f1.f0=8→Ends L a b w i g L[i].f1.f1
  | jump (i:Nat) (g v:Int) (h:i<L.length) (y:Nat):L[i].f1.f0=7→Way L i L[i].f2 y→Ends L a b w y g v→Ends L a b w i g v
  | ask (i:Nat) (g v:Int) (h:i<L.length) (t:Bool) (y:Nat):(3≤L[i].f1.f0∧L[i].f1.f0≤6)→spec_l07Asks.f L[i].f1.f0 L[i].f1.f1 0 0 g=some t→Way L i (if t=true then L[i].f2 else L[i].f3) y→Ends L a b w y g v→Ends L a b w i g v
theorem laid_split {L:List S86} {o:List Int} (ho:OkS L o) {R:List S71} (hR:Laid L o 0 R): ∀ i,i≤L.length→∃ c r,R=c ++ r∧(c.length:Int)=pre o i∧Laid L o i r
  | 0,_=>⟨[],R,rfl,by simp[pre],hR⟩
  | i+1,h=>by
    obtain⟨c,r,e,hc,hl⟩:=laid_split ho hR i (by omega)
    cases hl with
    | done=>omega
    | line _ h1 h2 w r hw hr=>exact⟨c ++ w,r,by rw[e,List.append_assoc],by rw[List.length_append,pre_succ h2,Int.natCast_add,hc,words_len ho hw],hr⟩
theorem laid_at {L:List S86} {o:List Int} (ho:OkS L o) {R:List S71} (hR:Laid L o 0 R) {i:Nat} (h:i<L.length): ∃ (h':i<o.length) (c w r:List S71),R=c ++ (w ++ r)∧(c.length:Int)=pre o i∧Words L o i h h' w:=by
  obtain⟨c,r,e,hc,hl⟩:=laid_split ho hR i (by omega)
  cases hl with
  | done=>omega
  | line _ h1 h2 w r hw hr=>exact⟨h2,c,w,r,e,hc,hw⟩
theorem rd_mid (c w r:List S71) (m:Nat) (h:m<w.length) (p:Int) (hp:p=((c.length+m:Nat):Int)):rd_T71 (c ++ (w ++ r)) p=w[m]:=by
  subst hp
  rw[rd_nat71 _ _ (by simp only[List.length_append];omega),List.getElem_append_right (by omega)]
  simp only[Nat.add_sub_cancel_left]
  rw[List.getElem_append_left h]
/-- A right word that leads inside, wherever it stands in what is laid. -/
theorem laid_prog {L:List S86} (hn:L.length≤600) (hS:SAll L) (hI:IAll L) (h8: ∃ h:L.length - 1<L.length,L[L.length - 1].f1.f0=8) {o:List Int} (ho:OkS L o) (hN:Near L o L.length) {R:List S71} (hR:Laid L o 0 R) (h400:1≤R.length∧R.length≤400):ProgP R:=by
  have hlen:=laid_len ho hR
  have e0:pre o 0=0:=by simp[pre]
  have mono: ∀ d i,i+d≤L.length→pre o i≤pre o (i+d):=by
    intro d
    induction d with
    | zero=>intro i _;exact Int.le_refl _
    | succ d ih=>
      intro i hi
      have h1:=ih i (by omega)
      have h2:=ho.2.1 (i+d) (by have:=ho.1;omega)
      have h3:pre o (i+(d+1))=pre o (i+d)+o[i+d]'(by have:=ho.1;omega):=pre_succ (i:=i+d) (by have:=ho.1;omega)
      omega
  have mono': ∀ i y,i≤y→y≤L.length→pre o i≤pre o y:=fun i y h1 h2=>by
    have:=mono (y - i) i (by omega)
    rwa [show i+(y - i)=y by omega]at this
  -- a way leads to a place before the last line, which is of one word
  have last:pre o L.length=pre o (L.length - 1)+1:=by
    obtain⟨h,e⟩:=h8
    have h1:=ho.2.2.2 (L.length - 1) (by have:=ho.1;omega) h (by omega)
    rw[if_neg (by omega)]at h1
    have h2:pre o (L.length - 1+1)=pre o (L.length - 1)+o[L.length - 1]'(by have:=ho.1;omega):=pre_succ (by have:=ho.1;omega)
    rw[show L.length - 1+1=L.length by omega]at h2
    omega
  have inw: ∀ i s y,Way L i s y→pre o (i+1)≤pre o y∧pre o y<pre o L.length:=fun i s y hy=>by
    refine⟨mono' (i+1) y hy.1 (by have:=hy.2.1;omega),?_⟩
    have:pre o y≤pre o (L.length - 1):=mono' y (L.length - 1) (by
      obtain⟨_,hq,_⟩:=hy.2.2.1
      obtain⟨h,e⟩:=h8
      have hne:y≠L.length - 1:=fun e1=>by subst e1;omega
      have:=hy.2.1
      omega) (by omega)
    omega
  -- each word of each line
  have each: ∀ i r,Laid L o i r→∀ c,R=c ++ r→(c.length:Int)=pre o i→∀ m (hm:m<r.length),InsP r[m].f0 r[m].f1 r[m].f2 r[m].f3∧farP r[m] ((c.length+m:Nat):Int)<R.length:=by
    intro i r hl
    induction hl with
    | done=>intro c _ _ m hm;exact absurd hm (by simp)
    | line i h h' w r hw hr ih=>
      intro c e hc m hm
      rcases Nat.lt_or_ge m w.length with hlt|hge
      · rw[List.getElem_append_left hlt]
        have hw':=hw
        have hp:=ho.2.1 i h'
        have ps:=pre_succ h'
        rcases hw with⟨q,rfl⟩|⟨q,y,hy,rfl⟩|⟨q,y,z,hy,hz,⟨q1,rfl⟩|⟨q3,rfl⟩⟩|⟨q,rfl⟩
        · exact absurd hlt (by simp)
        · have hm0:m=0:=by simp at hlt;omega
          subst hm0
          obtain⟨i1,i2⟩:=inw i _ y hy
          have o1:o[i]=1:=by rw[ho.2.2.2 i h' h (by omega),if_neg (by omega)]
          have b0:=(pre_bound ho.2.1 (i+1) (by omega)).1
          simp only[List.getElem_cons_zero]
          refine⟨?_,?_⟩
          · unfold InsP;omega
          · unfold farP;simp only[show ¬ ((3:Int)≤7∧(7:Int)≤6) by omega,if_false,if_true];omega
        · have hm0:m=0:=by simp at hlt;omega
          subst hm0
          obtain⟨i1,i2⟩:=inw i _ y hy
          obtain⟨j1,j2⟩:=inw i _ z hz
          have n1:=hN i h h' h q q1 _ y (.inl rfl) hy
          have n2:=hN i h h' h q q1 _ z (.inr rfl) hz
          have hb:=(insR (by omega) hI h (by omega)).2.2.2.1
          have b0:=(pre_bound ho.2.1 (i+1) (by omega)).1
          simp only[List.getElem_cons_zero]
          refine⟨?_,?_⟩
          · unfold InsP;omega
          · unfold farP;simp only[if_pos q];unfold mx;split <;> omega
        · obtain⟨i1,i2⟩:=inw i _ y hy
          obtain⟨j1,j2⟩:=inw i _ z hz
          have hb:=(insR (by omega) hI h (by omega)).2.2.2.1
          have b0:=(pre_bound ho.2.1 (i+1) (by omega)).1
          have hm3:m=0∨m=1∨m=2:=by simp at hlt;omega
          rcases hm3 with rfl|rfl|rfl
          · simp only[List.getElem_cons_zero]
            refine⟨?_,?_⟩
            · unfold InsP;omega
            · unfold farP;simp only[if_pos q];unfold mx;split <;> omega
          · simp only[List.getElem_cons_zero,List.getElem_cons_succ]
            refine⟨?_,?_⟩
            · unfold InsP;omega
            · unfold farP;simp only[show ¬ ((3:Int)≤7∧(7:Int)≤6) by omega,if_false,if_true];omega
          · simp only[List.getElem_cons_zero,List.getElem_cons_succ]
            refine⟨?_,?_⟩
            · unfold InsP;omega
            · unfold farP;simp only[show ¬ ((3:Int)≤7∧(7:Int)≤6) by omega,if_false,if_true];omega
        · have hm0:m=0:=by simp at hlt;omega
          subst hm0
          obtain⟨z2,z3,hIn⟩:=insR (by omega) hI h (by omega)
          rw[z2,z3]at hIn
          simp only[List.getElem_cons_zero]
          refine⟨hIn,?_⟩
          have o1:o[i]=1:=by rw[ho.2.2.2 i h' h (by omega),if_neg (by omega)]
          have:=mono' (i+1) L.length h (Nat.le_refl _)
          unfold farP;simp only[show ¬ (3≤L[i].f1.f0∧L[i].f1.f0≤6) by omega,show ¬ L[i].f1.f0=7 by omega,if_false];omega
      · rw[List.getElem_append_right hge]
        have h2:=ih (c ++ w) (by rw[e,List.append_assoc]) (by rw[List.length_append,Int.natCast_add,hc,words_len ho hw,pre_succ h']) (m - w.length) (by rw[List.length_append]at hm;omega)
        have e3:(c ++ w).length+(m - w.length)=c.length+m:=by rw[List.length_append];omega
        rw[e3]at h2
        exact h2
  refine⟨h400,fun h0=>?_,fun j hj=>?_⟩
  · obtain⟨h,e⟩:=h8
    obtain⟨h',c,w,r,eR,hc,hw⟩:=laid_at ho hR h
    have hwl:=words_len ho hw
    have o1:o[L.length - 1]=1:=by rw[ho.2.2.2 (L.length - 1) h' h (by omega),if_neg (by omega)]
    rcases hw with⟨q,_⟩|⟨q,_⟩|⟨q,_⟩|⟨q,ew⟩
    · omega
    · omega
    · omega
    · have hcl:c.length=R.length - 1:=by omega
      have:=rd_mid c w r 0 (by rw[ew];simp) ((R.length - 1:Nat):Int) (by omega)
      rw[← eR,rd_nat71 R (R.length - 1) (by omega)]at this
      rw[this]
      simp only[ew,List.getElem_cons_zero]
      exact e
  · have h2:=each 0 R hR [] rfl (by simp[pre]) j hj
    refine⟨h2.1,?_⟩
    have h3:=h2.2
    simp only[List.length_nil,Nat.zero_add]at h3
    exact h3
/-- What is laid runs as its lines do. -/
theorem run_laid {L:List S86} (hn:L.length≤600) {o:List Int} (ho:OkS L o) {R:List S71} (hR:Laid L o 0 R) (h400:R.length≤400) (a b:Int) (w:List S105): ∀ {i:Nat} {g v:Int},Ends L a b w i g v→∀ s,∃ s',Evt (fun k=>spec_Run.l0 k R g s (pre o i) a b w) (v,s'):=by
  have hlen:=laid_len ho hR
  rw[show pre o 0=0 by simp[pre]]at hlen
  have bnd: ∀ j,j≤L.length→0≤pre o j∧pre o j≤1800:=fun j hj=>by have:=pre_bound ho.2.1 j (by have:=ho.1;omega);omega
  intro i g v hE
  induction hE with
  | place i g v h c0 hE ih=>
    intro s
    have h':i<o.length:=by have:=ho.1;omega
    have e:pre o (i+1)=pre o i:=by rw[pre_succ h',ho.2.2.2 i h' h (by omega),if_pos c0];omega
    rw[← e]
    exact ih s
  | load i g v h p c1 hp hE ih=>
    intro s
    obtain⟨h',c,ws,r,eR,hc,hw⟩:=laid_at ho hR h
    obtain⟨s',K,hK⟩:=ih (wrap64 (s+1))
    obtain⟨K2,h2⟩:=hp
    have o1:o[i]=1:=by rw[ho.2.2.2 i h' h (by omega),if_neg (by omega)]
    have hw1:ws= [⟨L[i].f1.f0,L[i].f1.f1,0,0⟩]:=by
      rcases hw with⟨q,_⟩|⟨q,_⟩|⟨q,_⟩|⟨q,e⟩
      · omega
      · omega
      · omega
      · exact e
    have e1:=rd_mid c ws r 0 (by rw[hw1];simp) (pre o i) (by omega)
    have b1:=bnd i (by omega)
    have b2:pre o i<(R.length:Int):=by rw[eR,hw1];simp only[List.length_append,List.length_cons,List.length_nil];omega
    have ps:=pre_succ h'
    refine⟨s',.succ ⟨K+K2,fun k hk=>?_⟩⟩
    have g2:=h2 k (by omega)
    have g1:=hK k (by omega)
    dsimp only at g1 g2
    simp only[spec_Run.l0]
    rw[if_pos b2,if_pos b1.1,eR,e1,← eR]
    simp only[hw1,List.getElem_cons_zero]
    rw[if_pos c1,g2,w64 (x:=pre o i+1) (by omega) (by omega),show pre o i+1=pre o (i+1) by omega]
    exact g1
  | and i g v h c2 hE ih=>
    intro s
    obtain⟨h',c,ws,r,eR,hc,hw⟩:=laid_at ho hR h
    obtain⟨s',K,hK⟩:=ih (wrap64 (s+1))
    have o1:o[i]=1:=by rw[ho.2.2.2 i h' h (by omega),if_neg (by omega)]
    have hw1:ws= [⟨L[i].f1.f0,L[i].f1.f1,0,0⟩]:=by
      rcases hw with⟨q,_⟩|⟨q,_⟩|⟨q,_⟩|⟨q,e⟩
      · omega
      · omega
      · omega
      · exact e
    have e1:=rd_mid c ws r 0 (by rw[hw1];simp) (pre o i) (by omega)
    have b1:=bnd i (by omega)
    have b2:pre o i<(R.length:Int):=by rw[eR,hw1];simp only[List.length_append,List.length_cons,List.length_nil];omega
    have ps:=pre_succ h'
    refine⟨s',.succ ⟨K,fun k hk=>?_⟩⟩
    have g1:=hK k (by omega)
    dsimp only at g1
    simp only[spec_Run.l0]
    rw[if_pos b2,if_pos b1.1,eR,e1,← eR]
    simp only[hw1,List.getElem_cons_zero]
    rw[if_neg (by omega),if_pos c2,w64 (x:=pre o i+1) (by omega) (by omega),show pre o i+1=pre o (i+1) by omega]
    exact g1
  | ret i g h c8=>
    intro s
    obtain⟨h',c,ws,r,eR,hc,hw⟩:=laid_at ho hR h
    have hw1:ws= [⟨L[i].f1.f0,L[i].f1.f1,0,0⟩]:=by
      rcases hw with⟨q,_⟩|⟨q,_⟩|⟨q,_⟩|⟨q,e⟩
      · omega
      · omega
      · omega
      · exact e
    have e1:=rd_mid c ws r 0 (by rw[hw1];simp) (pre o i) (by omega)
    have b1:=bnd i (by omega)
    have b2:pre o i<(R.length:Int):=by rw[eR,hw1];simp only[List.length_append,List.length_cons,List.length_nil];omega
    refine⟨wrap64 (s+1),.succ (.const fun k=>?_)⟩
    simp only[spec_Run.l0]
    rw[if_pos b2,if_pos b1.1,eR,e1,← eR]
    simp only[hw1,List.getElem_cons_zero]
    rw[if_neg (by omega),if_neg (by omega),if_neg (by omega),if_pos c8]
  | jump i g v h y c7 hy hE ih=>
    intro s
    obtain⟨h',c,ws,r,eR,hc,hw⟩:=laid_at ho hR h
    obtain⟨s',K,hK⟩:=ih (wrap64 (s+1))
    have o1:o[i]=1:=by rw[ho.2.2.2 i h' h (by omega),if_neg (by omega)]
    have hw1:ws= [⟨7,pre o y - pre o (i+1),0,0⟩]:=by
      rcases hw with⟨q,_⟩|⟨q,z,hz,e⟩|⟨q,_⟩|⟨q,e⟩
      · omega
      · rw[e,hz.uniq hy]
      · omega
      · omega
    have e1:=rd_mid c ws r 0 (by rw[hw1];simp) (pre o i) (by omega)
    have b1:=bnd i (by omega)
    have b3:=bnd y (by have:=hy.2.1;omega)
    have b2:pre o i<(R.length:Int):=by rw[eR,hw1];simp only[List.length_append,List.length_cons,List.length_nil];omega
    have ps:=pre_succ h'
    refine⟨s',.succ ⟨K,fun k hk=>?_⟩⟩
    have g1:=hK k (by omega)
    dsimp only at g1
    simp only[spec_Run.l0]
    rw[if_pos b2,if_pos b1.1,eR,e1,← eR]
    simp only[hw1,List.getElem_cons_zero]
    rw[if_neg (by omega),if_neg (by omega),if_pos trivial,w64 (x:=pre o i+(pre o y - pre o (i+1))) (by omega) (by omega),w64 (x:=pre o i+(pre o y - pre o (i+1))+1) (by omega) (by omega),show pre o i+(pre o y - pre o (i+1))+1=pre o y by omega]
    exact g1
  | ask i g v h t y ha ht hy hE ih=>
    intro s
    obtain⟨h',c,ws,r,eR,hc,hw⟩:=laid_at ho hR h
    have b1:=bnd i (by omega)
    have b3:=bnd y (by have:=hy.2.1;omega)
    have ps:=pre_succ h'
    have ht': ∀ c d,spec_l07Asks.f L[i].f1.f0 L[i].f1.f1 c d g=some t:=fun _ _=>ht
    rcases hw with⟨q,_⟩|⟨q,_⟩|⟨q,y1,z1,hy1,hz1,⟨q1,hw1⟩|⟨q3,hw1⟩⟩|⟨q,_⟩
    · omega
    · omega
    · obtain⟨s',K,hK⟩:=ih (wrap64 (s+1))
      have e1:=rd_mid c ws r 0 (by rw[hw1];simp) (pre o i) (by omega)
      have b2:pre o i<(R.length:Int):=by rw[eR,hw1];simp only[List.length_append,List.length_cons,List.length_nil];omega
      refine⟨s',.succ ⟨K,fun k hk=>?_⟩⟩
      have g1:=hK k (by omega)
      dsimp only at g1
      simp only[spec_Run.l0]
      rw[if_pos b2,if_pos b1.1,eR,e1,← eR]
      simp only[hw1,List.getElem_cons_zero]
      rw[if_neg (by omega),if_neg (by omega),if_neg (by omega),if_neg (by omega),ht']
      simp only[Option.bind_some]
      cases t with
      | true=>
        have hyy:y1=y:=hy1.uniq hy
        subst hyy
        rw[if_pos rfl,w64 (x:=pre o i+(pre o y1 - pre o (i+1))) (by omega) (by omega),w64 (x:=pre o i+(pre o y1 - pre o (i+1))+1) (by omega) (by omega),show pre o i+(pre o y1 - pre o (i+1))+1=pre o y1 by omega]
        exact g1
      | false=>
        have hyy:z1=y:=hz1.uniq hy
        subst hyy
        rw[if_neg (by simp),w64 (x:=pre o i+(pre o z1 - pre o (i+1))) (by omega) (by omega),w64 (x:=pre o i+(pre o z1 - pre o (i+1))+1) (by omega) (by omega),show pre o i+(pre o z1 - pre o (i+1))+1=pre o z1 by omega]
        exact g1
    · obtain⟨s',K,hK⟩:=ih (wrap64 (wrap64 (s+1)+1))
      have e1:=rd_mid c ws r 0 (by rw[hw1];simp) (pre o i) (by omega)
      have e2:=rd_mid c ws r 1 (by rw[hw1];simp) (pre o i+1) (by omega)
      have e3:=rd_mid c ws r 2 (by rw[hw1];simp) (pre o i+2) (by omega)
      have b2:pre o i+2<(R.length:Int):=by rw[eR,hw1];simp only[List.length_append,List.length_cons,List.length_nil];omega
      refine⟨s',.succ (.succ ⟨K,fun k hk=>?_⟩)⟩
      have g1:=hK k (by omega)
      dsimp only at g1
      simp only[spec_Run.l0]
      rw[if_pos (by omega),if_pos b1.1,eR,e1,← eR]
      simp only[hw1,List.getElem_cons_zero]
      rw[if_neg (by omega),if_neg (by omega),if_neg (by omega),if_neg (by omega),ht']
      simp only[Option.bind_some]
      cases t with
      | true=>
        have hyy:y1=y:=hy1.uniq hy
        subst hyy
        rw[if_pos rfl,w64 (x:=pre o i+0) (by omega) (by omega),w64 (x:=pre o i+0+1) (by omega) (by omega),show pre o i+0+1=pre o i+1 by omega]
        rw[if_pos (by omega),if_pos (by omega),eR,e2,← eR]
        simp only[hw1,List.getElem_cons_zero,List.getElem_cons_succ]
        rw[if_neg (by omega),if_neg (by omega),if_pos trivial,w64 (x:=pre o i+1+(pre o y1 - pre o (i+1)+1)) (by omega) (by omega),w64 (x:=pre o i+1+(pre o y1 - pre o (i+1)+1)+1) (by omega) (by omega),show pre o i+1+(pre o y1 - pre o (i+1)+1)+1=pre o y1 by omega]
        exact g1
      | false=>
        have hyy:z1=y:=hz1.uniq hy
        subst hyy
        rw[if_neg (by simp),w64 (x:=pre o i+1) (by omega) (by omega),w64 (x:=pre o i+1+1) (by omega) (by omega),show pre o i+1+1=pre o i+2 by omega]
        rw[if_pos (by omega),if_pos (by omega),eR,e3,← eR]
        simp only[hw1,List.getElem_cons_zero,List.getElem_cons_succ]
        rw[if_neg (by omega),if_neg (by omega),if_pos trivial,w64 (x:=pre o i+2+(pre o z1 - pre o (i+1))) (by omega) (by omega),w64 (x:=pre o i+2+(pre o z1 - pre o (i+1))+1) (by omega) (by omega),show pre o i+2+(pre o z1 - pre o (i+1))+1=pre o z1 by omega]
        exact g1
    · omega
/-- A place of a name stands there. -/
def To (post:List S86) (s:ByteArray):Prop:= ∃ z ∈ post,z.f1.f0=0∧z.f0.toList=s.toList
/-- A line that is right between others. -/
def Gd (pr:List S86) (x:S86) (post:List S86):Prop:=
  (PZ x∧(1≤(x.f0.size:Int)∧(x.f0.size:Int)≤12)∧x.f2.toList= []∧x.f3.toList= []∧∀ z ∈ pr,z.f1.f0=0→z.f0.toList≠x.f0.toList)∨
  (¬ x.f1.f0=0∧x.f0.toList= []∧x.f1.f2=0∧x.f1.f3=0∧(x.f1.f0=7→x.f1.f1=0)∧InsP x.f1.f0 x.f1.f1 x.f1.f2 x.f1.f3∧
    ((x.f1.f0=7∧x.f3.toList= []∧To post x.f2)∨((3≤x.f1.f0∧x.f1.f0≤6)∧To post x.f2∧To post x.f3)∨(¬ x.f1.f0=7∧ ¬ (3≤x.f1.f0∧x.f1.f0≤6)∧x.f2.toList= []∧x.f3.toList= [])))
def Ok (pr:List S86):List S86→List S86→Prop
  | [],_=>True
  | x :: l,post=>Gd pr x (l ++ post)∧Ok (pr ++ [x]) l post
theorem To.mono {p q:List S86} {s:ByteArray} (h:To p s) (hs: ∀ z ∈ p,z ∈ q):To q s:=by
  obtain⟨z,h1,h2⟩:=h
  exact⟨z,hs z h1,h2⟩
theorem Gd.mono {pr p q:List S86} {x:S86} (h:Gd pr x p) (hs: ∀ z ∈ p,z ∈ q):Gd pr x q:=by
  rcases h with h|⟨a,b,c,d,e,f,g⟩
  · exact .inl h
  · refine .inr ⟨a,b,c,d,e,f,?_⟩
    rcases g with⟨g1,g2,g3⟩|⟨g1,g2,g3⟩|g
    · exact .inl ⟨g1,g2,g3.mono hs⟩
    · exact .inr (.inl ⟨g1,g2.mono hs,g3.mono hs⟩)
    · exact .inr (.inr g)
theorem Ok.mono {q:List S86} : ∀ {l pr p:List S86},Ok pr l p→(∀ z ∈ p,z ∈ q)→Ok pr l q
  | [],_,_,_,_=>trivial
  | x :: l,pr,p,h,hs=>⟨h.1.mono (fun z hz=>by
      rcases List.mem_append.1 hz with h1|h1
      · exact List.mem_append_left _ h1
      · exact List.mem_append_right _ (hs z h1)),Ok.mono h.2 hs⟩
theorem Ok.get {post:List S86} : ∀ {l pr:List S86},Ok pr l post→∀ j (h:j<l.length),Gd (pr ++ l.take j) l[j] (l.drop (j+1) ++ post)
  | [],_,_,_,h=>absurd h (by simp)
  | x :: l,pr,hk,0,h=>by simpa using hk.1
  | x :: l,pr,hk,j+1,h=>by
    have:=Ok.get hk.2 j (by simpa using h)
    simpa using this
def tN (i:Nat):ByteArray:=strOfNums [(48+(i:Int)) % 256]
/-- Right lines: what is asked of them, in one. -/
structure RL (L:List S86):Prop where
  n:L.length≤600
  s:SAll L
  i:IAll L
/-- A place stands once. -/
theorem RL.one {L:List S86} (h:RL L) {y:Nat} (hy:y<L.length) (hp:L[y].f1.f0=0):Fst (QI L L[y].f0.toList) L.length 0 (y:Int)∧L[y].f0.toList≠[]:=by
  have hn:=h.n
  obtain⟨w0,h0⟩:=fstI L (by omega) L[y].f0 0 (by omega)
  obtain⟨w2,h2⟩:=fstI L (by omega) L[y].f2 (y+1) hy
  obtain⟨w3,h3⟩:=fstI L (by omega) L[y].f3 (y+1) hy
  rcases h.i y hy w0 w2 w3 h0 h2 h3 with h4|h4
  · refine⟨by rw[← h4.2.2.2.2];exact h0,fun e=>?_⟩
    have h5:=h4.2.1.1
    rw[ByteArray.toList_eq]at e
    have h6:L[y].f0.size=0:=by
      show L[y].f0.data.toList.length=0
      rw[e]
      rfl
    omega
  · exact absurd hp h4.1
theorem RL.way {L:List S86} (h:RL L) {i y:Nat} {s:ByteArray} (hi:i<y) (hy:y<L.length) (hp:L[y].f1.f0=0) (hl:L[y].f0.toList=s.toList):Way L i s y:=by
  have hn:=h.n
  have H: ∀ j (h:j<L.length),L[j].f1.f0=0→PZ L[j]:=fun j h' e=>plz (by omega) h.i h' e
  obtain⟨h1,hne⟩:=h.one hy hp
  rw[hl]at h1 hne
  have hno: ∀ m,m<y→ ¬ QI L s.toList m:=by
    rcases h1 with⟨j,_,_,_,e,hn⟩|⟨e,_⟩
    · exact fun m hm=>hn m (by omega) (by omega)
    · omega
  exact⟨hi,hy,⟨hy,hp,hl⟩,.inl ⟨y,Nat.zero_le _,hy,(qs_qi H _ y).2 ⟨hy,hp,hl⟩,rfl,fun m _ hm q=>hno m hm ((qs_qi H _ m).1 q)⟩,.inl ⟨y,hi,hy,⟨hy,hp,hl⟩,rfl,fun m _ hm=>hno m hm⟩,hne⟩
/-- These lines stand there. -/
def Fr (L:List S86) (i:Nat) (F:List S86):Prop:= ∃ r,L.drop i=F ++ r
theorem Fr.get {L F:List S86} {i:Nat} (h:Fr L i F) (m:Nat) (hm:m<F.length): ∃ h':i+m<L.length,L[i+m]=F[m]:=by
  obtain⟨r,e⟩:=h
  have h1:L[i+m]?=some F[m]:=by rw[← List.getElem?_drop,e,List.getElem?_append_left hm,List.getElem?_eq_getElem hm]
  obtain⟨h2,h3⟩:=List.getElem?_eq_some_iff.1 h1
  exact⟨h2,h3⟩
theorem Fr.left {L F G:List S86} {i:Nat} (h:Fr L i (F ++ G)):Fr L i F:=by
  obtain⟨r,e⟩:=h
  exact⟨G ++ r,by rw[e,List.append_assoc]⟩
theorem Fr.right {L F G:List S86} {i:Nat} (h:Fr L i (F ++ G)):Fr L (i+F.length) G:=by
  obtain⟨r,e⟩:=h
  exact⟨r,by rw[← List.drop_drop,e,List.append_assoc,List.drop_left]⟩
theorem Fr.tail {L F:List S86} {x:S86} {i:Nat} (h:Fr L i (x :: F)):Fr L (i+1) F:=Fr.right (F:=[x]) h
section
variable {L:List S86} {a b:Int} {w:List S105} {i:Nat} {g v:Int}
theorem e_load (k:Int) (h:i<L.length) (e:L[i]=lw 1 k) (p:Int×Bool) (hp:Evt (fun n=>spec_FieldAt.f n a b w k) p) (hE:Ends L a b w (i+1) p.1 v):Ends L a b w i g v:= .load i g v h p (by rw[e];rfl) (by rw[e];exact hp) hE
theorem e_and (k:Int) (h:i<L.length) (e:L[i]=lw 2 k) (hE:Ends L a b w (i+1) (Go.bits .and .i64 g k) v):Ends L a b w i g v:= .and i g v h (by rw[e];rfl) (by rw[e];exact hE)
theorem e_ret (k:Int) (h:i<L.length) (e:L[i]=lw 8 k):Ends L a b w i g k:=by
  have:=Ends.ret (L:=L) (a:=a) (b:=b) (w:=w) i g h (by rw[e];rfl)
  rw[e]at this
  exact this
theorem e_place (s:ByteArray) (h:i<L.length) (e:L[i]=lp s) (hE:Ends L a b w (i+1) g v):Ends L a b w i g v:= .place i g v h (by rw[e];rfl) hE
theorem e_ask (hR:RL L) (o k:Int) (s t:ByteArray) (h:i<L.length) (e:L[i]=la o k s t) (ho:3≤o∧o≤6) (q:Bool) (hq:spec_l07Asks.f o k 0 0 g=some q) (y:Nat) (hi:i<y) (hy:y<L.length) (hp:L[y]=lp (if q=true then s else t)) (hE:Ends L a b w y g v):Ends L a b w i g v:=by
  refine .ask i g v h q y (by rw[e];exact ho) (by rw[e];exact hq) ?_ hE
  rw[e]
  exact hR.way hi hy (by rw[hp];rfl) (by rw[hp];rfl)
end
/-- A right call. -/
def CallR (a b:Int) (w:List S105):Prop:=(0≤a∧a≤4294967295)∧(0≤b∧b≤4294967295)∧w.length=3∧∀ y ∈ w,(0≤y.f0∧y.f0≤4294967295)∧(0≤y.f1∧y.f1≤4294967295)
theorem field_hl {a b:Int} {w:List S105} (hc:CallR a b w) {A:Int} (hA:0≤A∧A≤2):Evt (fun k=>spec_FieldAt.f k a b w (wrap64 (3+wrap64 (2*A)))) ((rd_T105 w A).f0,true)∧Evt (fun k=>spec_FieldAt.f k a b w (wrap64 (2+wrap64 (2*A)))) ((rd_T105 w A).f1,true):=by
  obtain⟨h1,h2,h3,h4⟩:=hc
  have hcl:=callT a b w h1 h2 h3 h4
  have dS: ∀ x,0≤x∧x≤7→∀ k,4≤k→spec_FieldAt.f k a b w x=spec_FieldAt.j0 k x false a b w:=fun x hx k hk=>by simp only[spec_FieldAt.f,hcl k hk,Option.bind_some,inS,if_true,decide_eq_true hx,Bool.not_true]
  have e0:wrap64 (2*A)=2*A:=w64 (by omega) (by omega)
  have e1:wrap64 (3+2*A)=3+2*A:=w64 (by omega) (by omega)
  have e2:wrap64 (2+2*A)=2+2*A:=w64 (by omega) (by omega)
  rw[e0,e1,e2]
  have f1:wrap64 (3+2*A - 2)=3+2*A - 2:=w64 (by omega) (by omega)
  have f2:wrap64 (2+2*A - 2)=2+2*A - 2:=w64 (by omega) (by omega)
  have g1:wrap64 (Int.tdiv (3+2*A - 2) 2)=A:=by rw[Int.tdiv_eq_ediv_of_nonneg (by omega),w64 (by omega) (by omega)];omega
  have g2:wrap64 (Int.tdiv (2+2*A - 2) 2)=A:=by rw[Int.tdiv_eq_ediv_of_nonneg (by omega),w64 (by omega) (by omega)];omega
  have m1:Int.tmod (3+2*A) 2=1:=by rw[Int.tmod_eq_emod_of_nonneg (by omega)];omega
  have m2:Int.tmod (2+2*A) 2=0:=by rw[Int.tmod_eq_emod_of_nonneg (by omega)];omega
  constructor
  · refine⟨5,fun k hk=>(dS _ (by omega) k (by omega)).trans ?_⟩
    obtain⟨k,rfl⟩ : ∃ m,k=m+1:=⟨k - 1,by omega⟩
    simp only[spec_FieldAt.j0,Bool.false_eq_true,if_false,f1,g1,m1]
    rw[if_neg (by omega),if_neg (by omega),if_pos (by omega),if_pos (by omega),if_neg (by decide)]
  · refine⟨5,fun k hk=>(dS _ (by omega) k (by omega)).trans ?_⟩
    obtain⟨k,rfl⟩ : ∃ m,k=m+1:=⟨k - 1,by omega⟩
    simp only[spec_FieldAt.j0,Bool.false_eq_true,if_false,f2,g2,m2]
    rw[if_neg (by omega),if_neg (by omega),if_pos (by omega),if_pos (by omega),if_pos trivial]
/-- Where a place is. -/
def At (L:List S86) (i p:Nat) (s:ByteArray):Prop:=i<p∧∃ h:p<L.length,L[p]=lp s
theorem At.le {L:List S86} {i j p:Nat} {s:ByteArray} (h:At L j p s) (hi:i≤j):At L i p s:=⟨by have:=h.1;omega,h.2⟩
theorem same_run {L:List S86} (hR:RL L) {a b:Int} {w:List S105} (hc:CallR a b w) {A B C E F:Int} (hA:0≤A∧A≤2) {s y n:ByteArray} {i:Nat} (hF:Fr L i (cSame A B C E F s y n)) {p q:Nat} (hp:At L (i+6) p y) (hq:At L (i+6) q n) {v:Int} {t:Bool}
    (ht:t=decide (Go.bits .and .i64 (rd_T105 w A).f0 B=E∧Go.bits .and .i64 (rd_T105 w A).f1 C=F)) (hT: ∀ g,Ends L a b w (if t=true then p else q) g v) (g:Int):Ends L a b w i g v:=by
  obtain⟨k0,x0⟩:=hF.get 0 (by simp[cSame])
  obtain⟨k1,x1⟩:=hF.get 1 (by simp[cSame])
  obtain⟨k2,x2⟩:=hF.get 2 (by simp[cSame])
  obtain⟨k3,x3⟩:=hF.get 3 (by simp[cSame])
  obtain⟨k4,x4⟩:=hF.get 4 (by simp[cSame])
  obtain⟨k5,x5⟩:=hF.get 5 (by simp[cSame])
  obtain⟨k6,x6⟩:=hF.get 6 (by simp[cSame])
  obtain⟨f1,f2⟩:=field_hl hc hA
  obtain⟨p1,p2,p3⟩:=hp
  obtain⟨q1,q2,q3⟩:=hq
  refine e_load _ k0 x0 _ f1 (e_and _ k1 x1 ?_)
  dsimp only
  generalize hX:Go.bits .and .i64 (rd_T105 w A).f0 B=X at ht ⊢
  by_cases hx:X=E
  · refine e_ask hR 3 E (s ++ (⟨#[97]⟩ :ByteArray)) n k2 x2 (by omega) true (by simp[spec_l07Asks.f,hx]) (i+3) (by omega) k3 (by rw[if_pos rfl];exact x3) ?_
    refine e_place _ k3 x3 (e_load _ k4 x4 _ f2 (e_and _ k5 x5 ?_))
    dsimp only
    generalize hY:Go.bits .and .i64 (rd_T105 w A).f1 C=Y at ht ⊢
    by_cases hy:Y=F
    · have ht':t=true:=by rw[ht];exact decide_eq_true ⟨hx,hy⟩
      have h:=hT Y
      rw[if_pos ht']at h
      exact e_ask hR 3 F y n k6 x6 (by omega) true (by simp[spec_l07Asks.f,hy]) p (by omega) p2 (by rw[if_pos rfl];exact p3) h
    · have ht':t=false:=by rw[ht];exact decide_eq_false (fun h=>hy h.2)
      have h:=hT Y
      rw[if_neg (by rw[ht'];decide)]at h
      exact e_ask hR 3 F y n k6 x6 (by omega) false (by simp[spec_l07Asks.f,hy]) q (by omega) q2 (by rw[if_neg (by decide)];exact q3) h
  · have ht':t=false:=by rw[ht];exact decide_eq_false (fun h=>hx h.1)
    have h:=hT X
    rw[if_neg (by rw[ht'];decide)]at h
    exact e_ask hR 3 E (s ++ (⟨#[97]⟩ :ByteArray)) n k2 x2 (by omega) false (by simp[spec_l07Asks.f,hx]) q (by omega) q2 (by rw[if_neg (by decide)];exact q3) h
theorem above_run {L:List S86} (hR:RL L) {a b:Int} {w:List S105} (hc:CallR a b w) {A B C E F o:Int} (hA:0≤A∧A≤2) (ho:o=4∨o=5) {s y n:ByteArray} {i:Nat} (hF:Fr L i (cAbove A B C E F o s y n)) {p q:Nat} (hp:At L (i+8) p y) (hq:At L (i+8) q n) {v:Int} {t:Bool}
    (ht:t=decide (Go.bits .and .i64 (rd_T105 w A).f0 B>E∨(Go.bits .and .i64 (rd_T105 w A).f0 B=E∧(Go.bits .and .i64 (rd_T105 w A).f1 C>F∨(o=5∧Go.bits .and .i64 (rd_T105 w A).f1 C=F))))) (hT: ∀ g,Ends L a b w (if t=true then p else q) g v) (g:Int):Ends L a b w i g v:=by
  obtain⟨k0,x0⟩:=hF.get 0 (by simp[cAbove])
  obtain⟨k1,x1⟩:=hF.get 1 (by simp[cAbove])
  obtain⟨k2,x2⟩:=hF.get 2 (by simp[cAbove])
  obtain⟨k3,x3⟩:=hF.get 3 (by simp[cAbove])
  obtain⟨k4,x4⟩:=hF.get 4 (by simp[cAbove])
  obtain⟨k5,x5⟩:=hF.get 5 (by simp[cAbove])
  obtain⟨k6,x6⟩:=hF.get 6 (by simp[cAbove])
  obtain⟨k7,x7⟩:=hF.get 7 (by simp[cAbove])
  obtain⟨k8,x8⟩:=hF.get 8 (by simp[cAbove])
  obtain⟨f1,f2⟩:=field_hl hc hA
  obtain⟨p1,p2,p3⟩:=hp
  obtain⟨q1,q2,q3⟩:=hq
  refine e_load _ k0 x0 _ f1 (e_and _ k1 x1 ?_)
  dsimp only
  generalize hX:Go.bits .and .i64 (rd_T105 w A).f0 B=X at ht ⊢
  by_cases hx:X>E
  · have ht':t=true:=by rw[ht];exact decide_eq_true (.inl hx)
    have h:=hT X
    rw[if_pos ht']at h
    exact e_ask hR 4 E y (s ++ (⟨#[97]⟩ :ByteArray)) k2 x2 (by omega) true (by simp[spec_l07Asks.f];omega) p (by omega) p2 (by rw[if_pos rfl];exact p3) h
  · refine e_ask hR 4 E y (s ++ (⟨#[97]⟩ :ByteArray)) k2 x2 (by omega) false (by simp[spec_l07Asks.f];omega) (i+3) (by omega) k3 (by rw[if_neg (by decide)];exact x3) ?_
    refine e_place _ k3 x3 ?_
    by_cases he:X=E
    · refine e_ask hR 3 E (s ++ (⟨#[98]⟩ :ByteArray)) n k4 x4 (by omega) true (by simp[spec_l07Asks.f,he]) (i+5) (by omega) k5 (by rw[if_pos rfl];exact x5) ?_
      refine e_place _ k5 x5 (e_load _ k6 x6 _ f2 (e_and _ k7 x7 ?_))
      dsimp only
      generalize hY:Go.bits .and .i64 (rd_T105 w A).f1 C=Y at ht ⊢
      have hh:=hT Y
      by_cases hy:Y>F∨(o=5∧Y=F)
      · have ht':t=true:=by rw[ht];exact decide_eq_true (.inr ⟨he,hy⟩)
        rw[if_pos ht']at hh
        refine e_ask hR o F y n k8 x8 (by omega) true ?_ p (by omega) p2 (by rw[if_pos rfl];exact p3) hh
        rcases ho with rfl|rfl <;> (simp[spec_l07Asks.f];omega)
      · have ht':t=false:=by rw[ht];exact decide_eq_false (fun h=>by rcases h with h|h;exact hx h;exact hy h.2)
        rw[if_neg (by rw[ht'];decide)]at hh
        refine e_ask hR o F y n k8 x8 (by omega) false ?_ q (by omega) q2 (by rw[if_neg (by decide)];exact q3) hh
        rcases ho with rfl|rfl <;> (simp[spec_l07Asks.f];omega)
    · have ht':t=false:=by rw[ht];exact decide_eq_false (fun h=>by rcases h with h|h;exact hx h;exact he h.1)
      have h:=hT X
      rw[if_neg (by rw[ht'];decide)]at h
      exact e_ask hR 3 E (s ++ (⟨#[98]⟩ :ByteArray)) n k4 x4 (by omega) false (by simp[spec_l07Asks.f,he]) q (by omega) q2 (by rw[if_neg (by decide)];exact q3) h
/-- How a pair stands to another. -/
def cmpV (x y e f:Int):Int:=if x<e then -1 else if x>e then 1 else if y<f then -1 else if y>f then 1 else 0
def holdV (d t:Int):Bool:=if d=1 then t == 0 else if d=2 then t !=0 else if d=3 then decide (t<0)else if d=4 then decide (t≤0)else if d=5 then decide (t>0)else decide (t≥0)
/-- Does a condition hold of a call. -/
def cH (c:S118) (w:List S105):Bool:=holdV c.f2 (cmpV (Go.bits .and .i64 (rd_T105 w c.f0).f0 c.f1.f0) (Go.bits .and .i64 (rd_T105 w c.f0).f1 c.f1.f1) c.f3.f0 c.f3.f1)
/-- A right condition. -/
def CR (y:S118):Prop:=(0≤y.f0∧y.f0≤2)∧((0≤y.f1.f0∧y.f1.f0≤4294967295)∧(0≤y.f1.f1∧y.f1.f1≤4294967295))∧((0≤y.f3.f0∧y.f3.f0≤4294967295)∧(0≤y.f3.f1∧y.f3.f1≤4294967295))∧1≤y.f2∧y.f2≤6
theorem cmpV_eq (x y e f:Int):spec_WideCmp.f x y e f=some (cmpV x y e f):=by
  unfold spec_WideCmp.f spec_l04Cmp.f cmpV
  repeat' split
  all_goals simp_all
  all_goals (repeat' split)
  all_goals first|rfl|omega|simp_all
theorem cH_eq {c:S118} (h:CR c) {a b:Int} {w:List S105} (hc:CallR a b w):Evt (fun k=>spec_CondHolds.f k c.f0 c.f1.f0 c.f1.f1 c.f2 c.f3.f0 c.f3.f1 a b w) (cH c w):=by
  obtain⟨h1,h2,h3,h4⟩:=hc
  have hcl:=callT a b w h1 h2 h3 h4
  have hlt:c.f0.toNat<w.length:=by have:=h.1;omega
  have e0:rd_T105 w c.f0=w[c.f0.toNat]:=by
    have:=nrd_T105 w c.f0.toNat hlt
    rwa [show((c.f0.toNat:Nat):Int)=c.f0 by have:=h.1;omega]at this
  have hw:=h4 w[c.f0.toNat] (List.getElem_mem hlt)
  refine⟨6,fun k hk=>?_⟩
  obtain⟨k,rfl⟩ : ∃ m,k=m+1:=⟨k - 1,by omega⟩
  have hcd:spec_CondOk.f c.f0 c.f1.f0 c.f1.f1 c.f2 c.f3.f0 c.f3.f1=some true:=by
    obtain⟨r1,r2,r3,r4⟩:=h
    simp only[spec_CondOk.f,inS,wideS,Option.bind_some,decide_eq_true_eq,if_pos r1,if_pos r2,if_pos r3]
    rw[decide_eq_true r4]
  have hand:spec_WideAnd.f (rd_T105 w c.f0).f0 (rd_T105 w c.f0).f1 c.f1.f0 c.f1.f1=some (Go.bits .and .i64 (rd_T105 w c.f0).f0 c.f1.f0,Go.bits .and .i64 (rd_T105 w c.f0).f1 c.f1.f1):=by
    simp only[spec_WideAnd.f,wideS,Option.bind_some,decide_eq_true_eq,e0,if_pos hw,if_pos h.2.1]
  simp only[spec_CondHolds.f,hcd,hcl (k+1) (by omega),Option.bind_some,if_true,Bool.not_true,spec_CondHolds.j0,Bool.false_eq_true,if_false]
  rw[if_pos h.1.1,if_pos (by have:=h.1;omega),hand]
  simp only[Option.bind_some,cmpV_eq]
  unfold cH holdV
  repeat' split
  all_goals rfl
/-- The lines of a condition go to yes just when it holds. -/
theorem cond_run {L:List S86} (hR:RL L) {a b:Int} {w:List S105} (hc:CallR a b w) {c:S118} (h:CR c) {s y n:ByteArray} {i:Nat} (hF:Fr L i (cLines c.f0 c.f1.f0 c.f1.f1 c.f2 c.f3.f0 c.f3.f1 s y n)) {p q:Nat} (hp:At L (i+(cLines c.f0 c.f1.f0 c.f1.f1 c.f2 c.f3.f0 c.f3.f1 s y n).length - 1) p y) (hq:At L (i+(cLines c.f0 c.f1.f0 c.f1.f1 c.f2 c.f3.f0 c.f3.f1 s y n).length - 1) q n) {v:Int}
    (hT: ∀ g,Ends L a b w (if cH c w=true then p else q) g v) (g:Int):Ends L a b w i g v:=by
  have hin:(0≤c.f0∧c.f0≤2)∧((0≤c.f1.f0∧c.f1.f0≤4294967295)∧(0≤c.f1.f1∧c.f1.f1≤4294967295))∧((0≤c.f3.f0∧c.f3.f0≤4294967295)∧(0≤c.f3.f1∧c.f3.f1≤4294967295))∧1≤c.f2∧c.f2≤6:=h
  unfold cLines at hF hp hq
  rw[if_pos hin]at hF hp hq
  have hd:=h.2.2.2
  have hd':c.f2=1∨c.f2=2∨c.f2=3∨c.f2=4∨c.f2=5∨c.f2=6:=by omega
  have swap: ∀ u:Bool,(!cH c w)=u→∀ g,Ends L a b w (if u=true then q else p) g v:=fun u hu g=>by
    have:=hT g
    rw[← hu]
    cases hh:cH c w
    · rw[hh]at this
      simpa using this
    · rw[hh]at this
      simpa using this
  rcases hd' with hd|hd|hd|hd|hd|hd
  · rw[hd]at hF hp hq
    refine same_run hR hc h.1 hF hp hq rfl ?_ g
    rw[show decide (Go.bits .and .i64 (rd_T105 w c.f0).f0 c.f1.f0=c.f3.f0∧Go.bits .and .i64 (rd_T105 w c.f0).f1 c.f1.f1=c.f3.f1)=cH c w from ?_]
    · exact hT
    · unfold cH holdV cmpV
      rw[hd,if_pos rfl,Bool.eq_iff_iff]
      simp only[decide_eq_true_eq,beq_iff_eq]
      repeat' split
      all_goals omega
  · rw[hd]at hF hp hq
    refine same_run hR hc h.1 hF hq hp rfl (swap _ ?_) g
    unfold cH holdV cmpV
    rw[hd,if_neg (by decide),if_pos rfl,Bool.eq_iff_iff]
    simp only[decide_eq_true_eq,bne_iff_ne,Bool.not_eq_true',bne_eq_false_iff_eq]
    repeat' split
    all_goals omega
  · rw[hd]at hF hp hq
    refine above_run hR hc h.1 (.inr rfl) hF hq hp rfl (swap _ ?_) g
    unfold cH holdV cmpV
    rw[hd,if_neg (by decide),if_neg (by decide),if_pos rfl,Bool.eq_iff_iff]
    simp only[decide_eq_true_eq,Bool.not_eq_true',decide_eq_false_iff_not,true_and]
    repeat' split
    all_goals omega
  · rw[hd]at hF hp hq
    refine above_run hR hc h.1 (.inl rfl) hF hq hp rfl (swap _ ?_) g
    unfold cH holdV cmpV
    rw[hd,if_neg (by decide),if_neg (by decide),if_neg (by decide),if_pos rfl,Bool.eq_iff_iff]
    simp only[decide_eq_true_eq,Bool.not_eq_true',decide_eq_false_iff_not]
    repeat' split
    all_goals omega
  · rw[hd]at hF hp hq
    refine above_run hR hc h.1 (.inl rfl) hF hp hq rfl ?_ g
    rw[show decide (Go.bits .and .i64 (rd_T105 w c.f0).f0 c.f1.f0>c.f3.f0∨(Go.bits .and .i64 (rd_T105 w c.f0).f0 c.f1.f0=c.f3.f0∧(Go.bits .and .i64 (rd_T105 w c.f0).f1 c.f1.f1>c.f3.f1∨((4:Int)=5∧Go.bits .and .i64 (rd_T105 w c.f0).f1 c.f1.f1=c.f3.f1))))=cH c w from ?_]
    · exact hT
    · unfold cH holdV cmpV
      rw[hd,if_neg (by decide),if_neg (by decide),if_neg (by decide),if_neg (by decide),if_pos rfl,Bool.eq_iff_iff]
      simp only[decide_eq_true_eq]
      repeat' split
      all_goals omega
  · rw[hd]at hF hp hq
    refine above_run hR hc h.1 (.inr rfl) hF hp hq rfl ?_ g
    rw[show decide (Go.bits .and .i64 (rd_T105 w c.f0).f0 c.f1.f0>c.f3.f0∨(Go.bits .and .i64 (rd_T105 w c.f0).f0 c.f1.f0=c.f3.f0∧(Go.bits .and .i64 (rd_T105 w c.f0).f1 c.f1.f1>c.f3.f1∨((5:Int)=5∧Go.bits .and .i64 (rd_T105 w c.f0).f1 c.f1.f1=c.f3.f1))))=cH c w from ?_]
    · exact hT
    · unfold cH holdV cmpV
      rw[hd,if_neg (by decide),if_neg (by decide),if_neg (by decide),if_neg (by decide),if_neg (by decide),Bool.eq_iff_iff]
      simp only[decide_eq_true_eq,true_and]
      repeat' split
      all_goals omega
theorem figI (i:Nat) (hi:i<10):Evt (fun k=>impl_Decimal.f k (i:Int)) (tN i):=by
  by_cases h:(i:Int)=0
  · refine .const fun k=>?_
    simp only[impl_Decimal.f]
    rw[if_pos h,show i=0 by omega]
    rfl
  · refine⟨2,fun k hk=>?_⟩
    obtain⟨k,rfl⟩ : ∃ m,k=m+2:=⟨k - 2,by omega⟩
    have em:Int.tmod (i:Int) 10=i:=by rw[Int.tmod_eq_emod_of_nonneg (by omega)];omega
    have ed:wrap64 (Int.tdiv (i:Int) 10)=0:=by rw[Int.tdiv_eq_ediv_of_nonneg (by omega),w64 (by omega) (by omega)];omega
    have ex:mx (i:Int) (wrap64 (-(i:Int)))=i:=by rw[w64 (by omega) (by omega)];unfold mx;split <;> omega
    have e1:wrap64 ((i:Int)+1)=i+1:=w64 (by omega) (by omega)
    have hf:=fig (i:Int) (by omega) (by omega)
    have hs:(strOfNums [(48+(i:Int)) % 256] ++ (⟨#[]⟩ :ByteArray))=strOfNums [(48+(i:Int)) % 256]:=by rw[show(⟨#[]⟩ :ByteArray)=ByteArray.empty from rfl,ByteArray.append_empty]
    have hz:(strOfNums [(48+(i:Int)) % 256]).size=1:=rfl
    have hz0:(⟨#[]⟩ :ByteArray).size=0:=rfl
    simp only[impl_Decimal.f,impl_Decimal.l0,em,ex,e1,hf,hs,ed,if_neg h]
    rw[if_pos (by omega),if_pos (by omega),if_pos (by omega),if_pos (by omega),if_pos trivial,if_neg (by omega)]
    rfl
theorem cLines_pos {c:S118} (h:CR c) (s y n:ByteArray):7≤(cLines c.f0 c.f1.f0 c.f1.f1 c.f2 c.f3.f0 c.f3.f1 s y n).length:=by
  have hin:(0≤c.f0∧c.f0≤2)∧((0≤c.f1.f0∧c.f1.f0≤4294967295)∧(0≤c.f1.f1∧c.f1.f1≤4294967295))∧((0≤c.f3.f0∧c.f3.f0≤4294967295)∧(0≤c.f3.f1∧c.f3.f1≤4294967295))∧1≤c.f2∧c.f2≤6:=h
  unfold cLines
  rw[if_pos hin]
  repeat' split
  all_goals simp[cSame,cAbove]
/-- The lines of conditions, from a number on. -/
def rlF (s n:ByteArray):List S118→Nat→List S86
  | [],_=>[]
  | c :: l,j=>cLines c.f0 c.f1.f0 c.f1.f1 c.f2 c.f3.f0 c.f3.f1 (s ++ tN j) ((s ++ (⟨#[110]⟩ :ByteArray)) ++ tN j) n ++ (lp ((s ++ (⟨#[110]⟩ :ByteArray)) ++ tN j) :: rlF s n l (j+1))
theorem rlF_len (s n:ByteArray): ∀ (l:List S118) (j:Nat),(rlF s n l j).length≤10*l.length
  | [],_=>by simp[rlF]
  | c :: l,j=>by
    have h1:=cLines_len c.f0 c.f1.f0 c.f1.f1 c.f2 c.f3.f0 c.f3.f1 (s ++ tN j) ((s ++ (⟨#[110]⟩ :ByteArray)) ++ tN j) n
    have h2:=rlF_len s n l (j+1)
    simp only[rlF,List.length_append,List.length_cons]
    omega
theorem At.snoc {L F:List S86} {i:Nat} {x:ByteArray} {G:List S86} (h:Fr L i (F ++ (lp x :: G))) (hF:1≤F.length):At L (i+F.length - 1) (i+F.length) x:=by
  obtain⟨h1,h2⟩:=h.right.get 0 (by simp)
  exact⟨by omega,h1,h2⟩
/-- The lines of a rule come to its end just when its conditions hold. -/
theorem rule_run {L:List S86} (hR:RL L) {a b:Int} {w:List S105} (hc:CallR a b w) {s n:ByteArray} {v0 vq:Int} : ∀ (l:List S118) (j i:Nat),(∀ c ∈ l,CR c)→Fr L i (rlF s n l j ++ [lw 8 v0])→∀ q,At L (i+(rlF s n l j).length) q n→(∀ g,Ends L a b w q g vq)→∀ g,Ends L a b w i g (if l.all (fun c=>cH c w)=true then v0 else vq)
  | [],j,i,_,hF,q,hq,hT,g=>by
    obtain⟨h1,h2⟩:=hF.get 0 (by simp[rlF])
    exact e_ret v0 h1 h2
  | c :: l,j,i,hl,hF,q,hq,hT,g=>by
    have hc1:=hl c List.mem_cons_self
    have hpos:=cLines_pos hc1 (s ++ tN j) ((s ++ (⟨#[110]⟩ :ByteArray)) ++ tN j) n
    simp only[rlF,List.append_assoc,List.cons_append]at hF
    simp only[rlF,List.length_append,List.length_cons]at hq
    have ha:=At.snoc hF (by omega)
    have hF1:=hF.left
    have hF2:=hF.right.tail
    refine cond_run hR hc hc1 hF1 ha (hq.le (by omega)) (fun g=>?_) g
    cases hh:cH c w with
    | true=>
      rw[if_pos rfl]
      have:=rule_run hR hc l (j+1) _ (fun x hx=>hl x (List.mem_cons_of_mem _ hx)) hF2 q (hq.le (by omega)) hT g
      rw[show(c :: l).all (fun c=>cH c w)=l.all (fun c=>cH c w) by simp[hh]]
      obtain⟨h1,h2⟩:=ha.2
      exact e_place _ h1 h2 this
    | false=>
      rw[if_neg (by decide),show(c :: l).all (fun c=>cH c w)=false by simp[hh],if_neg (by decide)]
      exact hT g
theorem rl_eq (x:List Int) (l:List S118) (a b:Int) (s n:ByteArray) (hn:l.length≤9) (hs:s.size≤1000000000000000000) {v0:Int} (hv:spec_ResultOf.f a b=some v0):Evt (fun k=>impl_RuleLines.f k x l a b s n) (rlF s n l 0 ++ [lw 8 v0]):=by
  have key:=down (T:=fun i=> ∀ o:List S86,o.length≤10*i→Evt (fun k=>impl_RuleLines.l0 k s n o l (l.length:Int) (i:Int) x l a b) (o ++ (rlF s n (l.drop i) i ++ [lw 8 v0]))) (n:=l.length) ?_ ?_ l.length 0 (by omega) [] (by simp)
  · exact key
  · intro o ho
    refine .succ (.const fun k=>?_)
    simp only[impl_RuleLines.l0,impl_word.f,resI,hv,Option.bind_some]
    rw[if_neg (by omega),if_pos (by omega),List.drop_length]
    rfl
  · intro i hi ih o ho
    obtain⟨K1,d1⟩:=figI i (by omega)
    have hL:=cLines_len l[i].f0 l[i].f1.f0 l[i].f1.f1 l[i].f2 l[i].f3.f0 l[i].f3.f1 (s ++ tN i) ((s ++ (⟨#[110]⟩ :ByteArray)) ++ tN i) n
    have t1:(tN i).size=1:=rfl
    have hz:(s ++ tN i).size≤9000000000000000000:=by rw[ByteArray.size_append];omega
    have hI:=fun k=>linesI k l[i].f0 l[i].f1.f0 l[i].f1.f1 l[i].f2 l[i].f3.f0 l[i].f3.f1 (s ++ tN i) ((s ++ (⟨#[110]⟩ :ByteArray)) ++ tN i) n hz
    have z1:(s ++ (⟨#[110]⟩ :ByteArray)).size=s.size+1:=ByteArray.size_append
    rw[List.drop_eq_getElem_cons hi]
    simp only[rlF,List.append_assoc,List.cons_append]
    generalize cLines l[i].f0 l[i].f1.f0 l[i].f1.f1 l[i].f2 l[i].f3.f0 l[i].f3.f1 (s ++ tN i) ((s ++ (⟨#[110]⟩ :ByteArray)) ++ tN i) n=C at hL hI
    obtain⟨K2,h2⟩:=ih (o ++ C ++ [lp ((s ++ (⟨#[110]⟩ :ByteArray)) ++ tN i)]) (by simp;omega)
    dsimp only at d1 h2
    refine .succ ⟨K1+K2+1,fun k hk=>?_⟩
    simp only[impl_RuleLines.l0]
    obtain⟨k,rfl⟩ : ∃ m,k=m+1:=⟨k - 1,by omega⟩
    rw[if_pos (by omega),if_pos (by omega),if_pos (by omega),if_pos (by omega),d1 (k+1) (by omega)]
    simp only[Option.bind_some]
    rw[if_pos (by rw[z1];omega),if_pos (by omega),nrd_T118 l i hi,hI]
    simp only[Option.bind_some,impl_place.f]
    rw[if_pos (by omega)]
    rw[if_pos (by rw[List.length_append];omega),wsucc hi (by omega)]
    refine(h2 (k+1) (by omega)).trans ?_
    simp
/-! Right lines. -/
theorem tl_app (s t:ByteArray):(s ++ t).toList=s.toList ++ t.toList:=by
  simp only[ByteArray.toList_eq,ByteArray.data_append,Array.toList_append]
theorem To.here {post:List S86} {s:ByteArray} (h:lp s ∈ post):To post s:=⟨lp s,h,rfl,rfl⟩
/-- No place's name begins so. -/
def Fre (pr:List S86) (s:ByteArray):Prop:= ∀ z ∈ pr,z.f1.f0=0→ ¬ (s.toList <+:z.f0.toList)
/-- No place's name is one of those to come. -/
def FreJ (pr:List S86) (s:ByteArray) (j:Nat):Prop:= ∀ z ∈ pr,z.f1.f0=0→∀ m,j≤m→m<10→ ¬ ((s ++ tN m).toList <+:z.f0.toList)∧z.f0.toList≠((s ++ (⟨#[110]⟩ :ByteArray)) ++ tN m).toList
theorem Fre.j {pr:List S86} {s:ByteArray} (h:Fre pr s) (j:Nat):FreJ pr s j:=fun z hz h0 m _ _=>⟨fun hp=>h z hz h0 (by rw[tl_app]at hp;exact(List.prefix_append _ _).trans hp),fun e=>h z hz h0 (by rw[e,tl_app,tl_app,List.append_assoc];exact List.prefix_append _ _)⟩
theorem ruleT (x:List Int) (l:List S118) (a b:Int) (h:RuleR x l a b):Evt (fun k=>impl_ruleOk.f k x l a b) true:=by
  obtain⟨⟨hx1,hx2⟩,hl,hx4,hl3,ha,hb⟩:=h
  have one: ∀ (d i:Nat),i+d=l.length→Evt (fun k=>impl_ruleOk.l1 k l (l.length:Int) (i:Int) x l a b) true:=by
    intro d
    induction d with
    | zero=>
      intro i hi
      refine .succ (.const fun k=>?_)
      simp only[impl_ruleOk.l1]
      rw[if_neg (by omega),if_pos (by omega),if_pos (by omega)]
      simp only[impl_actionOk.f,inI,Option.bind_some]
      rw[decide_eq_true ha,if_pos rfl,decide_eq_true hb]
      rfl
    | succ d ih=>
      intro i hi
      have hlt:i<l.length:=by omega
      have hc:=hl l[i] (List.getElem_mem hlt)
      unfold CondR at hc
      obtain⟨K,hK⟩:=ih (i+1) (by omega)
      refine .succ ⟨K,fun k hk=>?_⟩
      have q:=hK k hk
      simp only[impl_ruleOk.l1]
      rw[if_pos (by omega),if_pos (by omega),if_pos (by omega),nrd_T118 l i hlt,condI,wsucc hlt (by omega)]
      simp only[Option.bind_some,decide_eq_true_eq]
      rw[if_pos hc]
      exact q
  have two: ∀ (d i:Nat),i+d=x.length→Evt (fun k=>impl_ruleOk.l0 k x (x.length:Int) (i:Int) x l a b) true:=by
    intro d
    induction d with
    | zero=>
      intro i hi
      obtain⟨K,hK⟩:=one l.length 0 (by omega)
      refine .succ ⟨K,fun k hk=>?_⟩
      have q:=hK k hk
      simp only[impl_ruleOk.l0]
      rw[if_neg (by omega)]
      exact q
    | succ d ih=>
      intro i hi
      have hlt:i<x.length:=by omega
      obtain⟨K,hK⟩:=ih (i+1) (by omega)
      have hc:=hx1 i hlt
      refine .succ ⟨K,fun k hk=>?_⟩
      have q:=hK k hk
      simp only[impl_ruleOk.l0]
      rw[if_pos (by omega),if_pos (by omega),if_pos (by omega),nrd x i hlt,halfI,wsucc hlt (by omega)]
      simp only[Option.bind_some]
      rw[decide_eq_true hc,if_pos rfl]
      by_cases h0:(i:Int)>0
      · obtain⟨j,rfl⟩ : ∃ j,i=j+1:=⟨i - 1,by omega⟩
        have ew:wrap64 (((j+1:Nat):Int) - 1)=(j:Int):=by rw[w64 (by omega) (by omega)];omega
        have hj:=hx2 j hlt
        rw[if_pos h0,ew,if_pos (by omega),if_pos (by omega),nrd x j (by omega),if_neg (by omega)]
        exact q
      · rw[if_neg h0]
        exact q
  exact two x.length 0 (by omega)
theorem polT (a b c:Int) (l:List S78) (ha:0≤a∧a≤4294967295) (hb:0≤b∧b≤5) (hc:0≤c∧c≤65535) (hl:l.length≤10) (hr: ∀ y ∈ l,RuleR y.f0 y.f1 y.f2 y.f3):Evt (fun k=>impl_PolicyOk.f k a b c l) true:=by
  have key: ∀ (d i:Nat),i+d=l.length→Evt (fun k=>impl_PolicyOk.l0 k l (l.length:Int) (i:Int) a b c l) true:=by
    intro d
    induction d with
    | zero=>
      intro i hi
      refine .succ (.const fun k=>?_)
      simp only[impl_PolicyOk.l0]
      rw[if_neg (by omega)]
      simp only[impl_actionOk.f,inI,halfI,Option.bind_some]
      rw[decide_eq_true ha,if_pos rfl,decide_eq_true hb,if_pos rfl,decide_eq_true hc]
      simp only[Option.bind_some,if_true,decide_eq_true (show(l.length:Int)≤10 by omega)]
    | succ d ih=>
      intro i hi
      have hlt:i<l.length:=by omega
      obtain⟨K1,h1⟩:=ruleT l[i].f0 l[i].f1 l[i].f2 l[i].f3 (hr l[i] (List.getElem_mem hlt))
      obtain⟨K,hK⟩:=ih (i+1) (by omega)
      refine .succ ⟨K+K1,fun k hk=>?_⟩
      have q:=hK k (by omega)
      have q1:=h1 k (by omega)
      dsimp only at q q1
      simp only[impl_PolicyOk.l0]
      rw[if_pos (by omega),if_pos (by omega),if_pos (by omega),nrd_T78 l i hlt,wsucc hlt (by omega),q1]
      simp only[Option.bind_some,if_true]
      exact q
  exact key l.length 0 (by omega)
/-- What ResultOf tells. -/
def resV (a b:Int):Int:=(spec_ResultOf.f a b).getD 0
theorem resV_eq (a b:Int):spec_ResultOf.f a b=some (resV a b):=by
  obtain⟨v,hv⟩:=res a b
  rw[resV,hv]
  rfl
/-- The name that a rule of a chain bears. -/
def cN (s:ByteArray) (i:Nat):ByteArray:=s ++ strOfNums [(wrap64 (97+(i:Int))) % 256]
theorem cN_size (s:ByteArray) (i:Nat):(cN s i).size=s.size+1:=by
  have z1:(strOfNums [(wrap64 (97+(i:Int))) % 256]).size=1:=rfl
  rw[cN,ByteArray.size_append,z1]
def cZ (s:ByteArray) (i:Nat):ByteArray:=cN s i ++ (⟨#[122]⟩ :ByteArray)
/-- A rule stands in a chain: of a number, or of all that are named nowhere. -/
def inC (n:Int) (t:Bool) (y:S78):Bool:=decide (y.f0.length=0) || (!t && decide (n ∈ y.f0))
/-- The lines of a rule in a chain. -/
def crF (s:ByteArray) (y:S78) (i:Nat):List S86:=rlF (cN s i) (cZ s i) y.f1 0 ++ (lw 8 (resV y.f2 y.f3) :: [lp (cZ s i)])
def clF (n:Int) (t:Bool) (s:ByteArray):List S78→Nat→List S86
  | [],_=>[]
  | y :: l,i=>(if inC n t y=true then crF s y i else []) ++ clF n t s l (i+1)
theorem crF_len (s:ByteArray) (y:S78) (i:Nat):(crF s y i).length≤10*y.f1.length+2:=by
  have:=rlF_len (cN s i) (cZ s i) y.f1 0
  simp only[crF,List.length_append,List.length_cons,List.length_nil]
  omega
theorem clF_len (n:Int) (t:Bool) (s:ByteArray): ∀ (l:List S78) (i:Nat),(∀ y ∈ l,y.f1.length≤9)→(clF n t s l i).length≤92*l.length
  | [],_,_=>by simp[clF]
  | y :: l,i,h=>by
    have h1:=clF_len n t s l (i+1) (fun z hz=>h z (List.mem_cons_of_mem _ hz))
    have h2:=crF_len s y i
    have h3:=h y List.mem_cons_self
    simp only[clF,List.length_append,List.length_cons]
    split
    · omega
    · simp only[List.length_nil];omega
/-- A chain is these lines. -/
theorem chain_eq (a b c n:Int) (R:List S78) (t:Bool) (s:ByteArray) (hR:R.length≤26) (hb: ∀ y ∈ R,y.f0.length≤1048576∧y.f1.length≤9) (hs:s.size≤1000000000):Evt (fun k=>impl_ChainLines.f k a b c R n t s) (clF n t s R 0 ++ [lw 8 (resV b c)]):=by
  have key:=down (T:=fun i=> ∀ o:List S86,o.length≤92*i→Evt (fun k=>impl_ChainLines.l0 k n t s o R (R.length:Int) (i:Int) a b c R) (o ++ (clF n t s (R.drop i) i ++ [lw 8 (resV b c)]))) (n:=R.length) ?_ ?_ R.length 0 (by omega) [] (by simp)
  · exact key
  · intro o ho
    refine .succ (.const fun k=>?_)
    simp only[impl_ChainLines.l0,impl_word.f,resI,resV_eq,Option.bind_some]
    rw[if_neg (by omega),if_pos (by omega),List.drop_length]
    rfl
  · intro i hi ih o ho
    obtain⟨b0,b1⟩:=hb R[i] (List.getElem_mem hi)
    have z1:(strOfNums [(wrap64 (97+(i:Int))) % 256]).size=1:=rfl
    have z2:(s ++ strOfNums [(wrap64 (97+(i:Int))) % 256]).size=s.size+1:=by rw[ByteArray.size_append,z1]
    rw[List.drop_eq_getElem_cons hi]
    simp only[clF]
    have hin: ∀ q:Int,Evt (fun k=>spec_l09In.f k R[i].f0 n) (decide (q≥0))→decide (q≥0)=decide (n ∈ R[i].f0):=fun q h=>h.uniq (inNums R[i].f0 n (by omega))
    obtain⟨q,hq1,K6,n2⟩:=nums_in R[i].f0 n (by omega)
    have hq:=hin q hq1
    clear hin hq1
    have no:inC n t R[i]=false→Evt (fun k=>impl_ChainLines.j1 k n t s o (i:Int) R (R.length:Int) (i:Int) true a b c R R[i].f0 R[i].f1 R[i].f2 R[i].f3) (o ++ ((if inC n t R[i]=true then crF s R[i] i else []) ++ clF n t s (R.drop (i+1)) (i+1) ++ [lw 8 (resV b c)])):=fun h=>by
      obtain⟨K,g⟩:=ih o (by omega)
      refine .succ ⟨K,fun k hk=>?_⟩
      simp only[impl_ChainLines.j1,if_true]
      rw[wsucc hi (by omega),if_neg (by rw[h];decide),List.nil_append]
      exact g k hk
    have yes:inC n t R[i]=true→Evt (fun k=>impl_ChainLines.j1 k n t s o (i:Int) R (R.length:Int) (i:Int) false a b c R R[i].f0 R[i].f1 R[i].f2 R[i].f3) (o ++ ((if inC n t R[i]=true then crF s R[i] i else []) ++ clF n t s (R.drop (i+1)) (i+1) ++ [lw 8 (resV b c)])):=fun h=>by
      have hl:=rlF_len (cN s i) (cZ s i) R[i].f1 0
      obtain⟨K1,h1⟩:=rl_eq R[i].f0 R[i].f1 R[i].f2 R[i].f3 (cN s i) (cZ s i) b1 (by rw[cN_size];omega) (resV_eq R[i].f2 R[i].f3)
      obtain⟨K,g⟩:=ih (o ++ crF s R[i] i) (by rw[List.length_append];have:=crF_len s R[i] i;omega)
      dsimp only at h1 g
      refine .succ ⟨K+K1,fun k hk=>?_⟩
      simp only[impl_ChainLines.j1,Option.bind_some,Bool.false_eq_true,if_false]
      rw[if_pos (by omega),if_pos (by omega)]
      have q:=h1 k (by omega)
      unfold cZ cN at q
      rw[q]
      simp only[Option.bind_some,impl_place.f]
      have hl':(rlF (s ++ strOfNums [(wrap64 (97+(i:Int))) % 256]) (s ++ strOfNums [(wrap64 (97+(i:Int))) % 256] ++ (⟨#[122]⟩ :ByteArray)) R[i].f1 0).length≤10*R[i].f1.length:=hl
      rw[if_pos (by rw[List.length_append,List.length_singleton];omega),if_pos (by rw[List.length_append,List.length_append,List.length_singleton];omega),wsucc hi (by omega),if_pos h]
      have g1:=g k (by omega)
      have e:((o ++ (rlF (s ++ strOfNums [(wrap64 (97+(i:Int))) % 256]) (s ++ strOfNums [(wrap64 (97+(i:Int))) % 256] ++ (⟨#[122]⟩ :ByteArray)) R[i].f1 0 ++ [lw 8 (resV R[i].f2 R[i].f3)])) ++ [(⟨s ++ strOfNums [(wrap64 (97+(i:Int))) % 256] ++ (⟨#[122]⟩ :ByteArray),⟨0,0,0,0⟩,⟨#[]⟩,⟨#[]⟩⟩ :S86)])=o ++ crF s R[i] i:=by simp[crF,cZ,cN,lp]
      rw[e]
      refine g1.trans ?_
      simp
    by_cases h0:(R[i].f0.length:Int)>0
    · cases t with
      | true=>
        obtain⟨K,g⟩:=no (by rw[inC,decide_eq_false (show ¬ R[i].f0.length=0 by omega)];rfl)
        refine .succ ⟨K,fun k hk=>?_⟩
        simp only[impl_ChainLines.l0]
        rw[if_pos (by omega),if_pos (by omega),if_pos (by omega),if_neg (by omega),nrd_T78 R i hi,if_pos h0]
        simp only[if_true]
        exact g k hk
      | false=>
        by_cases hm:n ∈ R[i].f0
        · obtain⟨K,g⟩:=yes (by simp[inC,hm])
          rw[decide_eq_true hm]at hq
          refine .succ ⟨K+K6,fun k hk=>?_⟩
          simp only[impl_ChainLines.l0]
          rw[if_pos (by omega),if_pos (by omega),if_pos (by omega),if_neg (by omega),nrd_T78 R i hi,if_pos h0,if_neg (by simp)]
          simp only[slices_Contains_int_int.f,n2 k (by omega),Option.bind_some,hq,Bool.not_true]
          exact g k (by omega)
        · obtain⟨K,g⟩:=no (by rw[inC,decide_eq_false (show ¬ R[i].f0.length=0 by omega),decide_eq_false hm];rfl)
          rw[decide_eq_false hm]at hq
          refine .succ ⟨K+K6,fun k hk=>?_⟩
          simp only[impl_ChainLines.l0]
          rw[if_pos (by omega),if_pos (by omega),if_pos (by omega),if_neg (by omega),nrd_T78 R i hi,if_pos h0,if_neg (by simp)]
          simp only[slices_Contains_int_int.f,n2 k (by omega),Option.bind_some,hq,Bool.not_false]
          exact g k (by omega)
    · obtain⟨K,g⟩:=yes (by rw[inC,decide_eq_true (show R[i].f0.length=0 by omega)];rfl)
      refine .succ ⟨K,fun k hk=>?_⟩
      simp only[impl_ChainLines.l0]
      rw[if_pos (by omega),if_pos (by omega),if_pos (by omega),if_neg (by omega),nrd_T78 R i hi,if_neg h0]
      exact g k hk
/-- The lines of a chain with its end. -/
def chF (b c:Int) (R:List S78) (n:Int) (t:Bool) (s:ByteArray):List S86:=clF n t s R 0 ++ [lw 8 (resV b c)]
/-- The lines of a tree over numbers. -/
def tlF (b c:Int) (R:List S78):Nat→List Int→ByteArray→List S86
  | 0,_,s=>chF b c R 0 true s
  | m+1,l,s=>
    if l.length=0 then chF b c R 0 true s
    else if l.length=1 then(([la 3 (rd l 0) (s ++ (⟨#[121]⟩ :ByteArray)) (s ++ (⟨#[120]⟩ :ByteArray)),lp (s ++ (⟨#[121]⟩ :ByteArray))] ++ chF b c R (rd l 0) false (s ++ (⟨#[121]⟩ :ByteArray))) ++ [lp (s ++ (⟨#[120]⟩ :ByteArray))]) ++ chF b c R 0 true (s ++ (⟨#[120]⟩ :ByteArray))
    else(([la 5 (rd l ((l.length / 2:Nat):Int)) (s ++ (⟨#[104]⟩ :ByteArray)) (s ++ (⟨#[108]⟩ :ByteArray)),lp (s ++ (⟨#[108]⟩ :ByteArray))] ++ tlF b c R m (l.take (l.length / 2)) (s ++ (⟨#[108]⟩ :ByteArray))) ++ [lp (s ++ (⟨#[104]⟩ :ByteArray))]) ++ tlF b c R m (l.drop (l.length / 2)) (s ++ (⟨#[104]⟩ :ByteArray))
section
variable (a b c:Int) (R:List S78) (hR:R.length≤10) (hb: ∀ y ∈ R,y.f0.length≤1048576∧y.f1.length≤9)
include hR hb
theorem chF_len (n:Int) (t:Bool) (s:ByteArray):(chF b c R n t s).length≤921:=by
  have:=clF_len n t s R 0 (fun y hy=>(hb y hy).2)
  simp only[chF,List.length_append,List.length_singleton]
  omega
theorem tlF_len: ∀ (m:Nat) (l:List Int) (s:ByteArray),l.length≤m→(tlF b c R m l s).length+3≤1848*l.length∨l.length=0∧(tlF b c R m l s).length≤921
  | 0,l,s,h=> .inr ⟨by omega,by rw[tlF];exact chF_len b c R hR hb 0 true s⟩
  | m+1,l,s,h=>by
    rw[tlF]
    split
    · exact .inr ⟨by omega,chF_len b c R hR hb 0 true s⟩
    · split
      · have h1:=chF_len b c R hR hb (rd l 0) false (s ++ (⟨#[121]⟩ :ByteArray))
        have h2:=chF_len b c R hR hb 0 true (s ++ (⟨#[120]⟩ :ByteArray))
        refine .inl ?_
        simp only[List.length_append,List.length_cons,List.length_nil]
        omega
      · have hp:(l.take (l.length / 2)).length=l.length / 2:=by rw[List.length_take];omega
        have hq:(l.drop (l.length / 2)).length=l.length - l.length / 2:=List.length_drop
        have h1:=tlF_len m (l.take (l.length / 2)) (s ++ (⟨#[108]⟩ :ByteArray)) (by omega)
        have h2:=tlF_len m (l.drop (l.length / 2)) (s ++ (⟨#[104]⟩ :ByteArray)) (by omega)
        refine .inl ?_
        simp only[List.length_append,List.length_cons,List.length_nil]
        omega
theorem tree_eq: ∀ (m:Nat) (l:List Int) (s:ByteArray),l.length≤m→l.length≤1000000→s.size+l.length≤900000000→Evt (fun k=>impl_TreeLines.f k a b c R l s) (tlF b c R m l s):=by
  intro m
  have cE:=fun n t s hs=>chain_eq a b c n R t s (by omega) hb hs
  have cL:=chF_len b c R hR hb
  have tL:=tlF_len b c R hR hb
  induction m with
  | zero=>
    intro l s hl _ hs
    obtain⟨K,h⟩:=cE 0 true s (by omega)
    refine .succ ⟨K,fun k hk=>?_⟩
    have q:=h k hk
    dsimp only at q
    dsimp only
    rw[impl_TreeLines.f,if_pos (by omega),q]
    rfl
  | succ m ih=>
    intro l s hl hm hs
    by_cases h0:l.length=0
    · obtain⟨K,h⟩:=cE 0 true s (by omega)
      refine .succ ⟨K,fun k hk=>?_⟩
      have q:=h k hk
      dsimp only at q
      dsimp only
      rw[impl_TreeLines.f,if_pos (by omega),q,tlF,if_pos h0]
      rfl
    by_cases h1:l.length=1
    · have zy:(s ++ (⟨#[121]⟩ :ByteArray)).size=s.size+1:=by rw[ByteArray.size_append];rfl
      have zx:(s ++ (⟨#[120]⟩ :ByteArray)).size=s.size+1:=by rw[ByteArray.size_append];rfl
      have l1:=cL (rd l 0) false (s ++ (⟨#[121]⟩ :ByteArray))
      have l2:=cL 0 true (s ++ (⟨#[120]⟩ :ByteArray))
      obtain⟨K1,g1⟩ :Evt _ (chF b c R (rd l 0) false (s ++ (⟨#[121]⟩ :ByteArray))):=cE (rd l 0) false (s ++ (⟨#[121]⟩ :ByteArray)) (by omega)
      obtain⟨K2,g2⟩ :Evt _ (chF b c R 0 true (s ++ (⟨#[120]⟩ :ByteArray))):=cE 0 true (s ++ (⟨#[120]⟩ :ByteArray)) (by omega)
      dsimp only at g1 g2
      rw[tlF,if_neg h0,if_pos h1]
      generalize chF b c R (rd l 0) false (s ++ (⟨#[121]⟩ :ByteArray))=O1 at g1 l1 ⊢
      generalize chF b c R 0 true (s ++ (⟨#[120]⟩ :ByteArray))=O2 at g2 l2 ⊢
      clear ih cE cL tL
      refine .succ ⟨K1+K2,fun k hk=>?_⟩
      as_aux_lemma=>
        dsimp only
        rw[impl_TreeLines.f,if_neg (by omega),if_pos (by omega),if_pos (by omega),if_pos (by omega)]
        simp only[impl_ask.f,impl_place.f,Option.bind_some]
        rw[g1 k (by omega)]
        simp only[Option.bind_some]
        rw[if_pos (by simp only[List.length_cons,List.length_nil];omega),if_pos (by simp only[List.length_append,List.length_cons,List.length_nil];omega),g2 k (by omega)]
        simp only[Option.bind_some]
        rw[if_pos (by simp only[List.length_append,List.length_cons,List.length_nil];omega)]
        rfl
    · have zl:(s ++ (⟨#[108]⟩ :ByteArray)).size=s.size+1:=by rw[ByteArray.size_append];rfl
      have zh:(s ++ (⟨#[104]⟩ :ByteArray)).size=s.size+1:=by rw[ByteArray.size_append];rfl
      have e1:Aside0 (wrap64 ((l.length:Int) / 2)=((l.length / 2:Nat):Int)):=⟨by rw[w64 (by omega) (by omega)];omega⟩
      have hp:(l.take (l.length / 2)).length=l.length / 2:=by rw[List.length_take];omega
      have hq:(l.drop (l.length / 2)).length=l.length - l.length / 2:=List.length_drop
      have l1:=tL m (l.take (l.length / 2)) (s ++ (⟨#[108]⟩ :ByteArray)) (by omega)
      have l2:=tL m (l.drop (l.length / 2)) (s ++ (⟨#[104]⟩ :ByteArray)) (by omega)
      obtain⟨K1,g1⟩:=ih (l.take (l.length / 2)) (s ++ (⟨#[108]⟩ :ByteArray)) (by omega) (by omega) (by omega)
      obtain⟨K2,g2⟩:=ih (l.drop (l.length / 2)) (s ++ (⟨#[104]⟩ :ByteArray)) (by omega) (by omega) (by omega)
      dsimp only at g1 g2
      rw[tlF,if_neg h0,if_neg h1]
      generalize tlF b c R m (l.take (l.length / 2)) (s ++ (⟨#[108]⟩ :ByteArray))=O1 at g1 l1 ⊢
      generalize tlF b c R m (l.drop (l.length / 2)) (s ++ (⟨#[104]⟩ :ByteArray))=O2 at g2 l2 ⊢
      rw[hp]at l1
      rw[hq]at l2
      clear ih cE cL tL
      have b1:O1.length≤1848000000:=by omega
      have b2:O2.length≤1848000000:=by omega
      clear l1 l2
      refine .succ ⟨K1+K2,fun k hk=>?_⟩
      as_aux_lemma=>
        dsimp only
        rw[impl_TreeLines.f]
        simp only[impl_ask.f,impl_place.f,Option.bind_some,e1.out,Int.toNat_natCast]
        rw[if_neg (by omega),if_neg (by omega),if_pos (by omega),if_pos (by omega),if_pos (by omega),if_pos (by omega),g1 k (by omega)]
        simp only[Option.bind_some]
        rw[if_pos (by simp only[List.length_cons,List.length_nil];omega),if_pos (by simp only[List.length_append,List.length_cons,List.length_nil];omega),g2 k (by omega)]
        simp only[Option.bind_some]
        rw[if_pos (by simp only[List.length_append,List.length_cons,List.length_nil];omega)]
        rfl
/-- The lines of a policy. -/
theorem pol_eq (N:List Int) (hN:N.length≤1000000) (h:Evt (fun k=>impl_NumsOf.f k a b c R) N):Evt (fun k=>impl_PolicyLines.f k a b c R) ([lw 1 1,la 3 a (⟨#[112]⟩ :ByteArray) (⟨#[113]⟩ :ByteArray),lp (⟨#[113]⟩ :ByteArray),lw 8 0,lp (⟨#[112]⟩ :ByteArray),lw 1 0] ++ tlF b c R N.length N (⟨#[116]⟩ :ByteArray)):=by
  obtain⟨K1,h1⟩:=h
  obtain⟨K2,h2⟩:=tree_eq a b c R hR hb N.length N (⟨#[116]⟩ :ByteArray) (Nat.le_refl _) hN (by show 1+N.length≤_;omega)
  have hl:=tlF_len b c R hR hb N.length N (⟨#[116]⟩ :ByteArray) (Nat.le_refl _)
  dsimp only at h1 h2
  refine⟨K1+K2,fun k hk=>?_⟩
  dsimp only
  rw[impl_PolicyLines.f]
  simp only[impl_word.f,impl_ask.f,impl_place.f,Option.bind_some,h1 k (by omega),h2 k (by omega)]
  rw[if_pos (by simp only[List.length_cons,List.length_nil];omega)]
  rfl
end
/-! What the lines do. -/
/-- What the first rule of a chain that holds tells. -/
def decC (n:Int) (t:Bool) (w:List S105) (d:Int):List S78→Int
  | []=>d
  | y :: l=>if inC n t y=true∧y.f1.all (fun c=>cH c w)=true then resV y.f2 y.f3 else decC n t w d l
theorem chain_run {L:List S86} (hR:RL L) {a b:Int} {w:List S105} (hc:CallR a b w) {n d:Int} {t:Bool} {s:ByteArray} : ∀ (l:List S78) (j i:Nat),(∀ y ∈ l,∀ c ∈ y.f1,CR c)→Fr L i (clF n t s l j ++ [lw 8 d])→∀ g,Ends L a b w i g (decC n t w d l)
  | [],j,i,_,hF,g=>by
    obtain⟨h1,h2⟩:=hF.get 0 (by simp[clF])
    exact e_ret d h1 h2
  | y :: l,j,i,hl,hF,g=>by
    have hl2: ∀ y ∈ l,∀ c ∈ y.f1,CR c:=fun z hz=>hl z (List.mem_cons_of_mem _ hz)
    simp only[clF]at hF
    simp only[decC]
    by_cases h:inC n t y=true
    · rw[if_pos h]at hF
      simp only[crF,List.append_assoc,List.cons_append,List.nil_append]at hF
      have hF1:Fr L i (rlF (cN s j) (cZ s j) y.f1 0 ++ [lw 8 (resV y.f2 y.f3)]):=by
        have:rlF (cN s j) (cZ s j) y.f1 0 ++ lw 8 (resV y.f2 y.f3) :: lp (cZ s j) :: (clF n t s l (j+1) ++ [lw 8 d])=(rlF (cN s j) (cZ s j) y.f1 0 ++ [lw 8 (resV y.f2 y.f3)]) ++ (lp (cZ s j) :: (clF n t s l (j+1) ++ [lw 8 d])):=by simp
        rw[this]at hF
        exact hF.left
      have hF2:=hF.right.tail
      obtain⟨p1,p2⟩:=hF2.get 0 (by simp)
      have hq:At L (i+(rlF (cN s j) (cZ s j) y.f1 0).length) (i+(rlF (cN s j) (cZ s j) y.f1 0).length+1) (cZ s j):=⟨by omega,p1,p2⟩
      have:=rule_run hR hc (vq:=decC n t w d l) y.f1 0 i (hl y List.mem_cons_self) hF1 _ hq (fun g=>e_place _ p1 p2 (chain_run hR hc l (j+1) _ hl2 hF2.tail g)) g
      by_cases ha:y.f1.all (fun c=>cH c w)=true
      · rw[if_pos ha]at this
        rw[if_pos ⟨h,ha⟩]
        exact this
      · rw[if_neg ha]at this
        rw[if_neg (fun e=>ha e.2)]
        exact this
    · rw[if_neg h,List.nil_append]at hF
      rw[if_neg (fun e=>h e.1)]
      exact chain_run hR hc l (j+1) i hl2 hF g
/-- A number that no rule names is decided as all that are named nowhere. -/
theorem decC_any {n m:Int} {w:List S105} {d:Int} : ∀ l:List S78,(∀ y ∈ l,n ∉ y.f0)→decC m true w d l=decC n false w d l
  | [],_=>rfl
  | y :: l,h=>by
    have h1:=decC_any (n:=n) (m:=m) (w:=w) (d:=d) l (fun z hz=>h z (List.mem_cons_of_mem _ hz))
    have h2:inC m true y=inC n false y:=by simp[inC,h y List.mem_cons_self]
    simp only[decC,h1,h2]
theorem tree_run {L:List S86} (hR:RL L) {a b:Int} {w:List S105} (hc:CallR a b w) {d e:Int} {R:List S78} (hl: ∀ y ∈ R,∀ c ∈ y.f1,CR c): ∀ (m:Nat) (l:List Int) (s:ByteArray) (i:Nat),l.length≤m→l.Pairwise (· < ·)→Fr L i (tlF d e R m l s)→Ends L a b w i b (if b ∈ l then decC b false w (resV d e) R else decC 0 true w (resV d e) R):=by
  intro m
  induction m with
  | zero=>
    intro l s i h0 _ hF
    have:l= []:=List.length_eq_zero_iff.1 (by omega)
    subst this
    rw[if_neg (by simp)]
    exact chain_run hR hc R 0 i hl hF b
  | succ m ih=>
    intro l s i hm hs hF
    rw[tlF]at hF
    by_cases h0:l.length=0
    · rw[if_pos h0]at hF
      have:l= []:=List.length_eq_zero_iff.1 (by omega)
      subst this
      rw[if_neg (by simp)]
      exact chain_run hR hc R 0 i hl hF b
    rw[if_neg h0]at hF
    by_cases h1:l.length=1
    · rw[if_pos h1]at hF
      obtain⟨v,rfl⟩ : ∃ v,l= [v]:=List.length_eq_one_iff.1 h1
      have ev:rd [v] 0=v:=rfl
      rw[ev]at hF
      simp only[List.append_assoc,List.cons_append,List.nil_append]at hF
      obtain⟨k0,x0⟩:=hF.get 0 (by simp)
      obtain⟨k1,x1⟩:=hF.get 1 (by simp)
      have hF1:=hF.tail.tail.left
      have hF2:=hF.tail.tail.right
      obtain⟨k2,x2⟩:=hF2.get 0 (by simp)
      by_cases hv:b=v
      · subst hv
        refine e_ask hR 3 b (s ++ (⟨#[121]⟩ :ByteArray)) (s ++ (⟨#[120]⟩ :ByteArray)) k0 x0 (by omega) true (by simp[spec_l07Asks.f]) (i+1) (by omega) k1 (by rw[if_pos rfl];exact x1) ?_
        refine e_place _ k1 x1 ?_
        rw[if_pos (by simp)]
        exact chain_run hR hc R 0 (i+1+1) hl hF1 b
      · refine e_ask hR 3 v (s ++ (⟨#[121]⟩ :ByteArray)) (s ++ (⟨#[120]⟩ :ByteArray)) k0 x0 (by omega) false (by simp[spec_l07Asks.f,hv]) _ (by omega) k2 (by rw[if_neg (by decide)];exact x2) ?_
        refine e_place _ k2 x2 ?_
        rw[if_neg (by simp[hv])]
        exact chain_run hR hc R 0 _ hl hF2.tail b
    · rw[if_neg h1]at hF
      have hp:(l.take (l.length / 2)).length=l.length / 2:=by rw[List.length_take];omega
      have hq:(l.drop (l.length / 2)).length=l.length - l.length / 2:=List.length_drop
      have hlt:l.length / 2<l.length:=by omega
      have hsp:l.take (l.length / 2) ++ l.drop (l.length / 2)=l:=List.take_append_drop _ _
      have hs':=hs
      rw[← hsp,List.pairwise_append]at hs'
      obtain⟨s1,s2,s3⟩:=hs'
      have er:rd l ((l.length / 2:Nat):Int)=l[l.length / 2]:=nrd l _ hlt
      rw[er]at hF
      have hd:l.drop (l.length / 2)=l[l.length / 2] :: l.drop (l.length / 2+1):=List.drop_eq_getElem_cons hlt
      have lo: ∀ x ∈ l.take (l.length / 2),x<l[l.length / 2]:=fun x hx=>s3 x hx _ (by rw[hd];exact List.mem_cons_self)
      have hi: ∀ x ∈ l.drop (l.length / 2),l[l.length / 2]≤x:=fun x hx=>by
        rw[hd]at hx s2
        rcases List.mem_cons.1 hx with rfl|hx
        · exact Int.le_refl _
        · exact Int.le_of_lt ((List.pairwise_cons.1 s2).1 x hx)
      have mem:b ∈ l ↔ b ∈ l.take (l.length / 2)∨b ∈ l.drop (l.length / 2):=by rw[← List.mem_append,hsp]
      simp only[List.append_assoc,List.cons_append,List.nil_append]at hF
      obtain⟨k0,x0⟩:=hF.get 0 (by simp)
      obtain⟨k1,x1⟩:=hF.get 1 (by simp)
      have hF1:=hF.tail.tail.left
      have hF2:=hF.tail.tail.right
      obtain⟨k2,x2⟩:=hF2.get 0 (by simp)
      generalize l[l.length / 2]=v at *
      by_cases hv:b≥v
      · refine e_ask hR 5 v (s ++ (⟨#[104]⟩ :ByteArray)) (s ++ (⟨#[108]⟩ :ByteArray)) k0 x0 (by omega) true (by simp[spec_l07Asks.f];omega) _ (by omega) k2 (by rw[if_pos rfl];exact x2) ?_
        refine e_place _ k2 x2 ?_
        have:=ih (l.drop (l.length / 2)) _ _ (by omega) s2 hF2.tail
        have e:(b ∈ l)=(b ∈ l.drop (l.length / 2)):=propext ⟨fun h=>(mem.1 h).resolve_left fun h=>by have:=lo b h;omega,fun h=>mem.2 (.inr h)⟩
        simp only[e]
        exact this
      · refine e_ask hR 5 v (s ++ (⟨#[104]⟩ :ByteArray)) (s ++ (⟨#[108]⟩ :ByteArray)) k0 x0 (by omega) false (by simp[spec_l07Asks.f];omega) (i+1) (by omega) k1 (by rw[if_neg (by decide)];exact x1) ?_
        refine e_place _ k1 x1 ?_
        have:=ih (l.take (l.length / 2)) _ _ (by omega) s1 hF1
        have e:(b ∈ l)=(b ∈ l.take (l.length / 2)):=propext ⟨fun h=>(mem.1 h).resolve_right fun h=>by have:=hi b h;omega,fun h=>mem.2 (.inl h)⟩
        simp only[e]
        exact this
theorem field_an {a b:Int} {w:List S105} (hc:CallR a b w):Evt (fun k=>spec_FieldAt.f k a b w 0) (b,true)∧Evt (fun k=>spec_FieldAt.f k a b w 1) (a,true):=by
  obtain⟨h1,h2,h3,h4⟩:=hc
  have hcl:=callT a b w h1 h2 h3 h4
  have dS: ∀ x,0≤x∧x≤7→∀ k,4≤k→spec_FieldAt.f k a b w x=spec_FieldAt.j0 k x false a b w:=fun x hx k hk=>by simp only[spec_FieldAt.f,hcl k hk,Option.bind_some,inS,if_true,decide_eq_true hx,Bool.not_true]
  refine⟨⟨5,fun k hk=>(dS 0 (by omega) k (by omega)).trans ?_⟩,⟨5,fun k hk=>(dS 1 (by omega) k (by omega)).trans ?_⟩⟩
  · obtain⟨k,rfl⟩ : ∃ m,k=m+1:=⟨k - 1,by omega⟩
    simp only[spec_FieldAt.j0,Bool.false_eq_true,if_false,if_true]
  · obtain⟨k,rfl⟩ : ∃ m,k=m+1:=⟨k - 1,by omega⟩
    simp only[spec_FieldAt.j0,Bool.false_eq_true,if_false]
    rw[if_neg (by decide)]
    rfl
/-- The lines of a policy tell what it decides; of another machine nothing. -/
theorem pol_run {L:List S86} (hR:RL L) {a b:Int} {w:List S105} (hc:CallR a b w) {A d e:Int} {R:List S78} (hl: ∀ y ∈ R,∀ c ∈ y.f1,CR c) {N:List Int} (hN:N.Pairwise (· < ·)) (hm: ∀ u,u ∈ N ↔ u ∈ R.flatMap (·.f0)) (hF:Fr L 0 ([lw 1 1,la 3 A (⟨#[112]⟩ :ByteArray) (⟨#[113]⟩ :ByteArray),lp (⟨#[113]⟩ :ByteArray),lw 8 0,lp (⟨#[112]⟩ :ByteArray),lw 1 0] ++ tlF d e R N.length N (⟨#[116]⟩ :ByteArray))) :
    Ends L a b w 0 0 (if a=A then decC b false w (resV d e) R else 0):=by
  obtain⟨f0,f1⟩:=field_an hc
  simp only[List.cons_append,List.nil_append]at hF
  obtain⟨k0,x0⟩:=hF.get 0 (by simp)
  obtain⟨k1,x1⟩:=hF.get 1 (by simp)
  obtain⟨k2,x2⟩:=hF.get 2 (by simp)
  obtain⟨k3,x3⟩:=hF.get 3 (by simp)
  obtain⟨k4,x4⟩:=hF.get 4 (by simp)
  obtain⟨k5,x5⟩:=hF.get 5 (by simp)
  simp only[List.getElem_cons_zero,List.getElem_cons_succ,Nat.zero_add]at k0 k1 k2 k3 k4 k5 x0 x1 x2 x3 x4 x5
  refine e_load _ k0 x0 _ f1 ?_
  dsimp only
  by_cases ha:a=A
  · rw[if_pos ha]
    refine e_ask hR 3 A (⟨#[112]⟩ :ByteArray) (⟨#[113]⟩ :ByteArray) k1 x1 (by omega) true (by simp[spec_l07Asks.f,ha]) 4 (by omega) k4 (by rw[if_pos rfl];exact x4) ?_
    refine e_place _ k4 x4 (e_load _ k5 x5 _ f0 ?_)
    dsimp only
    have:=tree_run hR hc hl N.length N (⟨#[116]⟩ :ByteArray) 6 (Nat.le_refl _) hN hF.tail.tail.tail.tail.tail.tail
    by_cases hb:b ∈ N
    · rw[if_pos hb]at this
      exact this
    · rw[if_neg hb,decC_any (n:=b) R (fun y hy h=>hb ((hm b).2 (List.mem_flatMap.2 ⟨y,hy,h⟩)))]at this
      exact this
  · rw[if_neg ha]
    refine e_ask hR 3 A (⟨#[112]⟩ :ByteArray) (⟨#[113]⟩ :ByteArray) k1 x1 (by omega) false (by simp[spec_l07Asks.f,ha]) 2 (by omega) k2 (by rw[if_neg (by decide)];exact x2) ?_
    exact e_place _ k2 x2 (e_ret _ k3 x3)
/-- A rule holds just when it names the number, or none, and all its conditions hold. -/
theorem ruleN_eq (x:List Int) (l:List S118) (hx:x.length≤1000) (hl: ∀ c ∈ l,CR c) (hn:l.length≤1000) (u v:Int) {a b:Int} {w:List S105} (hc:CallR a b w):Evt (fun k=>spec_RuleHolds.f k x l u v a b w) ((decide (x.length=0) || decide (b ∈ x)) && l.all (fun c=>cH c w)):=by
  have key:=down (T:=fun i=>Evt (fun k=>spec_RuleHolds.l0 k (i:Int) x l u v a b w) ((l.drop i).all (fun c=>cH c w))) (n:=l.length) ?_ ?_ l.length 0 (by omega)
  · obtain⟨K,h⟩:=key
    have h: ∀ k,K≤k→spec_RuleHolds.l0 k 0 x l u v a b w=some (l.all (fun c=>cH c w)):=fun k hk=>h k hk
    obtain⟨K1,h1⟩:=inNums x b (by omega)
    refine⟨K+K1+1,fun k hk=>?_⟩
    obtain⟨k,rfl⟩ : ∃ m,k=m+1:=⟨k - 1,by omega⟩
    have q:=h1 (k+1) (by omega)
    dsimp only at q
    simp only[spec_RuleHolds.f]
    by_cases h0:x.length=0
    · rw[if_neg (by omega)]
      simp only[spec_RuleHolds.j0,Bool.false_eq_true,if_false]
      rw[h k (by omega),decide_eq_true h0,Bool.true_or,Bool.true_and]
    · rw[if_pos (by omega),q]
      simp only[Option.bind_some,spec_RuleHolds.j0]
      rw[decide_eq_false h0,Bool.false_or]
      by_cases hb:b ∈ x
      · rw[decide_eq_true hb,if_neg (by decide),h k (by omega),Bool.true_and]
      · rw[decide_eq_false hb,if_pos (by decide),Bool.false_and]
  · refine .succ (.const fun k=>?_)
    simp only[spec_RuleHolds.l0]
    rw[if_neg (by omega),List.drop_length]
    rfl
  · intro i hi ⟨K,h⟩
    obtain⟨K1,h1⟩:=cH_eq (hl l[i] (List.getElem_mem hi)) hc
    dsimp only at h h1
    refine .succ ⟨K+K1,fun k hk=>?_⟩
    simp only[spec_RuleHolds.l0]
    rw[if_pos (by omega),if_pos (by omega),nrd_T118 l i hi,h1 k (by omega),List.drop_eq_getElem_cons hi,List.all_cons]
    simp only[Option.bind_some]
    cases cH l[i] w with
    | true=>rw[if_pos rfl,wsucc hi (by omega)];exact h k (by omega)
    | false=>rw[if_neg (by decide)];rfl
/-- What a right policy decides of a right call. -/
theorem dec_eq (A d e:Int) (R:List S78) (hn:R.length≤1000) (hR: ∀ y ∈ R,y.f0.length≤1000∧y.f1.length≤1000∧∀ c ∈ y.f1,CR c) (hp:Evt (fun k=>spec_PolicyOk.f k A d e R) true) {a b:Int} {w:List S105} (hc:CallR a b w):Evt (fun k=>spec_Decide.f k A d e R a b w) (if a=A then decC b false w (resV d e) R else 0):=by
  obtain⟨K0,h0⟩:=hp
  obtain⟨q1,q2,q3,q4⟩:=hc
  have hcl:=callT a b w q1 q2 q3 q4
  dsimp only at h0
  have key:=down (T:=fun i=>Evt (fun k=>spec_Decide.l0 k (i:Int) A d e R a b w) (decC b false w (resV d e) (R.drop i))) (n:=R.length) ?_ ?_ R.length 0 (by omega)
  · obtain⟨K,h⟩:=key
    have h: ∀ k,K≤k→spec_Decide.l0 k 0 A d e R a b w=some (decC b false w (resV d e) R):=fun k hk=>h k hk
    refine⟨K0+K+5,fun k hk=>?_⟩
    obtain⟨k,rfl⟩ : ∃ m,k=m+1:=⟨k - 1,by omega⟩
    simp only[spec_Decide.f,h0 (k+1) (by omega),hcl (k+1) (by omega),Option.bind_some,if_true,spec_Decide.j0]
    by_cases ha:a=A
    · rw[if_neg (by simp[ha]),if_pos ha]
      exact h k (by omega)
    · rw[if_pos (by simp[ha]),if_neg ha]
  · refine .succ (.const fun k=>?_)
    simp only[spec_Decide.l0,resV_eq,Option.bind_some]
    rw[if_neg (by omega),List.drop_length]
    rfl
  · intro i hi ⟨K,h⟩
    obtain⟨r1,r2,r3⟩:=hR R[i] (List.getElem_mem hi)
    obtain⟨K1,h1⟩:=ruleN_eq R[i].f0 R[i].f1 r1 r3 r2 R[i].f2 R[i].f3 ⟨q1,q2,q3,q4⟩
    dsimp only at h h1
    refine .succ ⟨K+K1,fun k hk=>?_⟩
    simp only[spec_Decide.l0,resV_eq,Option.bind_some]
    rw[if_pos (by omega),if_pos (by omega),nrd_T78 R i hi,h1 k (by omega),List.drop_eq_getElem_cons hi]
    simp only[Option.bind_some,decC]
    by_cases hh:inC b false R[i]=true∧R[i].f1.all (fun c=>cH c w)=true
    · rw[if_pos hh,if_pos (by
        have:=hh.1
        simp only[inC,Bool.not_false,Bool.true_and]at this
        rw[this,hh.2]
        rfl)]
    · rw[if_neg hh,if_neg (fun e=>hh (by
        rw[Bool.and_eq_true]at e
        exact⟨by simp only[inC,Bool.not_false,Bool.true_and];exact e.1,e.2⟩)),wsucc hi (by omega)]
      exact h k (by omega)
/-- A right program takes no more steps than it has words. -/
theorem steps_le {R:List S71} (hP:ProgP R) (a b:Int) (w:List S105): ∀ (k:Nat) (g s i v s':Int),0≤s→s≤i→i≤10000000000→spec_Run.l0 k R g s i a b w=some (v,s')→s'≤(R.length:Int)
  | 0,_,_,_,_,_,_,_,_,h=>by simp[spec_Run.l0]at h
  | k+1,g,s,i,v,s',h0,h1,h2,h=>by
    have hn:=hP.1.2
    have ih:=steps_le hP a b w k
    rw[spec_Run.l0]at h
    by_cases hi:i<(R.length:Int)
    · obtain⟨j,rfl⟩:=Int.eq_ofNat_of_zero_le (show 0≤i by omega)
      have hj:j<R.length:=by omega
      have hA:=(hP.2.2 j hj).1
      rw[if_pos hi,if_pos (by omega)]at h
      have hr:rd_T71 R ((j:Nat):Int)=R[j]:=rd_nat71 R j hj
      rw[hr]at h
      obtain⟨_,c1,c2,c3,_⟩:=hA
      have e1:Aside0 (wrap64 (s+1)=s+1):=⟨w64 (by omega) (by omega)⟩
      have e2:Aside0 (wrap64 ((j:Int)+1)=(j:Int)+1):=⟨w64 (by omega) (by omega)⟩
      have e3: ∀ x:Int,0≤x→x≤4294967295→wrap64 (wrap64 ((j:Int)+x)+1)=(j:Int)+x+1:=fun x a1 a2=>by rw[w64 (x:=(j:Int)+x) (by omega) (by omega),w64 (by omega) (by omega)]
      have e4:=Aside0.mk (e3 R[j].f1 c1.1 c1.2)
      have e5:=Aside0.mk (e3 R[j].f2 c2.1 (by omega))
      have e6:=Aside0.mk (e3 R[j].f3 c3.1 (by omega))
      clear e3
      split at h
      · cases hf:spec_FieldAt.f k a b w R[j].f1 with
        | none=>rw[hf]at h;simp at h
        | some p=>
          rw[hf,Option.bind_some,e1.out,e2.out]at h
          exact ih _ _ _ v s' (by omega) (by omega) (by omega) h
      · split at h
        · rw[e1.out,e2.out]at h
          exact ih _ _ _ v s' (by omega) (by omega) (by omega) h
        · split at h
          · rw[e1.out,e4.out]at h
            exact ih _ _ _ v s' (by omega) (by omega) (by omega) h
          · split at h
            · rw[e1.out]at h
              simp only[Option.some.injEq,Prod.mk.injEq]at h
              omega
            · cases hf:spec_l07Asks.f R[j].f0 R[j].f1 R[j].f2 R[j].f3 g with
              | none=>rw[hf]at h;simp at h
              | some p=>
                rw[hf,Option.bind_some]at h
                split at h
                · rw[e1.out,e5.out]at h
                  exact ih _ _ _ v s' (by omega) (by omega) (by omega) h
                · rw[e1.out,e6.out]at h
                  exact ih _ _ _ v s' (by omega) (by omega) (by omega) h
    · rw[if_neg hi]at h
      simp only[Option.some.injEq,Prod.mk.injEq]at h
      omega
/-- Right lines that fit: their words are a right program, and do what the lines do, in no more steps than there are words. -/
theorem run_words {L:List S86} (hR:RL L) (h8: ∃ h:L.length - 1<L.length,L[L.length - 1].f1.f0=8) {P:List S71} (hL:Evt (fun k=>spec_Layout.f k L) (P,true)):ProgP P∧∀ {a b:Int} {w:List S105},CallR a b w→∀ {v:Int},Ends L a b w 0 0 v→∃ s',s'≤(P.length:Int)∧Evt (fun k=>spec_Run.f k P a b w) (v,s'):=by
  have h1:1≤L.length:=by obtain⟨h,_⟩:=h8;omega
  obtain⟨O,R,hOk,hN,hLd,h4⟩:=layS L ⟨h1,hR.n⟩ hR.s hR.i h8
  have hu:=hL.uniq h4
  have hlen:=laid_len hOk hLd
  have z0:pre O 0=0:=by simp[pre]
  have pos:1≤pre O L.length:=by
    obtain⟨h,e⟩:=h8
    have h':L.length - 1<O.length:=by have:=hOk.1;omega
    have q1:=hOk.2.2.2 (L.length - 1) h' h (by omega)
    rw[if_neg (by omega)]at q1
    have q2:pre O (L.length - 1+1)=pre O (L.length - 1)+O[L.length - 1]:=pre_succ h'
    rw[show L.length - 1+1=L.length by omega]at q2
    have q3:=(pre_bound hOk.2.1 (L.length - 1) (by omega)).1
    omega
  by_cases h400:R.length≤400
  · rw[if_pos h400]at hu
    simp only[Prod.mk.injEq,and_true]at hu
    subst hu
    have hP:=laid_prog hR.n hR.s hR.i h8 hOk hN hLd ⟨by omega,h400⟩
    obtain⟨c,hcs,hci⟩:=chkS P
    have hct:c=true:=hci.2 hP
    subst hct
    refine⟨hP,fun {a b w} hc {v} hE=>?_⟩
    obtain⟨ha,hbb,hw3,hw⟩:=hc
    have hcall:=callT a b w ha hbb hw3 hw
    obtain⟨s',K5,h5⟩:=run_laid hR.n hOk hLd h400 a b w hE 0
    rw[z0]at h5
    refine⟨s',steps_le hP a b w K5 0 0 0 v s' (by omega) (by omega) (by omega) (h5 K5 (Nat.le_refl _)),K5+P.length+10,fun k hk=>?_⟩
    simp only[spec_Run.f,hcs k (by omega),hcall k (by omega),Option.bind_some,if_true,Bool.not_true]
    obtain⟨k,rfl⟩ : ∃ m,k=m+1:=⟨k - 1,by omega⟩
    simp only[spec_Run.j0,Bool.false_eq_true,if_false]
    exact h5 k (by omega)
  · rw[if_neg h400]at hu
    simp at hu
theorem laid_off {L:List S86} (hn:L.length≤600) {P:List S71} (hL:Evt (fun k=>spec_Layout.f k L) (P,true)):RL L∧∃ h:L.length - 1<L.length,L[L.length - 1].f1.f0=8:=by
  obtain⟨t,⟨K,h⟩,hi⟩:=linesOkS L (by omega)
  cases t with
  | true=>
    obtain⟨h1,h2,h3⟩:=hi.1 rfl
    exact⟨⟨hn,h2,(all_iff L (by omega)).1 h2⟩,h3⟩
  | false=>
    have:Evt (fun k=>spec_Layout.f k L) (([] :List S71),false):=⟨K,fun k hk=>by
      have q:=h k hk
      dsimp only at q
      simp only[spec_Layout.f,spec_Sizes.f,q,Option.bind_some,Bool.false_eq_true,if_false,List.length_nil,Int.ofNat_zero,if_true]
      try rfl⟩
    have:=hL.uniq this
    simp at this
/-- What becomes of a drawn policy: nothing, as it is too long, or a program that does what it decides. -/
theorem comp_run (b c:Int) (hb:0≤b∧b≤5) (hc:0≤c∧c≤65535) (R:List S78) (hR:R.length≤4) (hr: ∀ y ∈ R,RuleR y.f0 y.f1 y.f2 y.f3∧y.f0.length≤3∧y.f1.length≤2) :
    (Evt (fun k=>spec_Compile.f k 62 b c R) (([] :List S71),2)∧Evt (fun k=>impl_Compile.f k 62 b c R) (([] :List S71),2))∨
    ∃ P:List S71,Evt (fun k=>impl_Compile.f k 62 b c R) (P,0)∧ProgP P∧∀ {a n:Int} {w:List S105},CallR a n w→∃ s',s'≤(P.length:Int)∧Evt (fun k=>spec_Run.f k P a n w) (if a=62 then decC n false w (resV b c) R else 0,s'):=by
  have hl2: ∀ y ∈ R,y.f0.length≤1048576∧y.f1.length≤9:=fun y hy=>by have:=hr y hy;omega
  have hcr: ∀ y ∈ R,∀ c ∈ y.f1,CR c:=fun y hy=>(hr y hy).1.2.1
  obtain⟨Q,x,_,hS,hI⟩:=compile 62 b c R (by omega) (fun y hy=>by have:=hl2 y hy;omega)
  obtain⟨N,_,hN,hNs,hNm,_,hNi⟩:=numsOf 62 b c R (by omega) (fun y hy=>(hl2 y hy).1)
  have s0:=sumLe (fun y=>y.f0.length) 3 R fun y hy=>(hr y hy).2.1
  have hN2:N.length≤12:=by omega
  have hO:=pol_eq 62 b c R (by omega) hl2 N (by omega) hNi
  have hOl:([lw 1 1,la 3 62 (⟨#[112]⟩ :ByteArray) (⟨#[113]⟩ :ByteArray),lp (⟨#[113]⟩ :ByteArray),lw 8 0,lp (⟨#[112]⟩ :ByteArray),lw 1 0] ++ tlF b c R N.length N (⟨#[116]⟩ :ByteArray):List S86).length≤100000:=by
    have:=tlF_len b c R (by omega) hl2 N.length N (⟨#[116]⟩ :ByteArray) (Nat.le_refl _)
    simp only[List.length_append,List.length_cons,List.length_nil]
    omega
  have hrun: ∀ {L:List S86},L= [lw 1 1,la 3 62 (⟨#[112]⟩ :ByteArray) (⟨#[113]⟩ :ByteArray),lp (⟨#[113]⟩ :ByteArray),lw 8 0,lp (⟨#[112]⟩ :ByteArray),lw 1 0] ++ tlF b c R N.length N (⟨#[116]⟩ :ByteArray)→RL L→∀ {a n:Int} {w:List S105},CallR a n w→Ends L a n w 0 0 (if a=62 then decC n false w (resV b c) R else 0):=fun {L} e hRL {a n w} hcall=>pol_run hRL hcall hcr hNs hNm ⟨[],by rw[List.drop_zero,List.append_nil];exact e⟩
  generalize ([lw 1 1,la 3 62 (⟨#[112]⟩ :ByteArray) (⟨#[113]⟩ :ByteArray),lp (⟨#[113]⟩ :ByteArray),lw 8 0,lp (⟨#[112]⟩ :ByteArray),lw 1 0] ++ tlF b c R N.length N (⟨#[116]⟩ :ByteArray):List S86)=O at hO hOl hrun
  replace hrun:=@hrun O rfl
  obtain⟨⟨P,q⟩,hPl,hLs,hLi⟩:=layout O (by omega)
  obtain⟨K1,h1⟩:=polT 62 b c R (by omega) hb hc (by omega) (fun y hy=>(hr y hy).1)
  obtain⟨K2,h2⟩:=hO
  obtain⟨K3,h3⟩:=hLi
  dsimp only at h1 h2 h3
  by_cases h600:(O.length:Int)>600
  · have:Evt (fun k=>impl_Compile.f k 62 b c R) (([] :List S71),2):=⟨K1+K2+K3,fun k hk=>by
      dsimp only
      simp only[impl_Compile.f,h1 k (by omega),h2 k (by omega),h3 k (by omega),Option.bind_some,if_true,if_pos h600]⟩
    have e:=hI.uniq this
    rw[e]at hS
    exact .inl ⟨hS,this⟩
  · cases q with
    | false=>
      have:Evt (fun k=>impl_Compile.f k 62 b c R) (([] :List S71),2):=⟨K1+K2+K3,fun k hk=>by
        dsimp only
        simp only[impl_Compile.f,h1 k (by omega),h2 k (by omega),h3 k (by omega),Option.bind_some,if_true,if_neg h600,Bool.false_eq_true,if_false]⟩
      have e:=hI.uniq this
      rw[e]at hS
      exact .inl ⟨hS,this⟩
    | true=>
      have hi:Evt (fun k=>impl_Compile.f k 62 b c R) (P,0):=⟨K1+K2+K3,fun k hk=>by
        dsimp only
        simp only[impl_Compile.f,h1 k (by omega),h2 k (by omega),h3 k (by omega),Option.bind_some,if_true,if_neg h600]⟩
      obtain⟨hRL,h8⟩:=laid_off (by omega) hLs
      obtain⟨hP,hgo⟩:=run_words hRL h8 hLs
      exact .inr ⟨P,hi,hP,fun hcall=>hgo hcall (hrun hRL hcall)⟩
/-- A right policy is right to the reference as well. -/
theorem polTS (b c:Int) (hb:0≤b∧b≤5) (hc:0≤c∧c≤65535) (R:List S78) (hR:R.length≤4) (hr: ∀ y ∈ R,RuleR y.f0 y.f1 y.f2 y.f3∧y.f0.length≤3∧y.f1.length≤2):Evt (fun k=>spec_PolicyOk.f k 62 b c R) true:=by
  obtain⟨r,_,h1,h2⟩:=pol 62 b c R (by omega) (fun y hy=>by have:=hr y hy;omega)
  have:=h2.uniq (polT 62 b c R (by omega) hb hc (by omega) (fun y hy=>(hr y hy).1))
  subst this
  exact h1
theorem main (l:List Int) (hl0:l.length≤maxLen): ∃ k,laws_FnCompiles.f k l=some true:=by
  by_cases hb:(l.length:Int)>1048576
  · exact⟨0,by simp only[laws_FnCompiles.f,laws_big.f,Option.bind_some,decide_eq_true hb,if_true]⟩
  have hl:l.length≤1048576:=by omega
  obtain⟨e,K0,h0⟩:=newC l hl
  obtain⟨b,c,R,p1,e1,⟨K1,h1⟩,⟨hb1,hc1⟩,hR,hr,hp1⟩:=polR hl 0 e (by omega)
  obtain⟨a,n,w,p2,e2,⟨K2,h2⟩,⟨ha,hn,hw3,hw⟩,_⟩:=callR hl p1 e1 hp1
  dsimp only at h0 h1 h2
  have hd: ∀ k,K0≤k→K1≤k→K2≤k→spec_DrawPolicy.f k l=some (62,b,c,R,a,n,w):=fun k k0 k1 k2=>by
    simp only[spec_DrawPolicy.f,h0 k k0,h1 k k1,h2 k k2,Option.bind_some]
  rcases comp_run b c hb1 hc1 R hR hr with⟨⟨K3,h3⟩,K4,h4⟩|⟨P,⟨K3,h3⟩,hP,hgo⟩
  · dsimp only at h3 h4
    have key: ∀ M,K0≤M→K1≤M→K2≤M→K3≤M→K4≤M→laws_FnCompiles.f M l=some true:=fun M m0 m1 m2 m3 m4=>by
      have n2: ¬ ((2:Int)=0):=by decide
      simp only[laws_FnCompiles.f,laws_big.f,decide_eq_false hb,Bool.false_eq_true,if_false,hd M m0 m1 m2,h3 M m3,h4 M m4,Option.bind_some,if_neg n2,if_true,List.length_nil,Int.ofNat_zero]
      rfl
    exact⟨K0+K1+K2+K3+K4,key _ (by omega) (by omega) (by omega) (by omega) (by omega)⟩
  · obtain⟨s1,hs1,K4,h4⟩:=hgo (a:=a) (n:=n) (w:=w) ⟨ha,hn,hw3,hw⟩
    obtain⟨s2,_,K5,h5⟩:=hgo (a:=3) (n:=n) (w:=w) ⟨by omega,hn,hw3,hw⟩
    obtain⟨K6,h6⟩:=dec_eq 62 b c R (by omega) (fun y hy=>⟨by have:=hr y hy;omega,by have:=hr y hy;omega,(hr y hy).1.2.1⟩) (polTS b c hb1 hc1 R hR hr) (a:=a) (b:=n) (w:=w) ⟨ha,hn,hw3,hw⟩
    obtain⟨t,hcs,hci⟩:=chkS P
    have hct:t=true:=hci.2 hP
    subst hct
    rw[if_neg (by decide)]at h5
    dsimp only at h3 h4 h5 h6
    have key: ∀ M,K0≤M→K1≤M→K2≤M→K3≤M→K4≤M→K5≤M→K6≤M→P.length+4≤M→laws_FnCompiles.f M l=some true:=fun M m0 m1 m2 m3 m4 m5 m6 m7=>by
      simp only[laws_FnCompiles.f,laws_big.f,decide_eq_false hb,Bool.false_eq_true,if_false,hd M m0 m1 m2,h3 M m3,h4 M m4,h5 M m5,h6 M m6,hcs M m7,Option.bind_some,if_true,if_pos hs1]
      rfl
    exact⟨K0+K1+K2+K3+K4+K5+K6+P.length+4,key _ (by omega) (by omega) (by omega) (by omega) (by omega) (by omega) (by omega) (by omega)⟩

end Go.Proofs.YtpbalojiaghfhaaGreat.PFnCompiles
end
