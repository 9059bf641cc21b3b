/- The pure law of FnPolicies: drawn right policies come back from what is shown of them, and what is read is shown and read again, for all bytes that they are drawn from. No conditions. -/
import Derived.Test.YtfhjjfibblcklaaGreatVWMore
import Derived.Test.YtfhjjfibblcklaaGreatPFnPoliciesE
section
/- Plain lemmas on numbers and lists for the pure statements: no program, no memory. -/
namespace Go.Proofs.YtfhjjfibblcklaaGreatW.PK
open Go Go.RowKit Go.Proofs.YtfhjjfibblcklaaGreatW.PrintWords
theorem w64 {x : Int} (h1 : -9223372036854775808 ≤ x) (h2 : x ≤ 9223372036854775807) : wrap64 x = x := by unfold wrap64; omega
theorem wsucc {i n : Nat} (h : i < n) (hn : n ≤ 9223372036854775807) : wrap64 ((i : Int) + 1) = ((i + 1 : Nat) : Int) := by unfold wrap64; omega
theorem getD_lt {α : Type} {xs : List α} {i : Nat} (z : α) (h : i < xs.length) : xs.getD ((i : Int)).toNat z = xs[i] := by
 rw [Int.toNat_natCast, List.getD_eq_getElem?_getD, List.getElem?_eq_getElem h]
 rfl
theorem take_succ_eq {α : Type} {xs ys : List α} {i : Nat} (hx : i < xs.length) (hy : i < ys.length) (h : xs.take i = ys.take i) (e : xs[i] = ys[i]) : xs.take (i + 1) = ys.take (i + 1) := by
 rw [List.take_succ_eq_append_getElem hx, List.take_succ_eq_append_getElem hy, h, e]
theorem take_set {α : Type} {xs : List α} {i : Nat} (v : α) : (xs.set i v).take i = xs.take i := by
 rw [List.take_set_of_le (Nat.le_refl _)]
/-- Rounds: a thing that is so from K rounds on. -/
theorem ev_of {α : Type} {g : Nat → Option α} {r : α} (K : Nat) (h : ∀ k, K ≤ k → g k = some r) : ∃ K, ∀ k, K ≤ k → g k = some r := ⟨K, h⟩
end Go.Proofs.YtfhjjfibblcklaaGreatW.PK
end
section
/- Values that a function comes to from some number of rounds on, and the loops over lists: plain lemmas. -/
namespace Go.Proofs.YtfhjjfibblcklaaGreatW.PK
open Go Go.RowKit Go.Proofs.YtfhjjfibblcklaaGreatW.PrintWords
def Evt {α : Type} (g : Nat → Option α) (v : α) : Prop := ∃ K, ∀ k, K ≤ k → g k = some v
theorem Evt.const {α : Type} {g : Nat → Option α} {v : α} (h : ∀ k, g k = some v) : Evt g v := ⟨0, fun k _ => h k⟩
theorem Evt.succ {α : Type} {g : Nat → Option α} {v : α} (h : Evt (fun k => g (k + 1)) v) : Evt g v := by
  obtain ⟨K, h⟩ := h
  refine ⟨K + 1, fun k hk => ?_⟩
  obtain ⟨k, rfl⟩ : ∃ m, k = m + 1 := ⟨k - 1, by omega⟩
  exact h k (by omega)
theorem Evt.bind {α β : Type} {g : Nat → Option α} {h : α → Nat → Option β} {a : α} {b : β} (h1 : Evt g a) (h2 : Evt (h a) b) : Evt (fun k => (g k).bind fun x => h x k) b := by
  obtain ⟨K1, h1⟩ := h1
  obtain ⟨K2, h2⟩ := h2
  refine ⟨K1 + K2, fun k hk => ?_⟩
  show (g k).bind _ = _
  rw [h1 k (by omega)]
  exact h2 k (by omega)
theorem Evt.congr {α : Type} {g g' : Nat → Option α} {v : α} (h : Evt g v) (e : ∀ k, g' k = g k) : Evt g' v := by
  obtain ⟨K, h⟩ := h
  exact ⟨K, fun k hk => (e k).trans (h k hk)⟩
theorem Evt.uniq {α : Type} {g : Nat → Option α} {v u : α} (h : Evt g v) (h' : Evt g u) : v = u := by
  obtain ⟨K, h⟩ := h
  obtain ⟨K', h'⟩ := h'
  exact Option.some.inj ((h (K + K') (by omega)).symm.trans (h' (K + K') (by omega)))
/-- There is a value. -/
def Tot {α : Type} (g : Nat → Option α) : Prop := ∃ v, Evt g v
theorem Tot.const {α : Type} {g : Nat → Option α} {v : α} (h : ∀ k, g k = some v) : Tot g := ⟨v, .const h⟩
theorem Tot.some {α : Type} {v : α} : Tot (fun _ => some v) := ⟨v, .const fun _ => rfl⟩
theorem Tot.succ {α : Type} {g : Nat → Option α} (h : Tot (fun k => g (k + 1))) : Tot g := by
  obtain ⟨v, h⟩ := h
  exact ⟨v, h.succ⟩
theorem Tot.bind {α β : Type} {g : Nat → Option α} {h : α → Nat → Option β} (h1 : Tot g) (h2 : ∀ a, Evt g a → Tot (h a)) : Tot (fun k => (g k).bind fun x => h x k) := by
  obtain ⟨a, h1⟩ := h1
  obtain ⟨b, h2⟩ := h2 a h1
  exact ⟨b, h1.bind h2⟩
theorem Tot.ite {α : Type} {c : Prop} [Decidable c] {g h : Nat → Option α} (h1 : c → Tot g) (h2 : ¬ c → Tot h) : Tot (fun k => if c then g k else h k) := by
  by_cases hc : c
  · simp only [if_pos hc]
    exact h1 hc
  · simp only [if_neg hc]
    exact h2 hc
theorem Tot.congr {α : Type} {g g' : Nat → Option α} (h : Tot g) (e : ∀ k, g' k = g k) : Tot g' := by
  obtain ⟨v, h⟩ := h
  exact ⟨v, h.congr e⟩
/-- Down from a list's end. -/
theorem down {T : Nat → Prop} {n : Nat} (h0 : T n) (h1 : ∀ i, i < n → T (i + 1) → T i) : ∀ d i, i + d = n → T i
  | 0, i, h => by
    have : i = n := by omega
    subst this
    exact h0
  | d + 1, i, h => h1 i (by omega) (down h0 h1 d (i + 1) (by omega))
/-- A loop that goes through. -/
theorem Evt.pass {β : Type} {F : Nat → Int → Option β} {n : Nat} {r : β} (h0 : Evt (fun k => F (k + 1) (n : Int)) r) (h1 : ∀ i : Nat, i < n → ∃ K, ∀ k, K ≤ k → F (k + 1) (i : Int) = F k ((i + 1 : Nat) : Int)) : Evt (fun k => F k 0) r :=
  down (T := fun i => Evt (fun k => F k (i : Int)) r) (n := n) (.succ h0) (fun i hi ih => by
    obtain ⟨K1, h1⟩ := h1 i hi
    obtain ⟨K2, h2⟩ := ih
    refine Evt.succ ⟨K1 + K2, fun k hk => ?_⟩
    show F (k + 1) (i : Int) = _
    rw [h1 k (by omega)]
    exact h2 k (by omega)) n 0 (by omega)
/-- A list copied, member by member. -/
theorem Evt.to {A B : Type} {F : Nat → List B → Int → Option (List B)} {x : List A} {conv : A → B} (h0 : ∀ k y, F (k + 1) y (x.length : Int) = some y)
    (h1 : ∀ (i : Nat) (h : i < x.length), ∃ K, ∀ k, K ≤ k → ∀ y : List B, y.length = x.length → F (k + 1) y (i : Int) = F k (y.set i (conv x[i])) ((i + 1 : Nat) : Int)) (y0 : List B) (hy0 : y0.length = x.length) : Evt (fun k => F k y0 0) (x.map conv) := by
  have key : ∀ y : List B, y.length = x.length → (∀ j, j < 0 → y[j]? = (x.map conv)[j]?) → Evt (fun k => F k y ((0 : Nat) : Int)) (x.map conv) := by
    have h := down (T := fun i => ∀ y : List B, y.length = x.length → (∀ j, j < i → y[j]? = (x.map conv)[j]?) → Evt (fun k => F k y (i : Int)) (x.map conv)) (n := x.length) ?_ ?_
    · exact h x.length 0 (by omega)
    · intro y hy hj
      refine .succ (.const fun k => (h0 k y).trans (congrArg some (List.ext_getElem? fun j => ?_)))
      rcases Nat.lt_or_ge j x.length with h | h
      · exact hj j h
      · rw [List.getElem?_eq_none (by omega), List.getElem?_eq_none (by rw [List.length_map]; omega)]
    · intro i hi ih y hy hj
      obtain ⟨K1, h1⟩ := h1 i hi
      obtain ⟨K2, h2⟩ := ih (y.set i (conv x[i])) (by rw [List.length_set]; exact hy) (fun j h => by
        rcases Nat.lt_or_ge j i with h3 | h3
        · rw [List.getElem?_set_ne (by omega)]
          exact hj j h3
        · have : j = i := by omega
          subst this
          rw [List.getElem?_set_self (by omega), List.getElem?_map, List.getElem?_eq_getElem hi]
          rfl)
      refine .succ ⟨K1 + K2, fun k hk => ?_⟩
      show F (k + 1) y (i : Int) = _
      rw [h1 k (by omega) y hy]
      exact h2 k (by omega)
  exact key y0 hy0 (fun j h => by omega)
/-- A measure that goes down a list. -/
theorem Evt.sz {F : Nat → Int → Int → Option Int} {n : Nat} {P : Nat → Prop} (h0 : ∀ k q, F (k + 1) q (n : Int) = some q)
    (h1 : ∀ i : Nat, i < n → ∀ q : Int, 0 ≤ q → q ≤ 1048576 → ∃ s : Int, s ≤ q ∧ (0 ≤ s → P i) ∧ ∃ K, ∀ k, K ≤ k → F (k + 1) q (i : Int) = if s < 0 then some (-1) else F k s ((i + 1 : Nat) : Int)) (q : Int) (hq : 0 ≤ q) (hq' : q ≤ 1048576) :
    ∃ s : Int, s ≤ q ∧ (0 ≤ s → ∀ i, i < n → P i) ∧ Evt (fun k => F k q 0) s := by
  have h := down (T := fun i => ∀ q : Int, 0 ≤ q → q ≤ 1048576 → ∃ s : Int, s ≤ q ∧ (0 ≤ s → ∀ j, i ≤ j → j < n → P j) ∧ Evt (fun k => F k q (i : Int)) s) (n := n) ?_ ?_ n 0 (by omega) q hq hq'
  · obtain ⟨s, a, b, c⟩ := h
    exact ⟨s, a, fun hs i hi => b hs i (by omega) hi, c⟩
  · intro q _ _
    exact ⟨q, Int.le_refl _, fun _ j h2 h3 => by omega, .succ (.const fun k => h0 k q)⟩
  · intro i hi ih q hq hq'
    obtain ⟨s, hs, hP, K, hK⟩ := h1 i hi q hq hq'
    by_cases hn : s < 0
    · refine ⟨-1, by omega, fun h => by omega, .succ ⟨K, fun k hk => ?_⟩⟩
      show F (k + 1) q (i : Int) = _
      rw [hK k hk, if_pos hn]
    · obtain ⟨u, hu, hU, K2, hK2⟩ := ih s (by omega) (by omega)
      refine ⟨u, by omega, fun h j h2 h3 => ?_, .succ ⟨K + K2, fun k hk => ?_⟩⟩
      · rcases Nat.lt_or_ge i j with h4 | h4
        · exact hU h j (by omega) h3
        · have : i = j := by omega
          subst this
          exact hP (by omega)
      · show F (k + 1) q (i : Int) = _
        rw [hK k (by omega), if_neg hn]
        exact hK2 k (by omega)
end Go.Proofs.YtfhjjfibblcklaaGreatW.PK
end
section
/- The pure law of FnPolicies: drawn right policies come back from what is shown of them, and what is read is shown and read again, for all bytes that they are drawn from. No conditions. -/
set_option linter.unusedSimpArgs false
set_option linter.unusedVariables false
set_option linter.unusedSectionVars false
namespace Go.Proofs.YtfhjjfibblcklaaGreat.PFnPolicies
open Go Go.RowKit Go.Proofs.YtfhjjfibblcklaaGreatW.PrintWords Go.Proofs.YtfhjjfibblcklaaGreatW.PrintLast Go.Proofs.YtfhjjfibblcklaaGreatW.PK
theorem nrd (l:List (Int)) (i:Nat) (h:i<l.length):rd l (i:Int)=l[i]:=getD_lt _ h
theorem nrd_T54 (l:List (S54)) (i:Nat) (h:i<l.length):rd_T54 l (i:Int)=l[i]:=getD_lt _ h
theorem nrd_T50 (l:List (S50)) (i:Nat) (h:i<l.length):rd_T50 l (i:Int)=l[i]:=getD_lt _ h
theorem inS (a b c:Int):Ao.f a b c=some (decide (b≤a∧a≤c)):=by
  unfold Ao.f
  by_cases h:a≥b
  · rw[if_pos h]
    exact congrArg some (by rw[Bool.eq_iff_iff];simp;omega)
  · rw[if_neg h]
    exact congrArg some (by rw[Bool.eq_iff_iff];simp;omega)
theorem inI (a b c:Int):Aq.f a b c=some (decide (b≤a∧a≤c)):=inS a b c
theorem halfS (a:Int):Ab.f a=some (decide (0≤a∧a≤4294967295)):=by
  unfold Ab.f
  rw[inS]
  rfl
theorem halfI (a:Int):Aw.f a=some (decide (0≤a∧a≤4294967295)):=halfS a
theorem wideS (a b:Int):BP.f a b=some (decide ((0≤a∧a≤4294967295)∧(0≤b∧b≤4294967295))):=by
  unfold BP.f
  simp only[halfS,Option.bind_some,decide_eq_true_eq]
  split
  · rename_i h
    exact congrArg some (by rw[Bool.eq_iff_iff];simp[h])
  · rename_i h
    exact congrArg some (by rw[Bool.eq_iff_iff];simp[h])
theorem condS (a b c d e f:Int):BL.f a b c d e f=some (decide ((0≤a∧a≤2)∧((0≤b∧b≤4294967295)∧(0≤c∧c≤4294967295))∧((0≤e∧e≤4294967295)∧(0≤f∧f≤4294967295))∧1≤d∧d≤6)):=by
  unfold BL.f
  simp only[inS,wideS,Option.bind_some,decide_eq_true_eq]
  repeat' split
  all_goals (refine congrArg some ?_;rw[Bool.eq_iff_iff];simp only[Bool.false_eq_true,decide_eq_true_eq,false_iff])
  all_goals omega
theorem condI (a b c d e f:Int):Ba.f a b c d e f=some (decide ((0≤a∧a≤2)∧((0≤b∧b≤4294967295)∧(0≤c∧c≤4294967295))∧((0≤e∧e≤4294967295)∧(0≤f∧f≤4294967295))∧1≤d∧d≤6)):=condS a b c d e f
/-- Where the bytes from a to b end. -/
def runTo (s:ByteArray) (a b:Int):Nat→Nat→Nat
  | 0,i=>i
  | d+1,i=>if a≤bt s (i:Int)∧bt s (i:Int)≤b then runTo s a b d (i+1)else i
theorem runTo_le (s:ByteArray) (a b:Int): ∀ d i,i≤runTo s a b d i∧runTo s a b d i≤i+d
  | 0,i=>by simp[runTo]
  | d+1,i=>by
    have:=runTo_le s a b d (i+1)
    simp only[runTo]
    split <;> omega
theorem runTo_in (s:ByteArray) (a b:Int): ∀ d i m,i≤m→m<runTo s a b d i→a≤bt s (m:Int)∧bt s (m:Int)≤b
  | 0,i,m,h1,h2=>by simp[runTo]at h2;omega
  | d+1,i,m,h1,h2=>by
    simp only[runTo]at h2
    split at h2
    · rename_i h
      by_cases hm:m=i
      · subst hm;exact h
      · exact runTo_in s a b d (i+1) m (by omega) h2
    · omega
theorem word_l0 (s:ByteArray) (hs:s.size≤100000) (a b:Int) (j:Nat): ∀ d i,i+d=s.size→j≤i→Evt (fun k=>Ak.l0 k s (j:Int) a b (i:Int)) ((runTo s a b d i:Int) - j)
  | 0,i,hi,hj=> .succ (.const fun k=>by
      simp only[Ak.l0,runTo]
      rw[if_neg (by omega),w64 (by omega) (by omega)])
  | d+1,i,hi,hj=>by
    by_cases h:a≤bt s (i:Int)∧bt s (i:Int)≤b
    · obtain⟨K,hK⟩:=word_l0 s hs a b j d (i+1) (by omega) (by omega)
      refine .succ ⟨K,fun k hk=>?_⟩
      simp only[Ak.l0,runTo]
      rw[if_pos (by omega),if_pos (by omega),if_pos h.1,if_pos h.2,wsucc (show i<100000 by omega) (by omega),if_pos h]
      exact hK k hk
    · refine .succ (.const fun k=>?_)
      simp only[Ak.l0,runTo]
      rw[if_pos (by omega),if_pos (by omega),if_neg h,w64 (x:=(i:Int) - j) (by omega) (by omega)]
      split
      · rw[if_neg (by omega)]
      · rfl
theorem word (s:ByteArray) (hs:s.size≤100000) (a b:Int) (i:Nat) (hi:i≤s.size):Evt (fun k=>Ak.f k s (i:Int) a b) ((runTo s a b (s.size - i) i:Int) - i):=word_l0 s hs a b i (s.size - i) i (by omega) (Nat.le_refl _)
theorem let_ (x:Int):BI.f x=some (decide (97≤x∧x≤122)):=by
  unfold BI.f
  split
  · exact congrArg some (by rw[Bool.eq_iff_iff];simp;omega)
  · exact congrArg some (by rw[Bool.eq_iff_iff];simp;omega)
theorem fig_ (x:Int):BR.f x=some (decide (48≤x∧x≤57)):=by
  unfold BR.f
  split
  · exact congrArg some (by rw[Bool.eq_iff_iff];simp;omega)
  · exact congrArg some (by rw[Bool.eq_iff_iff];simp;omega)
theorem run_l (s:ByteArray) (hs:s.size≤100000): ∀ d i,i+d=s.size→Evt (fun k=>A1.l0 k s (i:Int)) (runTo s 97 122 d i:Int)
  | 0,i,hi=> .succ (.const fun k=>by
      simp only[A1.l0,runTo]
      rw[if_neg (by omega)])
  | d+1,i,hi=>by
    by_cases h:97≤bt s (i:Int)∧bt s (i:Int)≤122
    · obtain⟨K,hK⟩:=run_l s hs d (i+1) (by omega)
      refine .succ ⟨K,fun k hk=>?_⟩
      simp only[A1.l0,runTo,let_,Option.bind_some]
      rw[if_pos (by omega),if_pos (by omega),decide_eq_true h,if_pos rfl,wsucc (show i<100000 by omega) (by omega),if_pos h]
      exact hK k hk
    · refine .succ (.const fun k=>?_)
      simp only[A1.l0,runTo,let_,Option.bind_some]
      rw[if_pos (by omega),if_pos (by omega),decide_eq_false h,if_neg (by decide),if_neg h]
theorem run_f (s:ByteArray) (hs:s.size≤100000): ∀ d i,i+d=s.size→Evt (fun k=>A8.l0 k s (i:Int)) (runTo s 48 57 d i:Int)
  | 0,i,hi=> .succ (.const fun k=>by
      simp only[A8.l0,runTo]
      rw[if_neg (by omega)])
  | d+1,i,hi=>by
    by_cases h:48≤bt s (i:Int)∧bt s (i:Int)≤57
    · obtain⟨K,hK⟩:=run_f s hs d (i+1) (by omega)
      refine .succ ⟨K,fun k hk=>?_⟩
      simp only[A8.l0,runTo,fig_,Option.bind_some]
      rw[if_pos (by omega),if_pos (by omega),decide_eq_true h,if_pos rfl,wsucc (show i<100000 by omega) (by omega),if_pos h]
      exact hK k hk
    · refine .succ (.const fun k=>?_)
      simp only[A8.l0,runTo,fig_,Option.bind_some]
      rw[if_pos (by omega),if_pos (by omega),decide_eq_false h,if_neg (by decide),if_neg h]
/-- What figures come to. -/
def valF (s:ByteArray):Nat→Nat→Int→Int
  | 0,_,v=>v
  | d+1,i,v=>valF s d (i+1) (10*v+(bt s (i:Int) - 48))
def marks:List ByteArray:=[(⟨#[61,61]⟩ :ByteArray),(⟨#[33,61]⟩ :ByteArray),(⟨#[60,61]⟩ :ByteArray),(⟨#[62,61]⟩ :ByteArray),(⟨#[60]⟩ :ByteArray),(⟨#[62]⟩ :ByteArray),(⟨#[38]⟩ :ByteArray),(⟨#[58]⟩ :ByteArray),(⟨#[59]⟩ :ByteArray),(⟨#[44]⟩ :ByteArray)]
/-- The first mark that stands there. -/
def findM (s:ByteArray) (i:Nat):List ByteArray→ByteArray
  | []=>⟨#[]⟩
  | m :: r=>if i+m.size≤s.size∧(s.extract i (i+m.size)).toList=m.toList then m else findM s i r
theorem marks_sz: ∀ m ∈ marks,m.size≤2:=by decide
theorem findM_sz (s:ByteArray) (i:Nat): ∀ l:List ByteArray,(∀ m ∈ l,m.size≤2)→(findM s i l).size≤2∧((findM s i l).toList= []∨i+(findM s i l).size≤s.size)
  | [],_=>⟨by show 0≤2;omega,.inl (by show(⟨#[]⟩ :ByteArray).toList= [];rw[ByteArray.toList_eq])⟩
  | m :: r,h=>by
    simp only[findM]
    split
    · rename_i hc
      exact⟨h m List.mem_cons_self,.inr hc.1⟩
    · exact findM_sz s i r (fun x hx=>h x (List.mem_cons_of_mem _ hx))
theorem rdm (j:Nat) (h:j<marks.length):rdOf ByteArray.empty marks (j:Int)=marks[j]:=getD_lt _ h
theorem mark_S (s:ByteArray) (hs:s.size≤100000) (i:Nat) (hi:i≤s.size):Evt (fun k=>As.f k s (i:Int)) (findM s i marks):=by
  have key:=down (T:=fun j=>Evt (fun k=>As.l0 k s (i:Int) marks (j:Int)) (findM s i (marks.drop j))) (n:=marks.length) ?_ ?_ marks.length 0 (by omega)
  · obtain⟨K,h⟩:=key
    exact⟨K,fun k hk=>by simp only[As.f,Bo.f,Option.bind_some];exact h k hk⟩
  · refine .succ (.const fun k=>?_)
    simp only[As.l0]
    rw[if_neg (by omega),List.drop_length]
    rfl
  · intro j hj ⟨K,h⟩
    have hz:=marks_sz marks[j] (List.getElem_mem hj)
    have e1:wrap64 ((i:Int)+(marks[j].size:Int))=((i+marks[j].size:Nat):Int):=by rw[w64 (by omega) (by omega)];omega
    have e2:((i+marks[j].size:Nat):Int).toNat=i+marks[j].size:=by omega
    dsimp only at h
    rw[List.drop_eq_getElem_cons hj]
    simp only[findM]
    by_cases c1:i+marks[j].size≤s.size
    · by_cases c2:(s.extract i (i+marks[j].size)).toList=marks[j].toList
      · refine .succ (.const fun k=>?_)
        simp only[As.l0]
        rw[if_pos (by omega),if_pos (by omega),rdm j hj,e1,if_pos (by omega),if_pos (by omega),if_pos (by omega),e2,Int.toNat_natCast,if_pos c2,if_pos ⟨c1,c2⟩]
      · refine .succ ⟨K,fun k hk=>?_⟩
        simp only[As.l0]
        rw[if_pos (by omega),if_pos (by omega),rdm j hj,e1,if_pos (by omega),if_pos (by omega),if_pos (by omega),e2,Int.toNat_natCast,if_neg c2,if_neg (fun h=>c2 h.2),wsucc hj (by decide)]
        exact h k hk
    · refine .succ ⟨K,fun k hk=>?_⟩
      simp only[As.l0]
      rw[if_pos (by omega),if_pos (by omega),rdm j hj,e1,if_neg (by omega),if_neg (fun h=>c1 h.1),wsucc hj (by decide)]
      exact h k hk
theorem mark_I (s:ByteArray) (hs:s.size≤100000) (i:Nat) (hi:i≤s.size):Evt (fun k=>Ar.f k s (i:Int)) (findM s i marks):=by
  have key:=down (T:=fun j=>Evt (fun k=>Ar.l0 k s (i:Int) marks (marks.length:Int) (j:Int)) (findM s i (marks.drop j))) (n:=marks.length) ?_ ?_ marks.length 0 (by omega)
  · obtain⟨K,h⟩:=key
    exact⟨K,fun k hk=>by simp only[Ar.f,Option.bind_some];exact h k hk⟩
  · refine .succ (.const fun k=>?_)
    simp only[Ar.l0]
    rw[if_neg (by omega),List.drop_length]
    rfl
  · intro j hj ⟨K,h⟩
    have hz:=marks_sz marks[j] (List.getElem_mem hj)
    have e0:wrap64 ((s.size:Int) - (i:Int))=(s.size:Int) - i:=w64 (by omega) (by omega)
    have e1:wrap64 ((i:Int)+(marks[j].size:Int))=((i+marks[j].size:Nat):Int):=by rw[w64 (by omega) (by omega)];omega
    have e2:((i+marks[j].size:Nat):Int).toNat=i+marks[j].size:=by omega
    dsimp only at h
    rw[List.drop_eq_getElem_cons hj]
    simp only[findM]
    by_cases c1:i+marks[j].size≤s.size
    · by_cases c2:(s.extract i (i+marks[j].size)).toList=marks[j].toList
      · refine .succ (.const fun k=>?_)
        simp only[Ar.l0]
        rw[if_pos (by omega),if_pos (by omega),if_pos (by omega),rdm j hj,e0,e1,if_pos (by omega),if_pos (by omega),if_pos (by omega),if_pos (by omega),e2,Int.toNat_natCast,if_pos c2,if_pos ⟨c1,c2⟩]
      · refine .succ ⟨K,fun k hk=>?_⟩
        simp only[Ar.l0]
        rw[if_pos (by omega),if_pos (by omega),if_pos (by omega),rdm j hj,e0,e1,if_pos (by omega),if_pos (by omega),if_pos (by omega),if_pos (by omega),e2,Int.toNat_natCast,if_neg c2,if_neg (fun h=>c2 h.2),wsucc hj (by decide)]
        exact h k hk
    · refine .succ ⟨K,fun k hk=>?_⟩
      simp only[Ar.l0]
      rw[if_pos (by omega),if_pos (by omega),if_pos (by omega),rdm j hj,e0,if_neg (by omega),if_neg (fun h=>c1 h.1),wsucc hj (by decide)]
      exact h k hk
/-- The signs of a text, from a place on; none: it is not of signs. -/
def toks (s:ByteArray):Nat→Nat→Option (List S95)
  | 0,_=>some []
  | d+1,i=>
    if i<s.size then
      if bt s (i:Int)=32∨bt s (i:Int)=10 then toks s d (i+1)
      else if 97≤bt s (i:Int)∧bt s (i:Int)≤122 then
        if runTo s 97 122 (s.size - i) i - i>12 then none else(toks s d (runTo s 97 122 (s.size - i) i)).map ((⟨1,s.extract i (runTo s 97 122 (s.size - i) i),0⟩ :S95) :: ·)
      else if 48≤bt s (i:Int)∧bt s (i:Int)≤57 then
        if runTo s 48 57 (s.size - i) i - i>10∨valF s (runTo s 48 57 (s.size - i) i - i) i 0>4294967295 then none else(toks s d (runTo s 48 57 (s.size - i) i)).map ((⟨2,(⟨#[]⟩ :ByteArray),valF s (runTo s 48 57 (s.size - i) i - i) i 0⟩ :S95) :: ·)
      else if(findM s i marks).toList= []then none else(toks s d (i+(findM s i marks).size)).map ((⟨3,findM s i marks,0⟩ :S95) :: ·)
    else some []
/-- What the signs come to, behind others. -/
def told (o:List S95):Option (List S95)→List S95×Bool
  | some r=>(o ++ r,true)
  | none=>([],false)
theorem told_map (o:List S95) (x:S95) (r:Option (List S95)):told o (r.map (x :: ·))=told (o ++ [x]) r:=by
  cases r with
  | none=>rfl
  | some r=>simp[told]
theorem val_S (s:ByteArray) (hs:s.size≤100000) (o:List S95) (i e:Nat) (he:e≤s.size) (hn:e - i≤10) (hf: ∀ m,i≤m→m<e→48≤bt s (m:Int)∧bt s (m:Int)≤57) {r:List S95×Bool} : ∀ d j v,j+d=e→i≤j→0≤v→v+1≤10 ^ (j - i)→
    (Evt (fun k=>AD.j3 k s [] o (i:Int) ((e:Int) - i) (valF s d j v)) r→Evt (fun k=>AD.l1 k s [] o (i:Int) ((e:Int) - i) v (j:Int)) r)∧0≤valF s d j v
  | 0,j,v,hj,hij,h0,hv=>by
    refine⟨fun ⟨K,h⟩=> .succ ⟨K,fun k hk=>?_⟩,h0⟩
    simp only[AD.l1]
    rw[if_neg (by rw[w64 (by omega) (by omega)];omega)]
    exact h k hk
  | d+1,j,v,hj,hij,h0,hv=>by
    have hb:=hf j hij (by omega)
    have hp:(10:Int) ^ (j - i)≤10 ^ 10:=by
      have:j - i=0∨j - i=1∨j - i=2∨j - i=3∨j - i=4∨j - i=5∨j - i=6∨j - i=7∨j - i=8∨j - i=9∨j - i=10:=by omega
      rcases this with h|h|h|h|h|h|h|h|h|h|h <;> rw[h] <;> decide
    have hp2:(10:Int) ^ (j+1 - i)=10*10 ^ (j - i):=by rw[show j+1 - i=(j - i)+1 by omega,Int.pow_succ,Int.mul_comm]
    have hq:(10:Int) ^ 10=10000000000:=by decide
    have hv1:v≤10000000000:=by omega
    have e1:wrap64 (10*v)=10*v:=w64 (by omega) (by omega)
    have e2:wrap64 (bt s (j:Int))=bt s (j:Int):=w64 (by omega) (by omega)
    have e3:wrap64 (10*v+bt s (j:Int))=10*v+bt s (j:Int):=w64 (by omega) (by omega)
    have e4:wrap64 (10*v+bt s (j:Int) - 48)=10*v+(bt s (j:Int) - 48):=by rw[w64 (by omega) (by omega)];omega
    obtain⟨g1,g2⟩:=val_S s hs o i e he hn hf (r:=r) d (j+1) (10*v+(bt s (j:Int) - 48)) (by omega) (by omega) (by omega) (by omega)
    refine⟨fun h=>?_,g2⟩
    obtain⟨K,h⟩:=g1 h
    refine .succ ⟨K,fun k hk=>?_⟩
    simp only[AD.l1]
    rw[if_pos (by rw[w64 (by omega) (by omega)];omega),if_pos (by omega),if_pos (by omega),if_pos (by omega),e1,e2,e3,e4,wsucc (show j<100000 by omega) (by omega)]
    exact h k hk
theorem val_I (s:ByteArray) (hs:s.size≤100000) (o:List S95) (ho:o.length≤100000) (i e:Nat) (he:e≤s.size) (hi:i≤e) (hn:e - i≤10) (hf: ∀ m,i≤m→m<e→48≤bt s (m:Int)∧bt s (m:Int)≤57) {r:List S95×Bool} : ∀ d j v,j+d=e→i≤j→0≤v→v+1≤10 ^ (j - i)→
    (valF s d j v>4294967295→Evt (fun k=>AF.l1 k s o (i:Int) (e:Int) v (j:Int)) ([],false))∧(¬ valF s d j v>4294967295→Evt (fun k=>AF.l0 k s (o ++ [⟨2,(⟨#[]⟩ :ByteArray),valF s d j v⟩]) (e:Int)) r→Evt (fun k=>AF.l1 k s o (i:Int) (e:Int) v (j:Int)) r)
  | 0,j,v,hj,hij,h0,hv=>by
    have ew:wrap64 ((e:Int) - i)=(e:Int) - i:=w64 (by omega) (by omega)
    refine⟨fun h=> .succ (.const fun k=>?_),fun h ⟨K,g⟩=> .succ ⟨K,fun k hk=>?_⟩⟩
    · simp only[AF.l1,ew]
      rw[if_neg (by omega),if_neg (by omega)]
      exact if_pos h
    · simp only[AF.l1,ew]
      rw[if_neg (by omega),if_neg (by omega)]
      refine(if_neg h).trans ?_
      rw[if_pos (by omega)]
      exact g k hk
  | d+1,j,v,hj,hij,h0,hv=>by
    have ew:wrap64 ((e:Int) - i)=(e:Int) - i:=w64 (by omega) (by omega)
    have hb:=hf j hij (by omega)
    have hp:(10:Int) ^ (j - i)≤10000000000:=by
      have:j - i=0∨j - i=1∨j - i=2∨j - i=3∨j - i=4∨j - i=5∨j - i=6∨j - i=7∨j - i=8∨j - i=9∨j - i=10:=by omega
      rcases this with h|h|h|h|h|h|h|h|h|h|h <;> rw[h] <;> decide
    have e1:wrap64 (10*v)=10*v:=w64 (by omega) (by omega)
    have e2:(bt s (j:Int) - 48) % 256=bt s (j:Int) - 48:=by omega
    have e4:wrap64 (10*v+(bt s (j:Int) - 48))=10*v+(bt s (j:Int) - 48):=w64 (by omega) (by omega)
    have hp2:(10:Int) ^ (j+1 - i)=10*10 ^ (j - i):=by rw[show j+1 - i=(j - i)+1 by omega,Int.pow_succ,Int.mul_comm]
    obtain⟨g1,g2⟩:=val_I s hs o ho i e he hi hn hf (r:=r) d (j+1) (10*v+(bt s (j:Int) - 48)) (by omega) (by omega) (by omega) (by omega)
    have step: ∀ k,AF.l1 (k+1) s o (i:Int) (e:Int) v (j:Int)=AF.l1 k s o (i:Int) (e:Int) (10*v+(bt s (j:Int) - 48)) ((j+1:Nat):Int):=fun k=>by
      simp only[AF.l1,ew]
      rw[if_pos (by omega),if_pos (by omega),if_pos (by omega),if_pos (by omega),e1,e2,e4,wsucc (show j<100000 by omega) (by omega)]
    refine⟨fun h=>?_,fun h g=>?_⟩
    · obtain⟨K,q⟩:=g1 h
      exact .succ ⟨K,fun k hk=>(step k).trans (q k hk)⟩
    · obtain⟨K,q⟩:=g2 h g
      exact .succ ⟨K,fun k hk=>(step k).trans (q k hk)⟩
/-- Both tell the same signs. -/
theorem signsF (s:ByteArray) (hs:s.size≤1200): ∀ d i (o:List S95),s.size - i≤d→i≤s.size→o.length+(s.size - i)≤2000→Evt (fun k=>AD.l0 k s [] o (i:Int)) (told o (toks s d i))∧Evt (fun k=>AF.l0 k s o (i:Int)) (told o (toks s d i)):=by
  have fin: ∀ d i (o:List S95),¬ i<s.size→i≤s.size→Evt (fun k=>AD.l0 k s [] o (i:Int)) (told o (toks s d i))∧Evt (fun k=>AF.l0 k s o (i:Int)) (told o (toks s d i)):=fun d i o h hi=>by
    have e:told o (toks s d i)=(o,true):=by
      cases d with
      | zero=>simp[toks,told]
      | succ d=>simp only[toks,if_neg h,told,List.append_nil]
    rw[e]
    refine⟨.succ (.const fun k=>?_),.succ (.const fun k=>?_)⟩
    · simp only[AD.l0]
      rw[if_neg (by omega)]
    · simp only[AF.l0]
      rw[if_neg (by omega)]
  intro d
  induction d with
  | zero=>intro i o h1 h2 h3;exact fin 0 i o (by omega) h2
  | succ d ih=>
    intro i o h1 h2 h3
    by_cases hlt:i<s.size
    · simp only[toks,if_pos hlt]
      have hbr:=bt_range s (i:Int)
      by_cases hb:bt s (i:Int)=32∨bt s (i:Int)=10
      · rw[if_pos hb]
        obtain⟨⟨K1,g1⟩,⟨K2,g2⟩⟩:=ih (i+1) o (by omega) (by omega) (by omega)
        dsimp only at g1 g2
        refine⟨.succ (.succ ⟨K1,fun k hk=>?_⟩),.succ (.succ ⟨K2,fun k hk=>?_⟩)⟩
        · have e:AD.l0 (k+1+1) s [] o (i:Int)=AD.j1 (k+1) s [] o (i:Int) true:=by
            simp only[AD.l0]
            rw[if_pos (by omega),if_pos (by omega)]
            rcases hb with hb|hb
            · rw[if_pos hb]
            · rw[if_neg (by omega),hb];rfl
          refine e.trans ?_
          simp only[AD.j1,if_true,wsucc (show i<2000 by omega) (by omega)]
          exact g1 k hk
        · have e:AF.l0 (k+1+1) s o (i:Int)=AF.j1 (k+1) s o (i:Int) ((i+1:Nat):Int) true:=by
            simp only[AF.l0,wsucc (show i<2000 by omega) (by omega)]
            rw[if_pos (by omega),if_pos (by omega)]
            rcases hb with hb|hb
            · rw[if_pos hb]
            · rw[if_neg (by omega),hb];rfl
          refine e.trans ?_
          simp only[AF.j1,if_true]
          exact g2 k hk
      · rw[if_neg hb]
        have eS: ∀ k,AD.l0 (k+1) s [] o (i:Int)=AD.j1 k s [] o (i:Int) false:=fun k=>by
          simp only[AD.l0]
          rw[if_pos (by omega),if_pos (by omega),if_neg (by omega),beq_eq_false_iff_ne.2 (by omega)]
        have eI: ∀ k,AF.l0 (k+1) s o (i:Int)=AF.j1 k s o (i:Int) ((i+1:Nat):Int) false:=fun k=>by
          simp only[AF.l0,wsucc (show i<2000 by omega) (by omega)]
          rw[if_pos (by omega),if_pos (by omega),if_neg (by omega),beq_eq_false_iff_ne.2 (by omega)]
        obtain⟨Kw,hw⟩:=word s (by omega) 97 122 i (by omega)
        dsimp only at hw
        have hd1:s.size - i=(s.size - i - 1)+1:=by omega
        by_cases hl:97≤bt s (i:Int)∧bt s (i:Int)≤122
        · rw[if_pos hl]
          obtain⟨Kr,hr⟩:=run_l s (by omega) (s.size - i) i (by omega)
          dsimp only at hr
          have hle:=runTo_le s 97 122 (s.size - i) i
          have hgt:i<runTo s 97 122 (s.size - i) i:=by
            rw[hd1]
            simp only[runTo,if_pos hl]
            have:=(runTo_le s 97 122 (s.size - i - 1) (i+1)).1
            omega
          generalize runTo s 97 122 (s.size - i) i=e at hw hr hle hgt ⊢
          have e1:Aside0 (wrap64 ((i:Int)+((e:Int) - i))=(e:Int)):=⟨by rw[w64 (by omega) (by omega)];omega⟩
          have e2:Aside0 (wrap64 ((e:Int) - i)=(e:Int) - i):=⟨w64 (by omega) (by omega)⟩
          by_cases h12:e - i>12
          · rw[if_pos h12]
            refine⟨.succ (.succ ⟨Kw,fun k hk=>?_⟩),.succ (.succ ⟨Kr,fun k hk=>?_⟩)⟩
            · refine(eS _).trans ?_
              simp only[AD.j1,Bool.false_eq_true,if_false,hw k hk,Option.bind_some]
              rw[if_pos (by omega),if_pos (by omega)]
              rfl
            · refine(eI _).trans ?_
              simp only[AF.j1,Bool.false_eq_true,if_false,let_,Option.bind_some,decide_eq_true hl,if_true,A1.f,hr k hk,e2.out]
              rw[if_pos (by omega),if_pos (by omega),if_pos (by omega)]
              rfl
          · rw[if_neg h12,told_map]
            obtain⟨⟨K1,g1⟩,⟨K2,g2⟩⟩:=ih e (o ++ [⟨1,s.extract i e,0⟩]) (by omega) (by omega) (by simp only[List.length_append,List.length_cons,List.length_nil];omega)
            dsimp only at g1 g2
            refine⟨.succ (.succ ⟨Kw+K1,fun k hk=>?_⟩),.succ (.succ ⟨Kr+K2,fun k hk=>?_⟩)⟩
            · refine(eS _).trans ?_
              simp only[AD.j1,Bool.false_eq_true,if_false,hw k (by omega),Option.bind_some,e1.out,Int.toNat_natCast]
              rw[if_pos (by omega),if_neg (by omega),if_pos (by omega),if_pos (by omega),if_pos (by omega),if_pos (by omega)]
              exact g1 k (by omega)
            · refine(eI _).trans ?_
              simp only[AF.j1,Bool.false_eq_true,if_false,let_,Option.bind_some,decide_eq_true hl,if_true,A1.f,hr k (by omega),e2.out,Int.toNat_natCast]
              rw[if_pos (by omega),if_pos (by omega),if_neg (by omega),if_pos (by omega),if_pos (by omega),if_pos (by omega)]
              exact g2 k (by omega)
        · rw[if_neg hl]
          have w0:runTo s 97 122 (s.size - i) i=i:=by
            rw[hd1]
            simp only[runTo,if_neg hl]
          rw[w0]at hw
          obtain⟨Kv,hv⟩:=word s (by omega) 48 57 i (by omega)
          dsimp only at hv
          by_cases hf:48≤bt s (i:Int)∧bt s (i:Int)≤57
          · rw[if_pos hf]
            obtain⟨Kr,hr⟩:=run_f s (by omega) (s.size - i) i (by omega)
            dsimp only at hr
            have hle:=runTo_le s 48 57 (s.size - i) i
            have hin:=runTo_in s 48 57 (s.size - i) i
            have hgt:i<runTo s 48 57 (s.size - i) i:=by
              rw[hd1]
              simp only[runTo,if_pos hf]
              have:=(runTo_le s 48 57 (s.size - i - 1) (i+1)).1
              omega
            generalize runTo s 48 57 (s.size - i) i=e at hv hr hle hin hgt ⊢
            have e1:Aside0 (wrap64 ((i:Int)+((e:Int) - i))=(e:Int)):=⟨by rw[w64 (by omega) (by omega)];omega⟩
            have e2:Aside0 (wrap64 ((e:Int) - i)=(e:Int) - i):=⟨w64 (by omega) (by omega)⟩
            by_cases h10:e - i>10
            · rw[if_pos (.inl h10)]
              refine⟨.succ (.succ (.succ (.succ (.succ ⟨Kw+Kv,fun k hk=>?_⟩)))),.succ (.succ (.succ ⟨Kr,fun k hk=>?_⟩))⟩
              · refine(eS _).trans ?_
                simp only[AD.j1,Bool.false_eq_true,if_false,hw (k+3) (by omega),hv (k+3) (by omega),Option.bind_some]
                rw[if_neg (by omega),if_pos (by omega)]
                simp only[AD.l1,e1.out]
                rw[if_pos (by omega),if_neg (by omega)]
                simp only[AD.j3]
                rw[if_pos (by omega)]
                simp only[AD.j4,if_true]
                rfl
              · refine(eI _).trans ?_
                simp only[AF.j1,Bool.false_eq_true,if_false,let_,fig_,Option.bind_some,decide_eq_false hl,decide_eq_true hf,if_true,A8.f,hr (k+1) (by omega)]
                rw[if_pos (by omega),if_pos (by omega)]
                simp only[AF.l1,e2.out]
                rw[if_pos (by omega),if_neg (by omega),if_pos (by omega)]
                rfl
            · obtain⟨vS,v0⟩:=val_S s (by omega) o i e (by omega) (by omega) (fun m a b=>hin m a b) (r:=told o (if e - i>10∨valF s (e - i) i 0>4294967295 then none else(toks s d e).map ((⟨2,(⟨#[]⟩ :ByteArray),valF s (e - i) i 0⟩ :S95) :: ·))) (e - i) i 0 (by omega) (Nat.le_refl _) (Int.le_refl _) (by simp)
              obtain⟨vI1,vI2⟩:=val_I s (by omega) o (by omega) i e (by omega) (by omega) (by omega) (fun m a b=>hin m a b) (r:=told (o ++ [⟨2,(⟨#[]⟩ :ByteArray),valF s (e - i) i 0⟩]) (toks s d e)) (e - i) i 0 (by omega) (Nat.le_refl _) (Int.le_refl _) (by simp)
              have gS: ∀ {r},Evt (fun k=>AD.l1 k s [] o (i:Int) ((e:Int) - i) 0 (i:Int)) r→Evt (fun k=>AD.l0 k s [] o (i:Int)) r:=fun ⟨K,h⟩=> .succ (.succ ⟨K+Kw+Kv,fun k hk=>by
                refine(eS _).trans ?_
                simp only[AD.j1,Bool.false_eq_true,if_false,hw k (by omega),hv k (by omega),Option.bind_some]
                rw[if_neg (by omega),if_pos (by omega)]
                exact h k (by omega)⟩)
              have gI: ∀ {r},Evt (fun k=>AF.l1 k s o (i:Int) (e:Int) 0 (i:Int)) r→Evt (fun k=>AF.l0 k s o (i:Int)) r:=fun ⟨K,h⟩=> .succ (.succ ⟨K+Kr,fun k hk=>by
                refine(eI _).trans ?_
                simp only[AF.j1,Bool.false_eq_true,if_false,let_,fig_,Option.bind_some,decide_eq_false hl,decide_eq_true hf,if_true,A8.f,hr k (by omega)]
                rw[if_pos (by omega),if_pos (by omega)]
                exact h k (by omega)⟩)
              generalize valF s (e - i) i 0=v at vS v0 vI1 vI2 ⊢
              by_cases hb:v>4294967295
              · rw[if_pos (.inr hb)]at vS ⊢
                refine⟨gS (vS ?_),gI (vI1 hb)⟩
                refine .succ (.succ (.const fun k=>?_))
                simp only[AD.j3,halfS,Option.bind_some]
                rw[if_neg (by omega),decide_eq_false (by omega)]
                simp only[AD.j4,Bool.not_false,if_true]
                rfl
              · have hno: ¬ (e - i>10∨v>4294967295):=by omega
                rw[if_neg hno]at vS ⊢
                obtain⟨⟨K1,g1⟩,g2⟩:=ih e (o ++ [⟨2,(⟨#[]⟩ :ByteArray),v⟩]) (by omega) (by omega) (by simp only[List.length_append,List.length_cons,List.length_nil];omega)
                rw[told_map]at vS ⊢
                refine⟨gS (vS ?_),gI (vI2 hb g2)⟩
                refine .succ (.succ ⟨K1,fun k hk=>?_⟩)
                simp only[AD.j3,halfS,Option.bind_some]
                rw[if_neg (by omega),decide_eq_true (by omega)]
                simp only[AD.j4,Bool.not_true,Bool.false_eq_true,if_false,e1.out]
                rw[if_pos (by omega)]
                exact g1 k hk
          · rw[if_neg hf]
            have v0:runTo s 48 57 (s.size - i) i=i:=by
              rw[hd1]
              simp only[runTo,if_neg hf]
            rw[v0]at hv
            obtain⟨Km,hm⟩:=mark_S s (by omega) i (by omega)
            obtain⟨Kn,hn⟩:=mark_I s (by omega) i (by omega)
            dsimp only at hm hn
            obtain⟨z1,z2⟩:=findM_sz s i marks marks_sz
            generalize findM s i marks=m at hm hn z1 z2 ⊢
            have e1:Aside0 (wrap64 ((i:Int)+(m.size:Int))=((i+m.size:Nat):Int)):=⟨by rw[w64 (by omega) (by omega)];omega⟩
            by_cases he:m.toList= []
            · rw[if_pos he]
              refine⟨.succ (.succ ⟨Kw+Kv+Km,fun k hk=>?_⟩),.succ (.succ ⟨Kn,fun k hk=>?_⟩)⟩
              · refine(eS _).trans ?_
                simp only[AD.j1,Bool.false_eq_true,if_false,hw k (by omega),hv k (by omega),hm k (by omega),Option.bind_some]
                rw[if_neg (by omega),if_neg (by omega),if_pos he]
                rfl
              · refine(eI _).trans ?_
                simp only[AF.j1,Bool.false_eq_true,if_false,let_,fig_,Option.bind_some,decide_eq_false hl,decide_eq_false hf,hn k (by omega)]
                rw[if_pos (by omega),if_pos (by omega),if_pos he]
                rfl
            · rw[if_neg he,told_map]
              have hpos:1≤m.size:=by
                rcases Nat.eq_zero_or_pos m.size with h|h
                · exact absurd (by rw[ByteArray.toList_eq];exact List.eq_nil_of_length_eq_zero h) he
                · exact h
              obtain⟨⟨K1,g1⟩,⟨K2,g2⟩⟩:=ih (i+m.size) (o ++ [⟨3,m,0⟩]) (by omega) (by have:=z2.resolve_left he;omega) (by simp only[List.length_append,List.length_cons,List.length_nil];have:=z2.resolve_left he;omega)
              dsimp only at g1 g2
              refine⟨.succ (.succ ⟨Kw+Kv+Km+K1,fun k hk=>?_⟩),.succ (.succ ⟨Kn+K2,fun k hk=>?_⟩)⟩
              · refine(eS _).trans ?_
                simp only[AD.j1,Bool.false_eq_true,if_false,hw k (by omega),hv k (by omega),hm k (by omega),Option.bind_some,e1.out]
                rw[if_neg (by omega),if_neg (by omega),if_neg he,if_pos (by omega)]
                exact g1 k (by omega)
              · refine(eI _).trans ?_
                simp only[AF.j1,Bool.false_eq_true,if_false,let_,fig_,Option.bind_some,decide_eq_false hl,decide_eq_false hf,hn k (by omega),e1.out]
                rw[if_pos (by omega),if_pos (by omega),if_neg he,if_pos (by omega)]
                exact g2 k (by omega)
    · exact fin (d+1) i o hlt h2
/-- What SignsOf tells. -/
def signsV (s:ByteArray):List S95×Bool:=if(s.size:Int)>1200 then([],false)else told [] (toks s s.size 0)
theorem signsOf (s:ByteArray):Evt (fun k=>AD.f k s) (signsV s)∧Evt (fun k=>AF.f k s) (signsV s):=by
  unfold signsV
  by_cases h:(s.size:Int)>1200
  · exact⟨.const fun k=>by simp only[AD.f,Option.bind_some,if_pos h],.const fun k=>by simp only[AF.f,if_pos h]⟩
  · obtain⟨⟨K1,g1⟩,⟨K2,g2⟩⟩:=signsF s (by omega) s.size 0 [] (by omega) (by omega) (by simp;omega)
    rw[if_neg h]
    exact⟨⟨K1,fun k hk=>by simp only[AD.f,Option.bind_some,if_neg h];exact g1 k hk⟩,⟨K2,fun k hk=>by simp only[AF.f,if_neg h];exact g2 k hk⟩⟩
theorem actS (a b:Int):Tot (fun _=>BF.f a b):=by
  refine⟨decide ((0≤a∧a≤5)∧(0≤b∧b≤65535)),.const fun k=>?_⟩
  unfold BF.f
  simp only[inS,Option.bind_some,decide_eq_true_eq]
  split
  · rename_i h
    exact congrArg some (by rw[Bool.eq_iff_iff];simp[h])
  · rename_i h
    exact congrArg some (by rw[Bool.eq_iff_iff];simp[h])
/-- A rule's second loop, and its end. -/
theorem rule_l1 (x:List Int) (l:List S54) (a b:Int) (hn:l.length≤4611686018427387904): ∃ r,Evt (fun k=>AV.l1 k 0 x l a b) r∧Evt (fun k=>Af.l1 k l (l.length:Int) 0 x l a b) r:=by
  refine down (T:=fun i=> ∃ r,Evt (fun k=>AV.l1 k (i:Int) x l a b) r∧Evt (fun k=>Af.l1 k l (l.length:Int) (i:Int) x l a b) r) (n:=l.length) ?_ ?_ l.length 0 (by omega)
  · obtain⟨v,K,hv⟩:=actS a b
    dsimp only at hv
    have hv0:=hv K (Nat.le_refl _)
    have hv1:BT.f a b=some v:=hv0
    refine⟨if(x.length:Int)≤4 then(if(l.length:Int)≤3 then v else false)else false,.succ (.const fun k=>?_),.succ (.const fun k=>?_)⟩
    · simp only[AV.l1]
      rw[if_neg (by omega),hv0]
      simp only[Option.bind_some]
      repeat' split
      all_goals rfl
    · simp only[Af.l1]
      rw[if_neg (by omega),hv1]
      simp only[Option.bind_some]
      repeat' split
      all_goals rfl
  · intro i hi ih
    obtain⟨r,⟨K1,h1⟩,⟨K2,h2⟩⟩:=ih
    dsimp only at h1 h2
    obtain⟨q,e,e'⟩ : ∃ q,BL.f l[i].f0 l[i].f1.f0 l[i].f1.f1 l[i].f2 l[i].f3.f0 l[i].f3.f1=some q∧Ba.f l[i].f0 l[i].f1.f0 l[i].f1.f1 l[i].f2 l[i].f3.f0 l[i].f3.f1=some q:=⟨_,condS _ _ _ _ _ _,condI _ _ _ _ _ _⟩
    refine⟨if q=true then r else false,.succ ⟨K1,fun k hk=>?_⟩,.succ ⟨K2,fun k hk=>?_⟩⟩
    · simp only[AV.l1]
      rw[if_pos (by omega),if_pos (by omega),nrd_T54 l i hi,e,wsucc hi (by omega)]
      simp only[Option.bind_some]
      rw[h1 k (by omega)]
      split <;> rfl
    · simp only[Af.l1]
      rw[if_pos (by omega),if_pos (by omega),if_pos (by omega),nrd_T54 l i hi,e',wsucc hi (by omega)]
      simp only[Option.bind_some]
      rw[h2 k (by omega)]
      split <;> rfl
theorem rule (x:List Int) (l:List S54) (a b:Int) (hx:x.length≤4611686018427387904) (hn:l.length≤4611686018427387904): ∃ r,Evt (fun k=>AV.f k x l a b) r∧Evt (fun k=>Af.f k x l a b) r:=by
  refine down (T:=fun i=> ∃ r,Evt (fun k=>AV.l0 k (i:Int) x l a b) r∧Evt (fun k=>Af.l0 k x (x.length:Int) (i:Int) x l a b) r) (n:=x.length) ?_ ?_ x.length 0 (by omega)
  · obtain⟨r,⟨K1,h1⟩,⟨K2,h2⟩⟩:=rule_l1 x l a b hn
    dsimp only at h1 h2
    refine⟨r,.succ ⟨K1,fun k hk=>?_⟩,.succ ⟨K2,fun k hk=>?_⟩⟩
    · simp only[AV.l0]
      rw[if_neg (by omega)]
      exact h1 k hk
    · simp only[Af.l0]
      rw[if_neg (by omega)]
      exact h2 k hk
  · intro i hi ih
    obtain⟨r,⟨K1,h1⟩,⟨K2,h2⟩⟩:=ih
    dsimp only at h1 h2
    obtain⟨q,e,e'⟩ : ∃ q,Ab.f x[i]=some q∧Aw.f x[i]=some q:=⟨_,halfS _,halfI _⟩
    have ew:0<i→wrap64 ((i:Int) - 1)=((i - 1:Nat):Int):=fun h=>by rw[w64 (by omega) (by omega)];omega
    refine⟨if q=true then(if 0<i∧rd x (wrap64 ((i:Int) - 1))≥x[i]then false else r)else false,.succ ⟨K1,fun k hk=>?_⟩,.succ ⟨K2,fun k hk=>?_⟩⟩
    · simp only[AV.l0]
      rw[if_pos (by omega),if_pos (by omega),nrd x i hi,e,wsucc hi (by omega)]
      simp only[Option.bind_some]
      by_cases h0:0<i
      · have h9:=ew h0
        rw[h9,if_pos (show(i:Int)>0 by omega),if_pos (show(0:Int)≤((i - 1:Nat):Int) by omega),if_pos (show((i - 1:Nat):Int)<(x.length:Int) by omega),h1 k (by omega)]
        simp only[h0,true_and]
        repeat' split
        all_goals rfl
      · rw[if_neg (show ¬ (i:Int)>0 by omega),h1 k (by omega)]
        simp only[h0,false_and,if_false]
        split <;> rfl
    · simp only[Af.l0]
      rw[if_pos (by omega),if_pos (by omega),if_pos (by omega),nrd x i hi,e',wsucc hi (by omega)]
      simp only[Option.bind_some]
      by_cases h0:0<i
      · have h9:=ew h0
        rw[h9,if_pos (show(i:Int)>0 by omega),if_pos (show(0:Int)≤((i - 1:Nat):Int) by omega),if_pos (show((i - 1:Nat):Int)<(x.length:Int) by omega),h2 k (by omega)]
        simp only[h0,true_and]
        repeat' split
        all_goals rfl
      · rw[if_neg (show ¬ (i:Int)>0 by omega),h2 k (by omega)]
        simp only[h0,false_and,if_false]
        split <;> rfl
theorem pol (a b c:Int) (l:List S50) (hn:l.length≤4611686018427387904) (hl: ∀ y ∈ l,y.f0.length≤4611686018427387904∧y.f1.length≤4611686018427387904): ∃ r,Evt (fun k=>AZ.f k a b c l) r∧Evt (fun k=>Ax.f k a b c l) r:=by
  refine down (T:=fun i=> ∃ r,Evt (fun k=>AZ.l0 k (i:Int) a b c l) r∧Evt (fun k=>Ax.l0 k l (l.length:Int) (i:Int) a b c l) r) (n:=l.length) ?_ ?_ l.length 0 (by omega)
  · obtain⟨v,K,hv⟩:=actS b c
    dsimp only at hv
    have hv0:=hv K (Nat.le_refl _)
    have hv1:BT.f b c=some v:=hv0
    refine⟨if decide (0≤a∧a≤4294967295)=true then(if v=true then decide ((l.length:Int)≤10)else false)else false,.succ (.const fun k=>?_),.succ (.const fun k=>?_)⟩
    · simp only[AZ.l0]
      rw[if_neg (by omega),halfS,hv0]
      simp only[Option.bind_some]
      repeat' split
      all_goals rfl
    · simp only[Ax.l0]
      rw[if_neg (by omega),halfI,hv1]
      simp only[Option.bind_some]
      repeat' split
      all_goals rfl
  · intro i hi ih
    obtain⟨r,⟨K1,h1⟩,⟨K2,h2⟩⟩:=ih
    have hb:=hl _ (List.getElem_mem hi)
    obtain⟨q,⟨K3,h3⟩,⟨K4,h4⟩⟩:=rule l[i].f0 l[i].f1 l[i].f2 l[i].f3 hb.1 hb.2
    dsimp only at h1 h2 h3 h4
    refine⟨if q=true then r else false,.succ ⟨K1+K3,fun k hk=>?_⟩,.succ ⟨K2+K4,fun k hk=>?_⟩⟩
    · simp only[AZ.l0]
      rw[if_pos (by omega),if_pos (by omega),nrd_T50 l i hi,h3 k (by omega),wsucc hi (by omega)]
      simp only[Option.bind_some]
      rw[h1 k (by omega)]
      split <;> rfl
    · simp only[Ax.l0]
      rw[if_pos (by omega),if_pos (by omega),if_pos (by omega),nrd_T50 l i hi,h4 k (by omega),wsucc hi (by omega)]
      simp only[Option.bind_some]
      rw[h2 k (by omega)]
      split <;> rfl
/-- A right condition. -/
def CondR (y:S54):Prop:=(0≤y.f0∧y.f0≤2)∧((0≤y.f1.f0∧y.f1.f0≤4294967295)∧(0≤y.f1.f1∧y.f1.f1≤4294967295))∧((0≤y.f3.f0∧y.f3.f0≤4294967295)∧(0≤y.f3.f1∧y.f3.f1≤4294967295))∧1≤y.f2∧y.f2≤6
/-- Numbers that go up, each a half. -/
def NumsR (x:List Int):Prop:=(∀ i (h:i<x.length),0≤x[i]∧x[i]≤4294967295)∧∀ i (h:i+1<x.length),x[i]<x[i+1]
/-- A right rule. -/
def RuleR (x:List Int) (l:List S54) (a b:Int):Prop:=NumsR x∧(∀ y ∈ l,CondR y)∧x.length≤4∧l.length≤3∧(0≤a∧a≤5)∧(0≤b∧b≤65535)
theorem act_inv {a b:Int} (h:((BF.f a b).bind fun t=>some t)=some true):(0≤a∧a≤5)∧(0≤b∧b≤65535):=by
  simp only[BF.f,inS,Option.bind_some]at h
  by_cases h1:0≤a∧a≤5
  · rw[decide_eq_true h1,if_pos rfl]at h
    simp only[Option.bind_some,Option.some.injEq,decide_eq_true_eq]at h
    exact⟨h1,h⟩
  · rw[decide_eq_false h1,if_neg (by simp)]at h
    simp at h
theorem rule_inv1 (x:List Int) (l:List S54) (a b:Int) (hn:l.length≤4611686018427387904): ∀ (k i:Nat),i≤l.length→AV.l1 k (i:Int) x l a b=some true→(∀ j (h:j<l.length),i≤j→CondR l[j])∧x.length≤4∧l.length≤3∧(0≤a∧a≤5)∧(0≤b∧b≤65535):=by
  intro k
  induction k with
  | zero=>intro i _ h;simp[AV.l1]at h
  | succ k ih=>
    intro i hi h
    simp only[AV.l1]at h
    by_cases hlt:i<l.length
    · rw[if_pos (by omega),if_pos (by omega),nrd_T54 l i hlt,condS,wsucc hlt (by omega)]at h
      simp only[Option.bind_some,decide_eq_true_eq]at h
      by_cases hc:(0≤l[i].f0∧l[i].f0≤2)∧((0≤l[i].f1.f0∧l[i].f1.f0≤4294967295)∧(0≤l[i].f1.f1∧l[i].f1.f1≤4294967295))∧((0≤l[i].f3.f0∧l[i].f3.f0≤4294967295)∧(0≤l[i].f3.f1∧l[i].f3.f1≤4294967295))∧1≤l[i].f2∧l[i].f2≤6
      · rw[if_pos hc]at h
        obtain⟨h1,h2⟩:=ih (i+1) (by omega) h
        refine⟨fun j hj hij=>?_,h2⟩
        rcases Nat.lt_or_ge i j with h3|h3
        · exact h1 j hj (by omega)
        · have:i=j:=by omega
          subst this
          exact hc
      · rw[if_neg hc]at h
        simp at h
    · rw[if_neg (by omega)]at h
      by_cases h1:(x.length:Int)≤4
      · by_cases h2:(l.length:Int)≤3
        · rw[if_pos h1,if_pos h2]at h
          exact⟨fun j hj hij=>by omega,by omega,by omega,act_inv h⟩
        · rw[if_pos h1,if_neg h2]at h
          simp at h
      · rw[if_neg h1]at h
        simp at h
theorem rule_inv0 (x:List Int) (l:List S54) (a b:Int) (hx:x.length≤4611686018427387904) (hn:l.length≤4611686018427387904): ∀ (k i:Nat),i≤x.length→AV.l0 k (i:Int) x l a b=some true→(∀ j (h:j<x.length),i≤j→0≤x[j]∧x[j]≤4294967295)∧(∀ j (h:j+1<x.length),i≤j+1→x[j]<x[j+1])∧(∀ y ∈ l,CondR y)∧x.length≤4∧l.length≤3∧(0≤a∧a≤5)∧(0≤b∧b≤65535):=by
  intro k
  induction k with
  | zero=>intro i _ h;simp[AV.l0]at h
  | succ k ih=>
    intro i hi h
    simp only[AV.l0]at h
    by_cases hlt:i<x.length
    · rw[if_pos (by omega),if_pos (by omega),nrd x i hlt,halfS,wsucc hlt (by omega)]at h
      simp only[Option.bind_some,decide_eq_true_eq]at h
      by_cases hc:0≤x[i]∧x[i]≤4294967295
      · rw[if_pos hc]at h
        by_cases h0:i=0
        · rw[if_neg (by omega)]at h
          obtain⟨h1,h2,h3⟩:=ih (i+1) (by omega) h
          refine⟨fun j hj hij=>?_,fun j hj hij=>h2 j hj (by omega),h3⟩
          rcases Nat.lt_or_ge i j with h4|h4
          · exact h1 j hj (by omega)
          · have:i=j:=by omega
            subst this
            exact hc
        · obtain⟨m,rfl⟩ : ∃ m,i=m+1:=⟨i - 1,by omega⟩
          have ew:wrap64 (((m+1:Nat):Int) - 1)=(m:Int):=by rw[w64 (by omega) (by omega)];omega
          rw[if_pos (by omega),ew,if_pos (by omega),if_pos (by omega),nrd x m (by omega)]at h
          by_cases hg:x[m]≥x[m+1]
          · rw[if_pos hg]at h
            simp at h
          · rw[if_neg hg]at h
            obtain⟨h1,h2,h3⟩:=ih (m+1+1) (by omega) h
            refine⟨fun j hj hij=>?_,fun j hj hij=>?_,h3⟩
            · rcases Nat.lt_or_ge (m+1) j with h4|h4
              · exact h1 j hj (by omega)
              · have:j=m+1:=by omega
                subst this
                exact hc
            · rcases Nat.lt_or_ge m j with h4|h4
              · exact h2 j hj (by omega)
              · have:j=m:=by omega
                subst this
                omega
      · rw[if_neg hc]at h
        simp at h
    · rw[if_neg (by omega)]at h
      obtain⟨h1,h2⟩:=rule_inv1 x l a b hn k 0 (by omega) h
      exact⟨fun j hj hij=>by omega,fun j hj hij=>by omega,fun y hy=>by
        obtain⟨j,hj,rfl⟩:=List.getElem_of_mem hy
        exact h1 j hj (by omega),h2⟩
theorem rule_inv (x:List Int) (l:List S54) (a b:Int) (hx:x.length≤4611686018427387904) (hn:l.length≤4611686018427387904) {k:Nat} (h:AV.f k x l a b=some true):RuleR x l a b:=by
  obtain⟨h1,h2,h3⟩:=rule_inv0 x l a b hx hn k 0 (by omega) h
  exact⟨⟨fun i hi=>h1 i hi (by omega),fun i hi=>h2 i hi (by omega)⟩,h3⟩
theorem pol_inv (a b c:Int) (l:List S50) (hn:l.length≤4611686018427387904) (hl: ∀ y ∈ l,y.f0.length≤4611686018427387904∧y.f1.length≤4611686018427387904) {k:Nat} (h:AZ.f k a b c l=some true):(0≤a∧a≤4294967295)∧((0≤b∧b≤5)∧(0≤c∧c≤65535))∧l.length≤10∧∀ y ∈ l,RuleR y.f0 y.f1 y.f2 y.f3:=by
  have key: ∀ (k i:Nat),i≤l.length→AZ.l0 k (i:Int) a b c l=some true→(0≤a∧a≤4294967295)∧((0≤b∧b≤5)∧(0≤c∧c≤65535))∧l.length≤10∧∀ j (h:j<l.length),i≤j→RuleR l[j].f0 l[j].f1 l[j].f2 l[j].f3:=by
    intro k
    induction k with
    | zero=>intro i _ h;simp[AZ.l0]at h
    | succ k ih=>
      intro i hi h
      simp only[AZ.l0]at h
      by_cases hlt:i<l.length
      · have hb:=hl _ (List.getElem_mem hlt)
        rw[if_pos (by omega),if_pos (by omega),nrd_T50 l i hlt,wsucc hlt (by omega)]at h
        cases hr:AV.f k l[i].f0 l[i].f1 l[i].f2 l[i].f3 with
        | none=>rw[hr]at h;simp at h
        | some t=>
          rw[hr]at h
          simp only[Option.bind_some]at h
          cases t with
          | false=>rw[if_neg (by simp)]at h;simp at h
          | true=>
            rw[if_pos rfl]at h
            obtain⟨h1,h2,h3,h4⟩:=ih (i+1) (by omega) h
            refine⟨h1,h2,h3,fun j hj hij=>?_⟩
            rcases Nat.lt_or_ge i j with h5|h5
            · exact h4 j hj (by omega)
            · have:i=j:=by omega
              subst this
              exact rule_inv _ _ _ _ hb.1 hb.2 hr
      · rw[if_neg (by omega),halfS]at h
        simp only[Option.bind_some,decide_eq_true_eq]at h
        by_cases hc:0≤a∧a≤4294967295
        · rw[if_pos hc]at h
          cases hr:BF.f b c with
          | none=>rw[hr]at h;simp at h
          | some t=>
            rw[hr]at h
            simp only[Option.bind_some]at h
            cases t with
            | false=>rw[if_neg (by simp)]at h;simp at h
            | true=>
              rw[if_pos rfl]at h
              simp only[Option.some.injEq,decide_eq_true_eq]at h
              exact⟨hc,act_inv (by rw[hr];rfl),by omega,fun j hj hij=>by omega⟩
        · rw[if_neg hc]at h
          simp at h
  obtain⟨h1,h2,h3,h4⟩:=key k 0 (by omega) h
  exact⟨h1,h2,h3,fun y hy=>by
    obtain⟨j,hj,rfl⟩:=List.getElem_of_mem hy
    exact h4 j hj (by omega)⟩
/-- Two rows that rise and bear the same are one. -/
theorem riseEq: ∀ xs ys:List Int,xs.Pairwise (· < ·)→ys.Pairwise (· < ·)→(∀ a,a ∈ xs ↔ a ∈ ys)→xs=ys
  | [],[],_,_,_=>rfl
  | [],y :: ys,_,_,h=>absurd ((h y).2 List.mem_cons_self) (by simp)
  | x :: xs,[],_,_,h=>absurd ((h x).1 List.mem_cons_self) (by simp)
  | x :: xs,y :: ys,hx,hy,h=>by
    rw[List.pairwise_cons]at hx hy
    have e:x=y:=by
      rcases List.mem_cons.1 ((h x).1 List.mem_cons_self)with e|e
      · exact e
      rcases List.mem_cons.1 ((h y).2 List.mem_cons_self)with e2|e2
      · exact e2.symm
      have h1:=hx.1 y e2
      have h2:=hy.1 x e
      omega
    subst e
    rw[riseEq xs ys hx.2 hy.2 (fun a=>⟨fun ha=>by
      rcases List.mem_cons.1 ((h a).1 (List.mem_cons_of_mem _ ha))with e|e
      · have:=hx.1 a ha;omega
      · exact e,fun ha=>by
      rcases List.mem_cons.1 ((h a).2 (List.mem_cons_of_mem _ ha))with e|e
      · have:=hy.1 a ha;omega
      · exact e⟩)]
theorem sort_rise (zs:List Int):(zs.mergeSort fun x y=>decide (x≤y)).Pairwise (· ≤ ·):=by
  have h:=List.pairwise_mergeSort (le:=fun x y:Int=>decide (x≤y)) (fun a b c h1 h2=>by simp at h1 h2 ⊢;omega) (fun a b=>by simp;omega) zs
  exact h.imp (fun h=>by simpa using h)
/-- What a number put into a rising row makes of it. -/
def put (x:List Int) (a:Int):List Int:=if a ∈ x then x else x.filter (fun b=>decide (b<a)) ++ [a] ++ x.filter (fun b=>decide (b>a))
theorem put_mem (x:List Int) (a b:Int):b ∈ put x a ↔ b ∈ x∨b=a:=by
  unfold put
  split
  · rename_i h
    exact⟨.inl,fun hb=>hb.elim id (fun e=>e ▸ h)⟩
  · rename_i h
    simp only[List.mem_append,List.mem_filter,List.mem_singleton,decide_eq_true_eq]
    constructor
    · rintro ((h1|h1)|h1)
      · exact .inl h1.1
      · exact .inr h1
      · exact .inl h1.1
    · rintro (h1|h1)
      · have hne:b≠a:=fun e=>h (e ▸ h1)
        rcases Int.lt_or_gt_of_ne hne with h2|h2
        · exact .inl (.inl ⟨h1,h2⟩)
        · exact .inr ⟨h1,h2⟩
      · exact .inl (.inr h1)
theorem put_rise (x:List Int) (a:Int) (h:x.Pairwise (· < ·)):(put x a).Pairwise (· < ·):=by
  unfold put
  split
  · exact h
  · rw[List.pairwise_append,List.pairwise_append]
    refine⟨⟨h.filter _,by simp,fun u hu v hv=>?_⟩,h.filter _,fun u hu v hv=>?_⟩
    · rw[List.mem_filter,decide_eq_true_eq]at hu
      rw[List.mem_singleton]at hv
      omega
    · rw[List.mem_filter,decide_eq_true_eq]at hv
      rcases List.mem_append.1 hu with hu|hu
      · rw[List.mem_filter,decide_eq_true_eq]at hu
        omega
      · rw[List.mem_singleton]at hu
        omega
theorem put_len (x:List Int) (a:Int):(put x a).length≤x.length+1∨2*x.length+1<(put x a).length:=by
  unfold put
  split
  · exact .inl (by omega)
  · refine .inl ?_
    have key: ∀ l:List Int,(l.filter (fun b=>decide (b<a))).length+(l.filter (fun b=>decide (b>a))).length≤l.length:=by
      intro l
      induction l with
      | nil=>simp
      | cons b l ih=>
        by_cases h1:b<a
        · rw[List.filter_cons_of_pos (by simpa using h1),List.filter_cons_of_neg (by simp;omega)]
          simp only[List.length_cons]
          omega
        · by_cases h2:b>a
          · rw[List.filter_cons_of_neg (by simpa using h1),List.filter_cons_of_pos (by simpa using h2)]
            simp only[List.length_cons]
            omega
          · rw[List.filter_cons_of_neg (by simpa using h1),List.filter_cons_of_neg (by simpa using h2)]
            simp only[List.length_cons]
            omega
    have:=key x
    simp only[List.length_append,List.length_cons,List.length_nil]
    omega
theorem inNums (x:List Int) (a:Int) (hn:x.length≤4611686018427387904):Evt (fun k=>A5.f k x a) (decide (a ∈ x)):=by
  have key:=down (T:=fun i=>Evt (fun k=>A5.l0 k x a (i:Int)) (decide (a ∈ x.drop i))) (n:=x.length) ?_ ?_ x.length 0 (by omega)
  · exact key
  · refine .succ (.const fun k=>?_)
    simp only[A5.l0]
    rw[if_neg (by omega),List.drop_length]
    simp
  · rintro i hi ⟨K,h⟩
    dsimp only at h
    refine .succ ⟨K,fun k hk=>?_⟩
    simp only[A5.l0]
    rw[if_pos (by omega),if_pos (by omega),nrd x i hi,List.drop_eq_getElem_cons hi]
    by_cases e:x[i]=a
    · rw[if_pos e]
      simp[e]
    · rw[if_neg e,wsucc hi (by omega),h k hk]
      refine congrArg some ?_
      rw[decide_eq_decide,List.mem_cons]
      exact⟨.inr,fun h=>h.resolve_left (fun h=>e h.symm)⟩
theorem put_l1 (x:List Int) (a:Int) (hn:x.length≤2000000000000): ∀ d i (o:List Int),i+d=x.length→o.length+d≤16000000000000→Evt (fun k=>Aa.l1 k x a o (i:Int)) (o ++ (x.drop i).filter (fun b=>decide (b>a)))
  | 0,i,o,hi,ho=>by
    refine .succ (.const fun k=>?_)
    simp only[Aa.l1]
    rw[if_neg (by omega),List.drop_eq_nil_of_le (by omega)]
    simp
  | d+1,i,o,hi,ho=>by
    have hlt:i<x.length:=by omega
    rw[List.drop_eq_getElem_cons hlt]
    by_cases h:x[i]>a
    · obtain⟨K,g⟩:=put_l1 x a hn d (i+1) (o ++ [x[i]]) (by omega) (by simp;omega)
      refine .succ ⟨K,fun k hk=>?_⟩
      simp only[Aa.l1]
      rw[if_pos (by omega),if_pos (by omega),nrd x i hlt,if_pos h,if_pos (by omega),wsucc hlt (by omega),List.filter_cons_of_pos (by simpa using h)]
      have:=g k hk
      rw[List.append_assoc]at this
      exact this
    · obtain⟨K,g⟩:=put_l1 x a hn d (i+1) o (by omega) (by omega)
      refine .succ ⟨K,fun k hk=>?_⟩
      simp only[Aa.l1]
      rw[if_pos (by omega),if_pos (by omega),nrd x i hlt,if_neg h,wsucc hlt (by omega),List.filter_cons_of_neg (by simpa using h)]
      exact g k hk
theorem put_l0 (x:List Int) (a:Int) (hn:x.length≤2000000000000): ∀ d i (o:List Int),i+d=x.length→o.length+d≤4000000000000→Evt (fun k=>Aa.l0 k x a o (i:Int)) (o ++ (x.drop i).filter (fun b=>decide (b<a)) ++ [a] ++ x.filter (fun b=>decide (b>a)))
  | 0,i,o,hi,ho=>by
    obtain⟨K,g⟩:=put_l1 x a hn x.length 0 (o ++ [a]) (by omega) (by simp;omega)
    refine .succ ⟨K,fun k hk=>?_⟩
    simp only[Aa.l0]
    rw[if_neg (by omega),if_pos (by omega),List.drop_eq_nil_of_le (by omega)]
    simpa using g k hk
  | d+1,i,o,hi,ho=>by
    have hlt:i<x.length:=by omega
    rw[List.drop_eq_getElem_cons hlt]
    by_cases h:x[i]<a
    · obtain⟨K,g⟩:=put_l0 x a hn d (i+1) (o ++ [x[i]]) (by omega) (by simp;omega)
      refine .succ ⟨K,fun k hk=>?_⟩
      simp only[Aa.l0]
      rw[if_pos (by omega),if_pos (by omega),nrd x i hlt,if_pos h,if_pos (by omega),wsucc hlt (by omega),List.filter_cons_of_pos (by simpa using h)]
      have:=g k hk
      simp only[List.append_assoc,List.cons_append,List.nil_append]at this ⊢
      exact this
    · obtain⟨K,g⟩:=put_l0 x a hn d (i+1) o (by omega) (by omega)
      refine .succ ⟨K,fun k hk=>?_⟩
      simp only[Aa.l0]
      rw[if_pos (by omega),if_pos (by omega),nrd x i hlt,if_neg h,wsucc hlt (by omega),List.filter_cons_of_neg (by simpa using h)]
      exact g k hk
theorem putV (x:List Int) (a:Int) (hn:x.length≤2000000000000):Evt (fun k=>Aa.f k x a) (put x a):=by
  obtain⟨K1,h1⟩:=inNums x a (by omega)
  obtain⟨K2,h2⟩:=put_l0 x a hn x.length 0 [] (by omega) (by simp;omega)
  dsimp only at h1 h2
  refine⟨K1+K2,fun k hk=>?_⟩
  simp only[Aa.f,h1 k (by omega),Option.bind_some,put,decide_eq_true_eq]
  by_cases h:a ∈ x
  · rw[if_pos h,if_pos h]
  · rw[if_neg h,if_neg h]
    have:=h2 k (by omega)
    simpa using this
/-! The strict reading of signs, as a plain function. -/
def pTake (t:ByteArray):List S95→Option (List S95)
  | []=>none
  | x :: r=>if x.f0≠2∧x.f1.toList=t.toList then some r else none
/-- With such a sign ahead, or without. -/
def byTake {α:Type} (t:ByteArray) (l:List S95) (no:α) (yes:List S95→α):α:=match pTake t l with|none=>no|some r=>yes r
theorem byTake_none {α:Type} {t:ByteArray} {l:List S95} (h:pTake t l=none) (no:α) (yes:List S95→α):byTake t l no yes=no:=by simp only[byTake,h]
theorem byTake_some {α:Type} {t:ByteArray} {l r:List S95} (h:pTake t l=some r) (no:α) (yes:List S95→α):byTake t l no yes=yes r:=by simp only[byTake,h]
def pNum:List S95→Option (Int×List S95)
  | []=>none
  | x :: r=>if x.f0=2 then some (x.f2,r)else none
/-- A name's place among some, counted from n on. -/
def place (w:ByteArray):List ByteArray→Int→Option Int
  | [],_=>none
  | m :: ms,n=>if m.toList=w.toList then some n else place w ms (n+1)
def pName (ns:List ByteArray):List S95→Option (Int×List S95)
  | []=>none
  | x :: r=>if x.f0=1 then(place x.f1 ns 0).map fun i=>(i,r)else none
def acts:List ByteArray:=[(⟨#[107,105,108,108]⟩ :ByteArray),(⟨#[116,114,97,112]⟩ :ByteArray),(⟨#[101,114,114]⟩ :ByteArray),(⟨#[116,114,97,99,101]⟩ :ByteArray),(⟨#[108,111,103]⟩ :ByteArray),(⟨#[97,108,108,111,119]⟩ :ByteArray)]
def calls:List ByteArray:=[(⟨#[114,101,97,100]⟩ :ByteArray),(⟨#[119,114,105,116,101]⟩ :ByteArray),(⟨#[111,112,101,110]⟩ :ByteArray),(⟨#[99,108,111,115,101]⟩ :ByteArray),(⟨#[115,116,97,116]⟩ :ByteArray),(⟨#[109,109,97,112]⟩ :ByteArray),(⟨#[101,120,101,99]⟩ :ByteArray),(⟨#[102,111,114,107]⟩ :ByteArray),(⟨#[107,105,108,108]⟩ :ByteArray),(⟨#[115,101,110,100]⟩ :ByteArray),(⟨#[114,101,99,118]⟩ :ByteArray),(⟨#[101,120,105,116]⟩ :ByteArray)]
def cms:List ByteArray:=[(⟨#[61,61]⟩ :ByteArray),(⟨#[33,61]⟩ :ByteArray),(⟨#[60]⟩ :ByteArray),(⟨#[60,61]⟩ :ByteArray),(⟨#[62]⟩ :ByteArray),(⟨#[62,61]⟩ :ByteArray)]
def pAct (l:List S95):Option (Int×Int×List S95):=(pName acts l).bind fun a=>some (match pNum a.2 with|some d=>(a.1,d.1,d.2)|none=>(a.1,0,a.2))
def pWide (l:List S95):Option (Int×Int×List S95):=(pNum l).bind fun n=>match pTake (⟨#[58]⟩ :ByteArray) n.2 with|none=>some (0,n.1,n.2)|some r=>(pNum r).map fun m=>(n.1,m.1,m.2)
def pCm:List ByteArray→Int→List S95→Option (Int×List S95)
  | [],_,_=>none
  | m :: ms,n,l=>match pTake m l with|some r=>some (n,r)|none=>pCm ms (n+1) l
def pMask (l:List S95):Option (Int×Int×List S95):=match pTake (⟨#[38]⟩ :ByteArray) l with|some r=>pWide r|none=>some (4294967295,4294967295,l)
def pCv (l:List S95):Option (Int×Int×Int×List S95):=(pCm cms 1 l).bind fun c=>(pWide c.2).map fun v=>(c.1,v.1,v.2.1,v.2.2)
def pCond (l:List S95):Option (S54×List S95):=(pTake (⟨#[97,114,103]⟩ :ByteArray) l).bind fun r=>(pNum r).bind fun a=>(pMask a.2).bind fun m=>(pCv m.2.2).map fun v=>(⟨a.1,⟨m.1,m.2.1⟩,v.1,⟨v.2.1,v.2.2.1⟩⟩,v.2.2.2)
def pItem (l:List S95):Option (Int×List S95):=match pNum l with|some q=>some q|none=>pName calls l
def pNums:Nat→List Int→List S95→Option (List Int×List S95)
  | 0,_,_=>none
  | d+1,o,l=>(pItem l).bind fun n=>if n.1 ∈ o then none else byTake (⟨#[44]⟩ :ByteArray) n.2 (some (put o n.1,n.2)) (pNums d (put o n.1))
def pConds:Nat→List S54→List S95→Option (List S54×List S95)
  | 0,_,_=>none
  | d+1,o,l=>(pCond l).bind fun c=>byTake (⟨#[97,110,100]⟩ :ByteArray) c.2 (some (o ++ [c.1],c.2)) (pConds d (o ++ [c.1]))
def pEnd (ns:List Int) (cs:List S54) (l:List S95):Option (S50×List S95):=(pTake (⟨#[100,111]⟩ :ByteArray) l).bind fun r=>(pAct r).bind fun a=>(pTake (⟨#[59]⟩ :ByteArray) a.2.2).map fun q=>(⟨ns,cs,a.1,a.2.1⟩,q)
def pTail (ns:List Int) (l:List S95):Option (S50×List S95):=match pTake (⟨#[105,102]⟩ :ByteArray) l with|some r=>(pConds r.length [] r).bind fun c=>pEnd ns c.1 c.2|none=>pEnd ns [] l
def pRule (l:List S95):Option (S50×List S95):=(pTake (⟨#[111,110]⟩ :ByteArray) l).bind fun r=>match pTake (⟨#[97,110,121]⟩ :ByteArray) r with|some q=>pTail [] q|none=>(pNums r.length [] r).bind fun n=>pTail n.1 n.2
def pRules:Nat→List S50→List S95→Option (List S50)
  | 0,o,_=>some o
  | _+1,o,[]=>some o
  | d+1,o,x :: l=>(pRule (x :: l)).bind fun q=>pRules d (o ++ [q.1]) q.2
def pPolicy (l:List S95):Option (Int×Int×Int×List S50):=(pTake (⟨#[97,114,99,104]⟩ :ByteArray) l).bind fun r=>(pNum r).bind fun n=>(pTake (⟨#[59]⟩ :ByteArray) n.2).bind fun r=>(pTake (⟨#[100,101,102,97,117,108,116]⟩ :ByteArray) r).bind fun r=>(pAct r).bind fun a=>(pTake (⟨#[59]⟩ :ByteArray) a.2.2).bind fun r=>(pRules r.length [] r).map fun R=>(n.1,a.1,a.2.1,R)
/-- A sign as a text bears it. -/
def SgW (x:S95):Prop:=(x.f0=1∧∃ b r,x.f1.toList=b :: r∧97≤b.toNat)∨(x.f0=2∧0≤x.f2)∨(x.f0=3∧∃ b r,x.f1.toList=b :: r∧b.toNat<97)
theorem nrdI (l:List S95) (i:Nat) (h:i<l.length):rd_T95 l (i:Int)=l[i]:=getD_lt _ h
theorem back2 (i:Nat) (h:i≤100000):wrap64 (wrap64 ((i:Int)+1) - 1)=(i:Int):=by
  rw[w64 (x:=(i:Int)+1) (by omega) (by omega),show(i:Int)+1 - 1=(i:Int) by omega]
  exact w64 (by omega) (by omega)
theorem hasBad (L:List S95) (a:Int) (t:ByteArray):AX.f L a true t=some (false,a,true):=rfl
theorem mustBad (L:List S95) (a:Int) (t:ByteArray):AO.f L a true t=some (a,true):=rfl
theorem isNumBad (L:List S95) (a:Int):Ai.f L a true=some (false,a,true):=rfl
theorem numBad (L:List S95) (a:Int):Aj.f L a true=some (0,a,true):=rfl
theorem wideBad (L:List S95) (a:Int):BC.f L a true=some (0,0,a,true):=rfl
theorem hasNumE (L:List S95) (a:Int) (b:Bool):BG.f L a b=Ai.f L a b:=rfl
theorem numE (L:List S95) (a:Int) (b:Bool):A4.f L a b=Aj.f L a b:=rfl
/-- A name's place, looked for. -/
theorem indexI (w:ByteArray) (ns:List ByteArray) (hn:ns.length≤100):Evt (fun k=>Ay.f k ns w) ((place w ns 0).getD (-1)):=by
  have key:=down (T:=fun i=>Evt (fun k=>Ay.l0 k ns w (ns.length:Int) (i:Int)) ((place w (ns.drop i) (i:Int)).getD (-1))) (n:=ns.length) ?_ ?_ ns.length 0 (by omega)
  · exact key
  · refine .succ (.const fun k=>?_)
    simp only[Ay.l0]
    rw[if_neg (by omega),List.drop_length]
    rfl
  · rintro i hi ⟨K,h⟩
    dsimp only at h
    have er:rdOf ByteArray.empty ns (i:Int)=ns[i]:=getD_lt _ hi
    rw[List.drop_eq_getElem_cons hi]
    simp only[place]
    by_cases e:ns[i].toList=w.toList
    · refine .succ (.const fun k=>?_)
      simp only[Ay.l0]
      rw[if_pos (by omega),if_pos (by omega),if_pos (by omega),er,if_pos e.symm,if_pos e]
      rfl
    · refine .succ ⟨K,fun k hk=>?_⟩
      simp only[Ay.l0]
      rw[if_pos (by omega),if_pos (by omega),if_pos (by omega),er,if_neg (fun c=>e c.symm),if_neg e,wsucc hi (by omega)]
      exact h k hk
theorem place_nn (w:ByteArray): ∀ (ns:List ByteArray) (n p:Int),place w ns n=some p→n≤p
  | [],n,p,h=>by cases h
  | m :: ms,n,p,h=>by
    simp only[place]at h
    split at h
    · cases h;exact Int.le_refl _
    · have:=place_nn w ms (n+1) p h
      omega
theorem actNames:Evt (fun k=>A2.f k) acts:=⟨20,fun k hk=>by
  obtain⟨k,rfl⟩ : ∃ m,k=m+7:=⟨k - 7,by omega⟩
  have step: ∀ (k:Nat) (o:List ByteArray) (i:Nat) (v:ByteArray),i≤5→o.length≤10→BO.f (i:Int)=some v→A2.l0 (k+1) o (i:Int)=A2.l0 k (o ++ [v]) ((i+1:Nat):Int):=fun k o i v hi ho h=>by
    simp only[A2.l0]
    rw[if_pos (by omega),h,Option.bind_some,if_pos (by omega),show wrap64 ((i:Int)+1)=((i+1:Nat):Int)from wsucc (show i<100 by omega) (by omega)]
  show A2.l0 (k+7) [] ((0:Nat):Int)=_
  rw[step (k+6) _ 0 _ (by omega) (by decide) rfl,step (k+5) _ 1 _ (by omega) (by decide) rfl,step (k+4) _ 2 _ (by omega) (by decide) rfl,step (k+3) _ 3 _ (by omega) (by decide) rfl,step (k+2) _ 4 _ (by omega) (by decide) rfl,step (k+1) _ 5 _ (by omega) (by decide) rfl]
  simp only[A2.l0]
  rw[if_neg (by omega)]
  rfl⟩
theorem nameBad (L:List S95) (ns:List ByteArray) (k:Nat) (a:Int):Az.f k L a true ns=some (-1,a,true):=by
  unfold Az.f
  rw[if_pos rfl]
set_option linter.unusedSectionVars false
section
variable (L:List S95) (hL:L.length≤2000)
include hL
theorem hasI (i:Nat) (hi:i≤L.length) (t:ByteArray):(i<L.length∧pTake t (L.drop i)=some (L.drop (i+1))∧AX.f L (i:Int) false t=some (true,((i+1:Nat):Int),false))∨(pTake t (L.drop i)=none∧AX.f L (i:Int) false t=some (false,(i:Int),false)):=by
  unfold AX.f Bb.f
  rw[if_neg (by decide)]
  by_cases h:i<L.length
  · rw[if_pos (by omega),if_pos (by omega),nrdI L i h,List.drop_eq_getElem_cons h]
    simp only[pTake]
    by_cases h1:L[i].f0=2
    · right
      rw[if_neg (fun c=>c.1 h1),if_pos h1]
      exact⟨rfl,rfl⟩
    · rw[if_neg h1]
      by_cases h2:L[i].f1.toList=t.toList
      · left
        rw[if_pos ⟨h1,h2⟩]
        simp only[Option.bind_some,h2,beq_self_eq_true,if_true]
        rw[wsucc h (by omega)]
        exact⟨h,trivial,rfl⟩
      · right
        rw[if_neg (fun c=>h2 c.2),beq_eq_false_iff_ne.2 h2]
        exact⟨rfl,rfl⟩
  · right
    rw[if_neg (by omega),List.drop_eq_nil_of_le (by omega)]
    exact⟨rfl,rfl⟩
theorem mustI (i:Nat) (hi:i≤L.length) (t:ByteArray):(i<L.length∧pTake t (L.drop i)=some (L.drop (i+1))∧AO.f L (i:Int) false t=some (((i+1:Nat):Int),false))∨(pTake t (L.drop i)=none∧AO.f L (i:Int) false t=some ((i:Int),true)):=by
  unfold AO.f
  rcases hasI L hL i hi t with⟨h,e,g⟩|⟨e,g⟩
  · exact .inl ⟨h,e,by rw[g];rfl⟩
  · exact .inr ⟨e,by rw[g];rfl⟩
theorem numI (i:Nat) (hi:i≤L.length):(∃ v,i<L.length∧pNum (L.drop i)=some (v,L.drop (i+1))∧Ai.f L (i:Int) false=some (true,(i:Int),false)∧Aj.f L (i:Int) false=some (v,((i+1:Nat):Int),false))∨(pNum (L.drop i)=none∧Ai.f L (i:Int) false=some (false,(i:Int),false)∧Aj.f L (i:Int) false=some (0,(i:Int),true)):=by
  have no:Ai.f L (i:Int) false=some (false,(i:Int),false)→Aj.f L (i:Int) false=some (0,(i:Int),true):=fun h=>by
    simp only[Aj.f,h,Option.bind_some,Bool.false_eq_true,if_false]
  by_cases h:i<L.length
  · have hn:Ai.f L (i:Int) false=some (L[i].f0 == 2,(i:Int),false):=by
      unfold Ai.f
      rw[if_neg (by decide),if_pos (by omega),if_pos (by omega),nrdI L i h]
    rw[List.drop_eq_getElem_cons h]
    simp only[pNum]
    by_cases h1:L[i].f0=2
    · left
      rw[h1,beq_self_eq_true]at hn
      refine⟨L[i].f2,h,if_pos h1,hn,?_⟩
      have e1:Aside0 (wrap64 (wrap64 ((i:Int)+1) - 1)=(i:Int)):=⟨back2 i (by omega)⟩
      rw[Aj.f,hn,Option.bind_some]
      dsimp only
      rw[if_pos rfl,e1.out,if_pos (show(0:Int)≤(i:Int) by omega),if_pos (show(i:Int)<(L.length:Int) by omega),nrdI L i h,wsucc h (show L.length≤9223372036854775807 by omega)]
    · right
      rw[beq_eq_false_iff_ne.2 h1]at hn
      exact⟨if_neg h1,hn,no hn⟩
  · right
    have hn:Ai.f L (i:Int) false=some (false,(i:Int),false):=by
      unfold Ai.f
      rw[if_neg (by decide),if_neg (by omega)]
    rw[List.drop_eq_nil_of_le (by omega)]
    exact⟨rfl,hn,no hn⟩
theorem wdI (i:Nat) (hi:i≤L.length):(∃ a b j,i<j∧j≤L.length∧pWide (L.drop i)=some (a,b,L.drop j)∧BC.f L (i:Int) false=some (a,b,(j:Int),false))∨(pWide (L.drop i)=none∧∃ a b j,BC.f L (i:Int) false=some (a,b,j,true)):=by
  unfold BC.f pWide
  rcases numI L hL i hi with⟨v,h,e,_,g⟩|⟨e,_,g⟩
  · rcases hasI L hL (i+1) (by omega) (⟨#[58]⟩ :ByteArray)with⟨h2,e2,g2⟩|⟨e2,g2⟩
    · rcases numI L hL (i+1+1) (by omega)with⟨u,h3,e3,_,g3⟩|⟨e3,_,g3⟩
      · left
        refine⟨v,u,i+1+1+1,by omega,by omega,?_,?_⟩
        · simp only[e,e2,e3,Option.bind_some,Option.map_some]
        · simp only[g,g2,g3,Option.bind_some,if_true]
      · right
        refine⟨?_,v,0,((i+1+1:Nat):Int),?_⟩
        · simp only[e,e2,e3,Option.bind_some,Option.map_none]
        · simp only[g,g2,g3,Option.bind_some,if_true]
    · left
      refine⟨0,v,i+1,by omega,by omega,?_,?_⟩
      · simp only[e,e2,Option.bind_some]
      · simp only[g,g2,Option.bind_some,Bool.false_eq_true,if_false]
  · right
    refine⟨by rw[e];rfl,0,0,(i:Int),?_⟩
    simp only[g,Option.bind_some,hasBad,Bool.false_eq_true,if_false]
theorem nameE (ns:List ByteArray) (k i:Nat) (h:i<L.length):Az.f k L (i:Int) false ns=if L[i].f0=1 then(Ay.f k ns L[i].f1).bind fun t=>some (t,((i+1:Nat):Int),decide (t<0))else some (-1,(i:Int),true):=by
  have e1:Aside0 (wrap64 (wrap64 ((i:Int)+1) - 1)=(i:Int)):=⟨back2 i (by omega)⟩
  unfold Az.f
  rw[if_neg (by decide),if_neg (show ¬ (i:Int)≥(L.length:Int) by omega),if_pos (show(0:Int)≤(i:Int) by omega),if_pos (show(i:Int)<(L.length:Int) by omega),nrdI L i h,e1.out,if_pos (show(0:Int)≤(i:Int) by omega),if_pos (show(i:Int)<(L.length:Int) by omega),nrdI L i h,wsucc h (show L.length≤9223372036854775807 by omega)]
theorem nameI (ns:List ByteArray) (hn:ns.length≤100) (i:Nat) (hi:i≤L.length):(∃ v,i<L.length∧pName ns (L.drop i)=some (v,L.drop (i+1))∧Evt (fun k=>Az.f k L (i:Int) false ns) (v,((i+1:Nat):Int),false))∨(pName ns (L.drop i)=none∧∃ j,Evt (fun k=>Az.f k L (i:Int) false ns) (-1,j,true)):=by
  by_cases h:i<L.length
  · rw[List.drop_eq_getElem_cons h]
    simp only[pName]
    by_cases h1:L[i].f0=1
    · obtain⟨K,g⟩:=indexI L[i].f1 ns hn
      dsimp only at g
      cases hp:place L[i].f1 ns 0 with
      | none=>
        rw[hp]at g
        refine .inr ⟨by rw[if_pos h1];rfl,((i+1:Nat):Int),K,fun k hk=>?_⟩
        show Az.f k L (i:Int) false ns=_
        rw[nameE L hL ns k i h,if_pos h1,g k hk]
        rfl
      | some v=>
        rw[hp]at g
        have:=place_nn _ _ _ _ hp
        refine .inl ⟨v,h,by rw[if_pos h1];rfl,K,fun k hk=>?_⟩
        show Az.f k L (i:Int) false ns=_
        rw[nameE L hL ns k i h,if_pos h1,g k hk,Option.getD_some,Option.bind_some,decide_eq_false (by omega)]
    · refine .inr ⟨if_neg h1,(i:Int),.const fun k=>?_⟩
      rw[nameE L hL ns k i h,if_neg h1]
  · rw[List.drop_eq_nil_of_le (by omega)]
    refine .inr ⟨rfl,(i:Int),.const fun k=>?_⟩
    unfold Az.f
    rw[if_neg (by decide),if_pos (by omega)]
theorem actI (i:Nat) (hi:i≤L.length):(∃ a d j,i<j∧j≤L.length∧pAct (L.drop i)=some (a,d,L.drop j)∧Evt (fun k=>BB.f k L (i:Int) false) (a,d,(j:Int),false))∨(pAct (L.drop i)=none∧∃ a d j,Evt (fun k=>BB.f k L (i:Int) false) (a,d,j,true)):=by
  unfold BB.f pAct
  obtain⟨K1,g1⟩:=actNames
  dsimp only at g1
  rcases nameI L hL acts (by decide) i hi with⟨v,h,e,K2,g2⟩|⟨e,j,K2,g2⟩
  · dsimp only at g2
    rcases numI L hL (i+1) (by omega)with⟨u,h3,e3,g3,g4⟩|⟨e3,g3,g4⟩
    · left
      refine⟨v,u,i+1+1,by omega,by omega,by simp only[e,e3,Option.bind_some],K1+K2,fun k hk=>?_⟩
      simp only[g1 k (by omega),g2 k (by omega),g3,g4,Option.bind_some,if_true]
    · left
      refine⟨v,0,i+1,by omega,by omega,by simp only[e,e3,Option.bind_some],K1+K2,fun k hk=>?_⟩
      simp only[g1 k (by omega),g2 k (by omega),g3,Option.bind_some,Bool.false_eq_true,if_false]
  · dsimp only at g2
    right
    refine⟨by rw[e];rfl,-1,0,j,K1+K2,fun k hk=>?_⟩
    simp only[g1 k (by omega),g2 k (by omega),isNumBad,Option.bind_some,Bool.false_eq_true,if_false]
theorem actBad (i:Int): ∃ a d j,Evt (fun k=>BB.f k L i true) (a,d,j,true):=by
  obtain⟨K1,g1⟩:=actNames
  dsimp only at g1
  refine⟨-1,0,i,K1,fun k hk=>?_⟩
  unfold BB.f
  simp only[g1 k (by omega),nameBad,isNumBad,Option.bind_some,Bool.false_eq_true,if_false]
end
/-! Conditions, as they are read. -/
/-- A mark or a name that is asked for. -/
def Mk (k:Int) (t:ByteArray):Prop:=(k=1∧∃ b r,t.toList=b :: r∧97≤b.toNat)∨(k=3∧∃ b r,t.toList=b :: r∧b.toNat<97)
theorem Mk.name (a:UInt8) (l:List UInt8) (h:97≤a.toNat):Mk 1 ⟨(a :: l).toArray⟩:= .inl ⟨rfl,a,l,by rw[ByteArray.toList_eq],h⟩
theorem Mk.mark (a:UInt8) (l:List UInt8) (h:a.toNat<97):Mk 3 ⟨(a :: l).toArray⟩:= .inr ⟨rfl,a,l,by rw[ByteArray.toList_eq],h⟩
section
variable (L:List S95) (hL:L.length≤2000)
include hL
theorem cmRun (c0 c1 c2 c c4 c5 a:Int) (b:Bool) (h:c≠0∨b=true) (R:Int×Int×Int×Int×Int×Int×Int×Bool) (hR:Evt (fun k=>AM.l0 k cms (cms.length:Int) (cms.length:Int) L a b c0 c1 c2 c c4 c5) R): ∀ d i,i+d=cms.length→Evt (fun k=>AM.l0 k cms (cms.length:Int) (i:Int) L a b c0 c1 c2 c c4 c5) R
  | 0,i,hi=>by
    have:i=cms.length:=by omega
    subst this
    exact hR
  | d+1,i,hi=>by
    have hlt:i<cms.length:=by omega
    have hc:cms.length=6:=rfl
    obtain⟨K,g⟩:=cmRun c0 c1 c2 c c4 c5 a b h R hR d (i+1) (by omega)
    dsimp only at g
    refine .succ ⟨K,fun k hk=>?_⟩
    simp only[AM.l0]
    rw[if_pos (by omega),if_pos (by omega),if_pos (by omega)]
    by_cases h0:c=0
    · rw[if_pos h0,h.resolve_left (fun f=>f h0),hasBad,Option.bind_some,if_neg Bool.false_ne_true,show wrap64 ((i:Int)+1)=((i+1:Nat):Int)from wsucc hlt (by omega)]
      rw[h.resolve_left (fun f=>f h0)]at g
      exact g k hk
    · rw[if_neg h0,show wrap64 ((i:Int)+1)=((i+1:Nat):Int)from wsucc hlt (by omega)]
      exact g k hk
theorem cmI (i:Nat) (hi:i≤L.length) (c0 c1 c2 c4 c5:Int): ∀ d n,n+d=cms.length→
    (∃ c,i<L.length∧1≤c∧pCm (cms.drop n) ((n:Int)+1) (L.drop i)=some (c,L.drop (i+1))∧∀ R,Evt (fun k=>AM.l0 k cms (cms.length:Int) (cms.length:Int) L ((i+1:Nat):Int) false c0 c1 c2 c c4 c5) R→Evt (fun k=>AM.l0 k cms (cms.length:Int) (n:Int) L (i:Int) false c0 c1 c2 0 c4 c5) R)∨
    (pCm (cms.drop n) ((n:Int)+1) (L.drop i)=none∧∀ R,Evt (fun k=>AM.l0 k cms (cms.length:Int) (cms.length:Int) L (i:Int) false c0 c1 c2 0 c4 c5) R→Evt (fun k=>AM.l0 k cms (cms.length:Int) (n:Int) L (i:Int) false c0 c1 c2 0 c4 c5) R)
  | 0,n,hn=>by
    have:n=cms.length:=by omega
    subst this
    exact .inr ⟨by rw[List.drop_length];rfl,fun R h=>h⟩
  | d+1,n,hn=>by
    have hlt:n<cms.length:=by omega
    have hc:cms.length=6:=rfl
    have er:rdOf ByteArray.empty cms (n:Int)=cms[n]:=getD_lt _ hlt
    have ew:Aside0 (wrap64 ((n:Int)+1)=((n+1:Nat):Int)):=⟨wsucc hlt (by omega)⟩
    have en:((n:Int)+1)=((n+1:Nat):Int):=by omega
    rw[List.drop_eq_getElem_cons hlt]
    simp only[pCm]
    rcases hasI L hL i hi cms[n]with⟨h1,e1,g1⟩|⟨e1,g1⟩
    · left
      refine⟨(n:Int)+1,h1,by omega,by rw[e1],fun R hR=>?_⟩
      obtain⟨K,g⟩:=cmRun L hL c0 c1 c2 ((n:Int)+1) c4 c5 ((i+1:Nat):Int) false (.inl (by omega)) R hR d (n+1) (by omega)
      dsimp only at g
      rw[en]at g
      refine .succ ⟨K,fun k hk=>?_⟩
      simp only[AM.l0]
      rw[if_pos (by omega),if_pos (by omega),if_pos (by omega),if_pos trivial,er,g1,Option.bind_some,if_pos rfl,ew.out]
      exact g k hk
    · rw[e1]
      have step: ∀ R,Evt (fun k=>AM.l0 k cms (cms.length:Int) ((n+1:Nat):Int) L (i:Int) false c0 c1 c2 0 c4 c5) R→Evt (fun k=>AM.l0 k cms (cms.length:Int) (n:Int) L (i:Int) false c0 c1 c2 0 c4 c5) R:=fun R ⟨K,g⟩=> .succ ⟨K,fun k hk=>by
        dsimp only at g
        simp only[AM.l0]
        rw[if_pos (by omega),if_pos (by omega),if_pos (by omega),if_pos trivial,er,g1,Option.bind_some,if_neg Bool.false_ne_true,ew.out]
        exact g k hk⟩
      rcases cmI i hi c0 c1 c2 c4 c5 d (n+1) (by omega)with⟨c,h2,h3,e2,f⟩|⟨e2,f⟩
      · exact .inl ⟨c,h2,h3,by rw[en];exact e2,fun R hR=>step R (f R hR)⟩
      · exact .inr ⟨by rw[en];exact e2,fun R hR=>step R (f R hR)⟩
theorem cmEnd0 (a:Int) (b:Bool) (c0 c1 c2 c4 c5:Int):Evt (fun k=>AM.l0 k cms (cms.length:Int) (cms.length:Int) L a b c0 c1 c2 0 c4 c5) (c0,c1,c2,0,0,0,a,true):= .succ (.const fun k=>by
  simp only[AM.l0]
  rw[if_neg (by omega),if_pos trivial,wideBad]
  rfl)
theorem j0Bad (a c0 c1 c2:Int):Evt (fun k=>AM.j0 k L a true c0 c1 c2 0 0 0) (c0,c1,c2,0,0,0,a,true):=by
  obtain⟨K,g⟩:=cmRun L hL c0 c1 c2 0 0 0 a true (.inr rfl) _ (cmEnd0 L hL a true c0 c1 c2 0 0) cms.length 0 (by omega)
  exact .succ ⟨K,fun k hk=>g k hk⟩
theorem j0I (i:Nat) (hi:i≤L.length) (c0 c1 c2:Int) :
    (∃ c v1 v2 j,i<j∧j≤L.length∧pCv (L.drop i)=some (c,v1,v2,L.drop j)∧Evt (fun k=>AM.j0 k L (i:Int) false c0 c1 c2 0 0 0) (c0,c1,c2,c,v1,v2,(j:Int),false))∨
    (pCv (L.drop i)=none∧∃ c v1 v2 j,Evt (fun k=>AM.j0 k L (i:Int) false c0 c1 c2 0 0 0) (c0,c1,c2,c,v1,v2,j,true)):=by
  unfold pCv
  rcases cmI L hL i hi c0 c1 c2 0 0 cms.length 0 (by omega)with⟨c,h,h1,e,f⟩|⟨e,f⟩
  · rw[show pCm cms 1 (L.drop i)=_ from e]
    simp only[Option.bind_some]
    rcases wdI L hL (i+1) (by omega)with⟨x,y,j,h2,h3,e2,g2⟩|⟨e2,x,y,j,g2⟩
    · left
      obtain⟨K,g⟩:=f (c0,c1,c2,c,x,y,(j:Int),false) (.succ (.const fun k=>by
        simp only[AM.l0]
        rw[if_neg (by omega),if_neg (by omega),g2]
        rfl))
      exact⟨c,x,y,j,by omega,h3,by rw[e2];rfl,.succ ⟨K,fun k hk=>g k hk⟩⟩
    · right
      obtain⟨K,g⟩:=f (c0,c1,c2,c,x,y,j,true) (.succ (.const fun k=>by
        simp only[AM.l0]
        rw[if_neg (by omega),if_neg (by omega),g2]
        rfl))
      exact⟨by rw[e2];rfl,c,x,y,j,.succ ⟨K,fun k hk=>g k hk⟩⟩
  · right
    obtain⟨K,g⟩:=f _ (cmEnd0 L hL (i:Int) false c0 c1 c2 0 0)
    exact⟨by rw[show pCm cms 1 (L.drop i)=_ from e];rfl,0,0,0,(i:Int),.succ ⟨K,fun k hk=>g k hk⟩⟩
/-- What cond tells, with the state. -/
def cdV (y:S54) (j:Int) (b:Bool):Int×Int×Int×Int×Int×Int×Int×Bool:=(y.f0,y.f1.f0,y.f1.f1,y.f2,y.f3.f0,y.f3.f1,j,b)
theorem condI_ (i:Nat) (hi:i≤L.length) :
    (∃ y j,i<j∧j≤L.length∧pCond (L.drop i)=some (y,L.drop j)∧Evt (fun k=>AM.f k L (i:Int) false) (cdV y (j:Int) false))∨
    (pCond (L.drop i)=none∧∃ y j,Evt (fun k=>AM.f k L (i:Int) false) (cdV y j true)):=by
  unfold pCond
  rcases mustI L hL i hi (⟨#[97,114,103]⟩ :ByteArray)with⟨h1,e1,g1⟩|⟨e1,g1⟩
  · rw[e1]
    simp only[Option.bind_some]
    rcases numI L hL (i+1) (by omega)with⟨v,h2,e2,_,g2⟩|⟨e2,_,g2⟩
    · rw[e2]
      simp only[Option.bind_some]
      unfold pMask
      rcases hasI L hL (i+1+1) (by omega) (⟨#[38]⟩ :ByteArray)with⟨h3,e3,g3⟩|⟨e3,g3⟩
      · simp only[e3]
        rcases wdI L hL (i+1+1+1) (by omega)with⟨x,y,j,h4,h5,e4,g4⟩|⟨e4,x,y,j,g4⟩
        · rw[e4]
          simp only[Option.bind_some]
          rcases j0I L hL j (by omega) v x y with⟨c,v1,v2,j2,h6,h7,e5,K,g5⟩|⟨e5,c,v1,v2,j2,K,g5⟩
          · left
            refine⟨⟨v,⟨x,y⟩,c,⟨v1,v2⟩⟩,j2,by omega,h7,by rw[e5];rfl,K,fun k hk=>?_⟩
            simp only[AM.f,g1,g2,g3,g4,Option.bind_some,if_true]
            exact g5 k hk
          · right
            refine⟨by rw[e5];rfl,⟨v,⟨x,y⟩,c,⟨v1,v2⟩⟩,j2,K,fun k hk=>?_⟩
            simp only[AM.f,g1,g2,g3,g4,Option.bind_some,if_true]
            exact g5 k hk
        · right
          obtain⟨K,g5⟩:=j0Bad L hL j v x y
          refine⟨by rw[e4];rfl,⟨v,⟨x,y⟩,0,⟨0,0⟩⟩,j,K,fun k hk=>?_⟩
          simp only[AM.f,g1,g2,g3,g4,Option.bind_some,if_true]
          exact g5 k hk
      · simp only[e3,Option.bind_some]
        rcases j0I L hL (i+1+1) (by omega) v 4294967295 4294967295 with⟨c,v1,v2,j2,h6,h7,e5,K,g5⟩|⟨e5,c,v1,v2,j2,K,g5⟩
        · left
          refine⟨⟨v,⟨4294967295,4294967295⟩,c,⟨v1,v2⟩⟩,j2,by omega,h7,by rw[e5];rfl,K,fun k hk=>?_⟩
          simp only[AM.f,g1,g2,g3,Option.bind_some,Bool.false_eq_true,if_false]
          exact g5 k hk
        · right
          refine⟨by rw[e5];rfl,⟨v,⟨4294967295,4294967295⟩,c,⟨v1,v2⟩⟩,j2,K,fun k hk=>?_⟩
          simp only[AM.f,g1,g2,g3,Option.bind_some,Bool.false_eq_true,if_false]
          exact g5 k hk
    · right
      obtain⟨K,g5⟩:=j0Bad L hL ((i+1:Nat):Int) 0 4294967295 4294967295
      refine⟨by rw[e2];rfl,⟨0,⟨4294967295,4294967295⟩,0,⟨0,0⟩⟩,((i+1:Nat):Int),K,fun k hk=>?_⟩
      simp only[AM.f,g1,g2,hasBad,Option.bind_some,Bool.false_eq_true,if_false]
      exact g5 k hk
  · right
    obtain⟨K,g5⟩:=j0Bad L hL (i:Int) 0 4294967295 4294967295
    refine⟨by rw[e1];rfl,⟨0,⟨4294967295,4294967295⟩,0,⟨0,0⟩⟩,(i:Int),K,fun k hk=>?_⟩
    simp only[AM.f,g1,numBad,hasBad,Option.bind_some,Bool.false_eq_true,if_false]
    exact g5 k hk
/-! The reference's side. -/
variable (hW: ∀ x ∈ L,SgW x)
include hW
theorem takesE (k:Int) (t:ByteArray) (hk:Mk k t) (a:Int) (b:Bool):Ae.f L a b k t=AX.f L a b t:=by
  unfold Ae.f AX.f
  cases b with
  | true=>rfl
  | false=>
    rw[if_neg (by decide)]
    suffices h:Bp.f L a false k t=Bb.f L a false t by rw[h]
    unfold Bp.f Bb.f
    rw[if_neg (by decide)]
    by_cases h1:a<(L.length:Int)
    · rw[if_pos h1,if_pos h1]
      by_cases h2:0≤a
      · rw[if_pos h2,if_pos h2]
        obtain⟨i,rfl⟩ : ∃ i:Nat,a=(i:Int):=⟨a.toNat,by omega⟩
        rw[nrdI L i (by omega)]
        have hx:=hW L[i] (List.getElem_mem (by omega))
        generalize L[i]=x at hx
        have tt:x.f1.toList=t.toList→(x.f1.toList == t.toList)=true:=fun h=>by rw[h];exact beq_self_eq_true _
        rcases hx with⟨x0,b1,r1,x1,x2⟩|⟨x0,_⟩|⟨x0,b1,r1,x1,x2⟩
        · rw[if_neg (show ¬ x.f0=2 by omega)]
          rcases hk with⟨rfl,b2,r2,k1,k2⟩|⟨rfl,b2,r2,k1,k2⟩
          · rw[if_pos x0]
          · rw[if_neg (by omega),beq_eq_false_iff_ne.2 (fun h=>by
              rw[x1,k1]at h
              injection h with h _
              rw[h]at x2
              omega)]
        · rw[if_pos x0,if_neg (by rcases hk with⟨rfl,_⟩|⟨rfl,_⟩ <;> omega)]
        · rw[if_neg (show ¬ x.f0=2 by omega)]
          rcases hk with⟨rfl,b2,r2,k1,k2⟩|⟨rfl,b2,r2,k1,k2⟩
          · rw[if_neg (by omega),beq_eq_false_iff_ne.2 (fun h=>by
              rw[x1,k1]at h
              injection h with h _
              rw[h]at x2
              omega)]
          · rw[if_pos x0]
      · rw[if_neg h2,if_neg h2]
    · rw[if_neg h1,if_neg h1]
theorem wantsE (k:Int) (t:ByteArray) (hk:Mk k t) (a:Int) (b:Bool):AT.f L a b k t=AO.f L a b t:=by
  unfold AT.f AO.f
  rw[takesE L hL hW k t hk]
theorem wideE (a:Int) (b:Bool):BZ.f L a b=BC.f L a b:=by
  unfold BZ.f BC.f
  simp only[takesE L hL hW 3 (⟨#[58]⟩ :ByteArray) (Mk.mark 58 [] (by decide)),numE]
/-- The reference's marks. -/
def cmsS:List ByteArray:=(⟨#[]⟩ :ByteArray) :: cms
omit hL hW in
theorem cms_mk: ∀ m ∈ cms,Mk 3 m:=by
  intro m hm
  simp only[cms,List.mem_cons,List.not_mem_nil,or_false]at hm
  rcases hm with rfl|rfl|rfl|rfl|rfl|rfl
  · exact Mk.mark 61 [61] (by decide)
  · exact Mk.mark 33 [61] (by decide)
  · exact Mk.mark 60 [] (by decide)
  · exact Mk.mark 60 [61] (by decide)
  · exact Mk.mark 62 [] (by decide)
  · exact Mk.mark 62 [61] (by decide)
theorem cmRunS (c0 c1 c2 c c4 c5 a:Int) (b:Bool) (h:c≠0∨b=true) (R:Int×Int×Int×Int×Int×Int×Int×Bool) (hR:Evt (fun k=>AJ.l0 k cmsS 7 L a b c0 c1 c2 c c4 c5) R): ∀ d i,i+d=cms.length→Evt (fun k=>AJ.l0 k cmsS ((i+1:Nat):Int) L a b c0 c1 c2 c c4 c5) R
  | 0,i,hi=>by
    have:i=6:=by have:cms.length=6:=rfl;omega
    subst this
    exact hR
  | d+1,i,hi=>by
    have hlt:i<cms.length:=by omega
    have hc:cms.length=6:=rfl
    have hcS:cmsS.length=7:=rfl
    have er:rdOf ByteArray.empty cmsS ((i+1:Nat):Int)=cms[i]:=getD_lt _ (show i+1<cmsS.length by omega)
    have ew:Aside0 (wrap64 (((i+1:Nat):Int)+1)=((i+1+1:Nat):Int)):=⟨wsucc (show i+1<100 by omega) (by omega)⟩
    obtain⟨K,g⟩:=cmRunS c0 c1 c2 c c4 c5 a b h R hR d (i+1) (by omega)
    dsimp only at g
    refine .succ ⟨K,fun k hk=>?_⟩
    simp only[AJ.l0]
    rw[if_pos (by omega)]
    by_cases h0:c=0
    · rw[if_pos h0,if_pos (by omega),takesE L hL hW 3 _ (by rw[er];exact cms_mk _ (List.getElem_mem hlt)),h.resolve_left (fun f=>f h0),hasBad,Option.bind_some,if_neg Bool.false_ne_true,ew.out]
      rw[h.resolve_left (fun f=>f h0)]at g
      exact g k hk
    · rw[if_neg h0,ew.out]
      exact g k hk
theorem cmS (i:Nat) (hi:i≤L.length) (c0 c1 c2 c4 c5:Int): ∀ d n,n+d=cms.length→
    (∃ c,i<L.length∧1≤c∧pCm (cms.drop n) ((n:Int)+1) (L.drop i)=some (c,L.drop (i+1))∧∀ R,Evt (fun k=>AJ.l0 k cmsS 7 L ((i+1:Nat):Int) false c0 c1 c2 c c4 c5) R→Evt (fun k=>AJ.l0 k cmsS ((n+1:Nat):Int) L (i:Int) false c0 c1 c2 0 c4 c5) R)∨
    (pCm (cms.drop n) ((n:Int)+1) (L.drop i)=none∧∀ R,Evt (fun k=>AJ.l0 k cmsS 7 L (i:Int) false c0 c1 c2 0 c4 c5) R→Evt (fun k=>AJ.l0 k cmsS ((n+1:Nat):Int) L (i:Int) false c0 c1 c2 0 c4 c5) R)
  | 0,n,hn=>by
    have:n=6:=by have:cms.length=6:=rfl;omega
    subst this
    exact .inr ⟨rfl,fun R h=>h⟩
  | d+1,n,hn=>by
    have hlt:n<cms.length:=by omega
    have hc:cms.length=6:=rfl
    have hcS:cmsS.length=7:=rfl
    have er:rdOf ByteArray.empty cmsS ((n+1:Nat):Int)=cms[n]:=getD_lt _ (show n+1<cmsS.length by omega)
    have ew:Aside0 (wrap64 (((n+1:Nat):Int)+1)=((n+1+1:Nat):Int)):=⟨wsucc (show n+1<100 by omega) (by omega)⟩
    have en:((n:Int)+1)=((n+1:Nat):Int):=by omega
    have hm:=cms_mk _ (List.getElem_mem hlt)
    rw[List.drop_eq_getElem_cons hlt]
    simp only[pCm]
    rcases hasI L hL i hi cms[n]with⟨h1,e1,g1⟩|⟨e1,g1⟩
    · left
      refine⟨(n:Int)+1,h1,by omega,by rw[e1],fun R hR=>?_⟩
      obtain⟨K,g⟩:=cmRunS L hL hW c0 c1 c2 ((n:Int)+1) c4 c5 ((i+1:Nat):Int) false (.inl (by omega)) R hR d (n+1) (by omega)
      dsimp only at g
      rw[en]at g
      refine .succ ⟨K,fun k hk=>?_⟩
      simp only[AJ.l0]
      rw[if_pos (by omega),if_pos trivial,if_pos (by omega),er,takesE L hL hW 3 _ hm,g1,Option.bind_some,if_pos rfl,ew.out]
      exact g k hk
    · rw[e1]
      have step: ∀ R,Evt (fun k=>AJ.l0 k cmsS ((n+1+1:Nat):Int) L (i:Int) false c0 c1 c2 0 c4 c5) R→Evt (fun k=>AJ.l0 k cmsS ((n+1:Nat):Int) L (i:Int) false c0 c1 c2 0 c4 c5) R:=fun R ⟨K,g⟩=> .succ ⟨K,fun k hk=>by
        dsimp only at g
        simp only[AJ.l0]
        rw[if_pos (by omega),if_pos trivial,if_pos (by omega),er,takesE L hL hW 3 _ hm,g1,Option.bind_some,if_neg Bool.false_ne_true,ew.out]
        exact g k hk⟩
      rcases cmS i hi c0 c1 c2 c4 c5 d (n+1) (by omega)with⟨c,h2,h3,e2,f⟩|⟨e2,f⟩
      · exact .inl ⟨c,h2,h3,by rw[en];exact e2,fun R hR=>step R (f R hR)⟩
      · exact .inr ⟨by rw[en];exact e2,fun R hR=>step R (f R hR)⟩
theorem cmEndS (a:Int) (b:Bool) (c0 c1 c2 c v1 v2 j:Int) (b2:Bool) (h:BC.f L a b=some (v1,v2,j,b2)):Evt (fun k=>AJ.l0 k cmsS 7 L a b c0 c1 c2 c 0 0) (c0,c1,c2,c,v1,v2,j,b2):= .succ (.const fun k=>by
  simp only[AJ.l0]
  rw[if_neg (show ¬ (7:Int)<(cmsS.length:Int) by decide),wideE L hL hW,h]
  rfl)
theorem j0BadS (a c0 c1 c2:Int):Evt (fun k=>AJ.j0 k L a true c0 c1 c2 0 0 0) (c0,c1,c2,0,0,0,a,true):=by
  obtain⟨K,g⟩:=cmRunS L hL hW c0 c1 c2 0 0 0 a true (.inr rfl) _ (cmEndS L hL hW a true c0 c1 c2 0 0 0 a true (wideBad L a)) cms.length 0 (by omega)
  exact .succ ⟨K,fun k hk=>g k hk⟩
theorem j0S (i:Nat) (hi:i≤L.length) (c0 c1 c2:Int) :
    (∃ c v1 v2 j,i<j∧j≤L.length∧pCv (L.drop i)=some (c,v1,v2,L.drop j)∧Evt (fun k=>AJ.j0 k L (i:Int) false c0 c1 c2 0 0 0) (c0,c1,c2,c,v1,v2,(j:Int),false))∨
    (pCv (L.drop i)=none∧∃ c v1 v2 j,Evt (fun k=>AJ.j0 k L (i:Int) false c0 c1 c2 0 0 0) (c0,c1,c2,c,v1,v2,j,true))∨
    (pCv (L.drop i)=none∧∃ v1 v2,∃ j:Nat,i<j∧j≤L.length∧Evt (fun k=>AJ.j0 k L (i:Int) false c0 c1 c2 0 0 0) (c0,c1,c2,0,v1,v2,(j:Int),false)):=by
  unfold pCv
  rcases cmS L hL hW i hi c0 c1 c2 0 0 cms.length 0 (by omega)with⟨c,h,h1,e,f⟩|⟨e,f⟩
  · rw[show pCm cms 1 (L.drop i)=_ from e]
    simp only[Option.bind_some]
    rcases wdI L hL (i+1) (by omega)with⟨x,y,j,h2,h3,e2,g2⟩|⟨e2,x,y,j,g2⟩
    · left
      obtain⟨K,g⟩:=f _ (cmEndS L hL hW _ _ c0 c1 c2 c _ _ _ _ g2)
      exact⟨c,x,y,j,by omega,h3,by rw[e2];rfl,.succ ⟨K,fun k hk=>g k hk⟩⟩
    · right;left
      obtain⟨K,g⟩:=f _ (cmEndS L hL hW _ _ c0 c1 c2 c _ _ _ _ g2)
      exact⟨by rw[e2];rfl,c,x,y,j,.succ ⟨K,fun k hk=>g k hk⟩⟩
  · right
    rw[show pCm cms 1 (L.drop i)=_ from e]
    rcases wdI L hL i hi with⟨x,y,j,h2,h3,e2,g2⟩|⟨e2,x,y,j,g2⟩
    · right
      obtain⟨K,g⟩:=f _ (cmEndS L hL hW _ _ c0 c1 c2 0 _ _ _ _ g2)
      exact⟨rfl,x,y,j,h2,h3,.succ ⟨K,fun k hk=>g k hk⟩⟩
    · left
      obtain⟨K,g⟩:=f _ (cmEndS L hL hW _ _ c0 c1 c2 0 _ _ _ _ g2)
      exact⟨rfl,0,x,y,j,.succ ⟨K,fun k hk=>g k hk⟩⟩
theorem condS_ (i:Nat) (hi:i≤L.length) :
    (∃ y j,i<j∧j≤L.length∧pCond (L.drop i)=some (y,L.drop j)∧Evt (fun k=>AJ.f k L (i:Int) false) (cdV y (j:Int) false))∨
    (pCond (L.drop i)=none∧∃ y j,Evt (fun k=>AJ.f k L (i:Int) false) (cdV y j true))∨
    (pCond (L.drop i)=none∧∃ y,∃ j:Nat,i<j∧j≤L.length∧y.f2=0∧Evt (fun k=>AJ.f k L (i:Int) false) (cdV y (j:Int) false)):=by
  have w1:=wantsE L hL hW 1 (⟨#[97,114,103]⟩ :ByteArray) (Mk.name 97 [114,103] (by decide))
  have w2:=takesE L hL hW 3 (⟨#[38]⟩ :ByteArray) (Mk.mark 38 [] (by decide))
  unfold pCond
  rcases mustI L hL i hi (⟨#[97,114,103]⟩ :ByteArray)with⟨h1,e1,g1⟩|⟨e1,g1⟩
  · rw[e1]
    simp only[Option.bind_some]
    rcases numI L hL (i+1) (by omega)with⟨v,h2,e2,_,g2⟩|⟨e2,_,g2⟩
    · rw[e2]
      simp only[Option.bind_some]
      unfold pMask
      rcases hasI L hL (i+1+1) (by omega) (⟨#[38]⟩ :ByteArray)with⟨h3,e3,g3⟩|⟨e3,g3⟩
      · simp only[e3]
        rcases wdI L hL (i+1+1+1) (by omega)with⟨x,y,j,h4,h5,e4,g4⟩|⟨e4,x,y,j,g4⟩
        · rw[e4]
          simp only[Option.bind_some]
          rcases j0S L hL hW j (by omega) v x y with⟨c,v1,v2,j2,h6,h7,e5,K,g5⟩|⟨e5,c,v1,v2,j2,K,g5⟩|⟨e5,v1,v2,j2,h6,h7,K,g5⟩
          · left
            refine⟨⟨v,⟨x,y⟩,c,⟨v1,v2⟩⟩,j2,by omega,h7,by rw[e5];rfl,K,fun k hk=>?_⟩
            simp only[AJ.f,w1,w2,numE,wideE L hL hW,g1,g2,g3,g4,Option.bind_some,if_true]
            exact g5 k hk
          · right;left
            refine⟨by rw[e5];rfl,⟨v,⟨x,y⟩,c,⟨v1,v2⟩⟩,j2,K,fun k hk=>?_⟩
            simp only[AJ.f,w1,w2,numE,wideE L hL hW,g1,g2,g3,g4,Option.bind_some,if_true]
            exact g5 k hk
          · right;right
            refine⟨by rw[e5];rfl,⟨v,⟨x,y⟩,0,⟨v1,v2⟩⟩,j2,by omega,h7,rfl,K,fun k hk=>?_⟩
            simp only[AJ.f,w1,w2,numE,wideE L hL hW,g1,g2,g3,g4,Option.bind_some,if_true]
            exact g5 k hk
        · right;left
          obtain⟨K,g5⟩:=j0BadS L hL hW j v x y
          refine⟨by rw[e4];rfl,⟨v,⟨x,y⟩,0,⟨0,0⟩⟩,j,K,fun k hk=>?_⟩
          simp only[AJ.f,w1,w2,numE,wideE L hL hW,g1,g2,g3,g4,Option.bind_some,if_true]
          exact g5 k hk
      · simp only[e3,Option.bind_some]
        rcases j0S L hL hW (i+1+1) (by omega) v 4294967295 4294967295 with⟨c,v1,v2,j2,h6,h7,e5,K,g5⟩|⟨e5,c,v1,v2,j2,K,g5⟩|⟨e5,v1,v2,j2,h6,h7,K,g5⟩
        · left
          refine⟨⟨v,⟨4294967295,4294967295⟩,c,⟨v1,v2⟩⟩,j2,by omega,h7,by rw[e5];rfl,K,fun k hk=>?_⟩
          simp only[AJ.f,w1,w2,numE,g1,g2,g3,Option.bind_some,Bool.false_eq_true,if_false]
          exact g5 k hk
        · right;left
          refine⟨by rw[e5];rfl,⟨v,⟨4294967295,4294967295⟩,c,⟨v1,v2⟩⟩,j2,K,fun k hk=>?_⟩
          simp only[AJ.f,w1,w2,numE,g1,g2,g3,Option.bind_some,Bool.false_eq_true,if_false]
          exact g5 k hk
        · right;right
          refine⟨by rw[e5];rfl,⟨v,⟨4294967295,4294967295⟩,0,⟨v1,v2⟩⟩,j2,by omega,h7,rfl,K,fun k hk=>?_⟩
          simp only[AJ.f,w1,w2,numE,g1,g2,g3,Option.bind_some,Bool.false_eq_true,if_false]
          exact g5 k hk
    · right;left
      obtain⟨K,g5⟩:=j0BadS L hL hW ((i+1:Nat):Int) 0 4294967295 4294967295
      refine⟨by rw[e2];rfl,⟨0,⟨4294967295,4294967295⟩,0,⟨0,0⟩⟩,((i+1:Nat):Int),K,fun k hk=>?_⟩
      simp only[AJ.f,w1,w2,numE,g1,g2,hasBad,Option.bind_some,Bool.false_eq_true,if_false]
      exact g5 k hk
  · right;left
    obtain⟨K,g5⟩:=j0BadS L hL hW (i:Int) 0 4294967295 4294967295
    refine⟨by rw[e1];rfl,⟨0,⟨4294967295,4294967295⟩,0,⟨0,0⟩⟩,(i:Int),K,fun k hk=>?_⟩
    simp only[AJ.f,w1,w2,numE,g1,numBad,hasBad,Option.bind_some,Bool.false_eq_true,if_false]
    exact g5 k hk
end
/-! Rules, as they are read. -/
/-- What rule tells, with the state. -/
def ruV (x:S50) (j:Int) (b:Bool):List Int×List S54×Int×Int×Int×Bool:=(x.f0,x.f1,x.f2,x.f3,j,b)
/-- A rule's end. -/
def endI (k:Nat) (L:List S95) (a:Int) (b:Bool) (ns:List Int) (cs:List S54):Option (List Int×List S54×Int×Int×Int×Bool):=(AO.f L a b (⟨#[100,111]⟩ :ByteArray)).bind fun r=>(BB.f k L r.1 r.2).bind fun u=>(AO.f L u.2.2.1 u.2.2.2 (⟨#[59]⟩ :ByteArray)).bind fun v=>some (ns,cs,u.1,u.2.1,v.1,v.2)
def endS (k:Nat) (L:List S95) (a:Int) (b:Bool) (ns:List Int) (cs:List S54):Option (List Int×List S54×Int×Int×Int×Bool):=(AT.f L a b 1 (⟨#[100,111]⟩ :ByteArray)).bind fun r=>(AU.f k L r.1 r.2).bind fun u=>(AT.f L u.2.2.1 u.2.2.2 3 (⟨#[59]⟩ :ByteArray)).bind fun v=>some (ns,cs,u.1,u.2.1,v.1,v.2)
def Bd (x:S50):Prop:=x.f0.length≤4000∧x.f1.length≤4000
def sortN (x:List Int):List Int:=x.mergeSort fun a b=>decide (a≤b)
theorem sortN_len (x:List Int):(sortN x).length=x.length:=List.length_mergeSort _
theorem sortN_nil:sortN []= []:=List.eq_nil_of_length_eq_zero (sortN_len [])
theorem up_of {x:List Int} (h: ∀ i (h:i+1<x.length),x[i]<x[i+1]): ∀ d i (hi:i+d+1<x.length),x[i]<x[i+d+1]
  | 0,i,hi=>h i hi
  | d+1,i,hi=>by
    have h1:=up_of h d i (by omega)
    have h2:=h (i+d+1) (by omega)
    have e:x[i+(d+1)+1]=x[i+d+1+1]:=rfl
    omega
theorem NumsR.rise {x:List Int} (h:NumsR x):x.Pairwise (· < ·):=by
  rw[List.pairwise_iff_getElem]
  intro i j hi hj hij
  have h1:=up_of h.2 (j - i - 1) i (by omega)
  have e:i+(j - i - 1)+1=j:=by omega
  simp only[e]at h1
  exact h1
theorem sortN_bad {x:List Int} (h: ¬ x.Nodup): ¬ NumsR (sortN x):=fun c=>h (by
  have h1:(sortN x).Nodup:=c.rise.imp (fun h=>by omega)
  exact(List.mergeSort_perm x _).nodup_iff.1 h1)
theorem sortN_rise {x:List Int} (h:x.Nodup):(sortN x).Pairwise (· < ·):=by
  have h1:(sortN x).Nodup:=(List.mergeSort_perm x _).nodup_iff.2 h
  have h2:(sortN x).Pairwise (· ≤ ·):=sort_rise x
  exact(List.Pairwise.and h2 h1).imp (fun h=>by have:=h.1;have:=h.2;omega)
theorem put_le (x:List Int) (a:Int):(put x a).length≤x.length+1:=by
  rcases put_len x a with h|h
  · exact h
  · exfalso
    have h3:(put x a).length≤x.length+1+x.length:=by
      unfold put
      split
      · omega
      · have g1:=List.length_filter_le (fun b=>decide (b<a)) x
        have g2:=List.length_filter_le (fun b=>decide (b>a)) x
        simp only[List.length_append,List.length_cons,List.length_nil]
        omega
    omega
/-- A number's call, looked for. -/
theorem callS (w:ByteArray):Evt (fun k=>BD.f k w) ((place w calls 0).getD (-1)):=by
  have key:=down (T:=fun i=>Evt (fun k=>BD.l0 k w calls (i:Int)) ((place w (calls.drop i) (i:Int)).getD (-1))) (n:=calls.length) ?_ ?_ calls.length 0 (by omega)
  · exact key
  · refine .succ (.const fun k=>?_)
    simp only[BD.l0]
    rw[if_neg (by omega),List.drop_length]
    rfl
  · rintro i hi ⟨K,h⟩
    dsimp only at h
    have hc:calls.length=12:=rfl
    have er:rdOf ByteArray.empty calls (i:Int)=calls[i]:=getD_lt _ hi
    rw[List.drop_eq_getElem_cons hi]
    simp only[place]
    by_cases e:calls[i].toList=w.toList
    · refine .succ (.const fun k=>?_)
      simp only[BD.l0]
      rw[if_pos (by omega),if_pos (by omega),er,if_pos e,if_pos e]
      rfl
    · refine .succ ⟨K,fun k hk=>?_⟩
      simp only[BD.l0]
      rw[if_pos (by omega),if_pos (by omega),er,if_neg e,if_neg e,show wrap64 ((i:Int)+1)=((i+1:Nat):Int)from wsucc hi (by omega)]
      exact h k hk
/-- The last place of a name. -/
def lastP (w:ByteArray):List ByteArray→Int→Int→Int
  | [],_,a=>a
  | m :: ms,n,a=>lastP w ms (n+1) (if m.toList=w.toList then n else a)
theorem last_place (w:ByteArray):lastP w acts 0 (-1)=(place w acts 0).getD (-1):=by
  simp only[acts,lastP,place,ByteArray.toList_eq]
  generalize w.data.toList=l
  by_cases h0: [(107:UInt8),105,108,108]=l
  · subst h0;simp
  by_cases h1: [(116:UInt8),114,97,112]=l
  · subst h1;simp
  by_cases h2: [(101:UInt8),114,114]=l
  · subst h2;simp
  by_cases h3: [(116:UInt8),114,97,99,101]=l
  · subst h3;simp
  by_cases h4: [(108:UInt8),111,103]=l
  · subst h4;simp
  by_cases h5: [(97:UInt8),108,108,111,119]=l
  · subst h5;simp
  simp[h0,h1,h2,h3,h4,h5]
section
variable (L:List S95) (hL:L.length≤2000)
include hL
theorem itemI (i:Nat) (hi:i≤L.length):(∃ v,i<L.length∧pItem (L.drop i)=some (v,L.drop (i+1))∧Evt (fun k=>BJ.f k L (i:Int) false) (v,((i+1:Nat):Int),false))∨(pItem (L.drop i)=none∧∃ j,Evt (fun k=>BJ.f k L (i:Int) false) (-1,j,true)):=by
  unfold pItem
  rcases numI L hL i hi with⟨v,h,e,g1,g2⟩|⟨e,g1,g2⟩
  · left
    refine⟨v,h,by rw[e],.const fun k=>?_⟩
    simp only[BJ.f,g1,g2,Option.bind_some,if_true]
  · rw[e]
    rcases nameI L hL calls (by decide) i hi with⟨v,h,e2,K,g⟩|⟨e2,j,K,g⟩
    · left
      refine⟨v,h,e2,K,fun k hk=>?_⟩
      simp only[BJ.f,g1,Option.bind_some,Bool.false_eq_true,if_false,show Bk.f=some calls from rfl]
      rw[show Az.f k L (i:Int) false _=_ from g k hk]
      rfl
    · right
      refine⟨e2,j,K,fun k hk=>?_⟩
      simp only[BJ.f,g1,Option.bind_some,Bool.false_eq_true,if_false,show Bk.f=some calls from rfl]
      rw[show Az.f k L (i:Int) false _=_ from g k hk]
      rfl
theorem endBad (a:Int) (ns:List Int) (cs:List S54): ∃ x j,Evt (fun k=>endI k L a true ns cs) (ruV x j true):=by
  obtain⟨u,d,j,K,g⟩:=actBad L hL a
  dsimp only at g
  refine⟨⟨ns,cs,u,d⟩,j,K,fun k hk=>?_⟩
  simp only[endI,mustBad,g k hk,Option.bind_some]
  rfl
theorem endI_ (i:Nat) (hi:i≤L.length) (ns:List Int) (cs:List S54) :
    (∃ x j,i<j∧j≤L.length∧pEnd ns cs (L.drop i)=some (x,L.drop j)∧x.f0=ns∧x.f1=cs∧Evt (fun k=>endI k L (i:Int) false ns cs) (ruV x (j:Int) false))∨
    (pEnd ns cs (L.drop i)=none∧∃ x j,Evt (fun k=>endI k L (i:Int) false ns cs) (ruV x j true)):=by
  unfold pEnd
  rcases mustI L hL i hi (⟨#[100,111]⟩ :ByteArray)with⟨h1,e1,g1⟩|⟨e1,g1⟩
  · rw[e1]
    simp only[Option.bind_some]
    rcases actI L hL (i+1) (by omega)with⟨u,d,j,h2,h3,e2,K,g2⟩|⟨e2,u,d,j,K,g2⟩
    · dsimp only at g2
      rw[e2]
      simp only[Option.bind_some]
      rcases mustI L hL j (by omega) (⟨#[59]⟩ :ByteArray)with⟨h4,e4,g4⟩|⟨e4,g4⟩
      · left
        refine⟨⟨ns,cs,u,d⟩,j+1,by omega,by omega,by rw[e4];rfl,rfl,rfl,K,fun k hk=>?_⟩
        simp only[endI,g1,g2 k hk,g4,Option.bind_some]
        rfl
      · right
        refine⟨by rw[e4];rfl,⟨ns,cs,u,d⟩,(j:Int),K,fun k hk=>?_⟩
        simp only[endI,g1,g2 k hk,g4,Option.bind_some]
        rfl
    · dsimp only at g2
      right
      refine⟨by rw[e2];rfl,⟨ns,cs,u,d⟩,j,K,fun k hk=>?_⟩
      simp only[endI,g1,g2 k hk,mustBad,Option.bind_some]
      rfl
  · right
    obtain⟨x,j,K,g⟩:=endBad L hL (i:Int) ns cs
    dsimp only at g
    refine⟨by rw[e1];rfl,x,j,K,fun k hk=>?_⟩
    rw[← g k hk]
    simp only[endI,g1,mustBad]
/-- The conditions behind the first. -/
theorem l1I: ∀ d i (acc:List S54),L.length - i≤d→i≤L.length→acc.length≤i→
    (∃ v j,i≤j∧j≤L.length∧byTake (⟨#[97,110,100]⟩ :ByteArray) (L.drop i) (some (acc,L.drop i)) (pConds d acc)=some (v,L.drop j)∧v.length≤j∧∀ ns c e R,Evt (fun k=>endI k L (j:Int) false ns v) R→Evt (fun k=>AC.l1 k L (i:Int) false ns acc c e) R)∨
    (byTake (⟨#[97,110,100]⟩ :ByteArray) (L.drop i) (some (acc,L.drop i)) (pConds d acc)=none∧∃ v j,∀ ns c e R,Evt (fun k=>endI k L j true ns v) R→Evt (fun k=>AC.l1 k L (i:Int) false ns acc c e) R):=by
  intro d
  induction d with
  | zero=>
    intro i acc hd hi ha
    rcases hasI L hL i hi (⟨#[97,110,100]⟩ :ByteArray)with⟨h1,e1,g1⟩|⟨e1,g1⟩
    · omega
    · left
      rw[byTake_none e1]
      refine⟨acc,i,Nat.le_refl _,hi,rfl,ha,fun ns c e R ⟨K,g⟩=> .succ ⟨K,fun k hk=>?_⟩⟩
      simp only[AC.l1,g1,Option.bind_some,Bool.false_eq_true,if_false]
      exact g k hk
  | succ d ih=>
    intro i acc hd hi ha
    rcases hasI L hL i hi (⟨#[97,110,100]⟩ :ByteArray)with⟨h1,e1,g1⟩|⟨e1,g1⟩
    · rw[byTake_some e1]
      simp only[pConds]
      rcases condI_ L hL (i+1) (by omega)with⟨y,j,h2,h3,e2,K,g2⟩|⟨e2,y,j,K,g2⟩
      · dsimp only at g2
        rw[e2]
        simp only[Option.bind_some]
        have step: ∀ ns c e R,Evt (fun k=>AC.l1 k L (j:Int) false ns (acc ++ [y]) c e) R→Evt (fun k=>AC.l1 k L (i:Int) false ns acc c e) R:=fun ns c e R ⟨K2,g⟩=> .succ ⟨K+K2,fun k hk=>by
          simp only[AC.l1,g1,g2 k (by omega),cdV,Option.bind_some,if_true]
          rw[if_pos (by omega)]
          exact g k (by omega)⟩
        rcases ih j (acc ++ [y]) (by omega) h3 (by simp only[List.length_append,List.length_cons,List.length_nil];omega)with⟨v,j2,h4,h5,e3,h6,f⟩|⟨e3,v,j2,f⟩
        · exact .inl ⟨v,j2,by omega,h5,e3,h6,fun ns c e R hR=>step ns c e R (f ns c e R hR)⟩
        · exact .inr ⟨e3,v,j2,fun ns c e R hR=>step ns c e R (f ns c e R hR)⟩
      · dsimp only at g2
        right
        refine⟨by rw[e2];rfl,acc ++ [y],j,fun ns c e R ⟨K2,g⟩=> .succ ⟨K+K2+1,fun k hk=>?_⟩⟩
        obtain⟨k,rfl⟩ : ∃ m,k=m+1:=⟨k - 1,by omega⟩
        simp only[AC.l1,g1,g2 (k+1) (by omega),cdV,Option.bind_some,if_true]
        rw[if_pos (by omega)]
        simp only[hasBad,Option.bind_some,Bool.false_eq_true,if_false]
        exact g k (by omega)
    · left
      rw[byTake_none e1]
      refine⟨acc,i,Nat.le_refl _,hi,rfl,ha,fun ns c e R ⟨K,g⟩=> .succ ⟨K,fun k hk=>?_⟩⟩
      simp only[AC.l1,g1,Option.bind_some,Bool.false_eq_true,if_false]
      exact g k hk
theorem j1Bad (a:Int) (ys:List Int) (hy:ys.length≤4000) (c e:Int): ∃ x j,Evt (fun k=>AC.j1 k L a true ys c e) (ruV x j true):=by
  obtain⟨x,j,K,g⟩:=endBad L hL a (sortN ys) []
  refine⟨x,j,.succ ⟨K,fun k hk=>?_⟩⟩
  simp only[AC.j1,BV.f]
  rw[if_pos (by omega)]
  simp only[hasBad,Option.bind_some,Bool.false_eq_true,if_false]
  exact g k hk
theorem tailI (i:Nat) (hi:i≤L.length) (ys:List Int) (hy:ys.length≤4000) (c e:Int) :
    (∃ x j,i<j∧j≤L.length∧pTail (sortN ys) (L.drop i)=some (x,L.drop j)∧x.f0=sortN ys∧x.f1.length≤4000∧Evt (fun k=>AC.j1 k L (i:Int) false ys c e) (ruV x (j:Int) false))∨
    (pTail (sortN ys) (L.drop i)=none∧∃ x j,Evt (fun k=>AC.j1 k L (i:Int) false ys c e) (ruV x j true)):=by
  unfold pTail
  rcases hasI L hL i hi (⟨#[105,102]⟩ :ByteArray)with⟨h1,e1,g1⟩|⟨e1,g1⟩
  · simp only[e1]
    rcases condI_ L hL (i+1) (by omega)with⟨y,j,h2,h3,e2,K,g2⟩|⟨e2,y,j,K,g2⟩
    · dsimp only at g2
      obtain⟨d,hd⟩ : ∃ d,(L.drop (i+1)).length=d+1:=⟨L.length - (i+1) - 1,by rw[List.length_drop];omega⟩
      rw[hd]
      rw[List.length_drop]at hd
      simp only[pConds,e2,Option.bind_some]
      have step: ∀ R,Evt (fun k=>AC.l1 k L (j:Int) false (sortN ys) ([] ++ [y]) c e) R→Evt (fun k=>AC.j1 k L (i:Int) false ys c e) R:=fun R ⟨K2,g⟩=> .succ ⟨K+K2,fun k hk=>by
        simp only[AC.j1,BV.f]
        rw[if_pos (by omega)]
        simp only[g1,g2 k (by omega),cdV,Option.bind_some,if_true]
        rw[if_pos (by decide)]
        exact g k (by omega)⟩
      rcases l1I L hL d j ([] ++ [y]) (by omega) h3 (by simp;omega)with⟨v,j2,h4,h5,e3,h6,f⟩|⟨e3,v,j2,f⟩
      · rw[e3]
        simp only[Option.bind_some]
        rcases endI_ L hL j2 h5 (sortN ys) v with⟨x,j3,h7,h8,e4,e5,e6,g4⟩|⟨e4,x,j3,g4⟩
        · exact .inl ⟨x,j3,by omega,h8,e4,e5,by rw[e6];omega,step _ (f _ _ _ _ g4)⟩
        · exact .inr ⟨e4,x,j3,step _ (f _ _ _ _ g4)⟩
      · rw[e3]
        obtain⟨x,j3,g4⟩:=endBad L hL j2 (sortN ys) v
        exact .inr ⟨rfl,x,j3,step _ (f _ _ _ _ g4)⟩
    · dsimp only at g2
      right
      obtain⟨x,j3,K4,g4⟩:=endBad L hL j (sortN ys) [y]
      refine⟨?_,x,j3,.succ (.succ ⟨K+K4,fun k hk=>?_⟩)⟩
      · cases (L.drop (i+1)).length with
        | zero=>rfl
        | succ d=>simp only[pConds,e2,Option.bind_none]
      · simp only[AC.j1,BV.f]
        rw[if_pos (by omega)]
        simp only[g1,g2 (k+1) (by omega),cdV,Option.bind_some,if_true]
        rw[if_pos (by decide)]
        simp only[AC.l1,hasBad,Option.bind_some,Bool.false_eq_true,if_false]
        exact g4 k (by omega)
  · simp only[e1]
    have step: ∀ R,Evt (fun k=>endI k L (i:Int) false (sortN ys) []) R→Evt (fun k=>AC.j1 k L (i:Int) false ys c e) R:=fun R ⟨K2,g⟩=> .succ ⟨K2,fun k hk=>by
      simp only[AC.j1,BV.f]
      rw[if_pos (by omega)]
      simp only[g1,Option.bind_some,Bool.false_eq_true,if_false]
      exact g k (by omega)⟩
    rcases endI_ L hL i hi (sortN ys) []with⟨x,j3,h7,h8,e4,e5,e6,g4⟩|⟨e4,x,j3,g4⟩
    · exact .inl ⟨x,j3,by omega,h8,e4,e5,by rw[e6];decide,step _ g4⟩
    · exact .inr ⟨e4,x,j3,step _ g4⟩
/-- The numbers behind the first, when one came twice. -/
theorem itemsTwice: ∀ d i (xs:List Int),L.length - i≤d→i≤L.length→xs.length≤i→ ¬ xs.Nodup→
    (∃ ys j,i≤j∧j≤L.length∧ys.length≤j∧ ¬ ys.Nodup∧∀ c e R,Evt (fun k=>AC.j1 k L (j:Int) false ys c e) R→Evt (fun k=>AC.l0 k L (i:Int) false xs c e) R)∨
    (∃ ys j,ys.length≤4000∧∀ c e R,Evt (fun k=>AC.j1 k L j true ys c e) R→Evt (fun k=>AC.l0 k L (i:Int) false xs c e) R):=by
  intro d
  induction d with
  | zero=>
    intro i xs hd hi ha hn
    rcases hasI L hL i hi (⟨#[44]⟩ :ByteArray)with⟨h1,e1,g1⟩|⟨e1,g1⟩
    · omega
    · left
      refine⟨xs,i,Nat.le_refl _,hi,ha,hn,fun c e R ⟨K,g⟩=> .succ ⟨K,fun k hk=>?_⟩⟩
      simp only[AC.l0,g1,Option.bind_some,Bool.false_eq_true,if_false]
      exact g k hk
  | succ d ih=>
    intro i xs hd hi ha hn
    rcases hasI L hL i hi (⟨#[44]⟩ :ByteArray)with⟨h1,e1,g1⟩|⟨e1,g1⟩
    · rcases itemI L hL (i+1) (by omega)with⟨v,h2,e2,K,g2⟩|⟨e2,j,K,g2⟩
      · dsimp only at g2
        have step: ∀ c e R,Evt (fun k=>AC.l0 k L ((i+1+1:Nat):Int) false (xs ++ [v]) c e) R→Evt (fun k=>AC.l0 k L (i:Int) false xs c e) R:=fun c e R ⟨K2,g⟩=> .succ ⟨K+K2,fun k hk=>by
          simp only[AC.l0,g1,g2 k (by omega),Option.bind_some,if_true]
          rw[if_pos (by omega)]
          exact g k (by omega)⟩
        rcases ih (i+1+1) (xs ++ [v]) (by omega) (by omega) (by simp only[List.length_append,List.length_cons,List.length_nil];omega) (fun c=>hn (List.nodup_append.1 c).1)with⟨ys,j,h3,h4,h5,h6,f⟩|⟨ys,j,h5,f⟩
        · exact .inl ⟨ys,j,by omega,h4,h5,h6,fun c e R hR=>step c e R (f c e R hR)⟩
        · exact .inr ⟨ys,j,h5,fun c e R hR=>step c e R (f c e R hR)⟩
      · dsimp only at g2
        right
        refine⟨xs ++ [-1],j,by simp only[List.length_append,List.length_cons,List.length_nil];omega,fun c e R ⟨K2,g⟩=> .succ ⟨K+K2+1,fun k hk=>?_⟩⟩
        obtain⟨k,rfl⟩ : ∃ m,k=m+1:=⟨k - 1,by omega⟩
        simp only[AC.l0,g1,g2 (k+1) (by omega),Option.bind_some,if_true]
        rw[if_pos (by omega)]
        simp only[hasBad,Option.bind_some,Bool.false_eq_true,if_false]
        exact g k (by omega)
    · left
      refine⟨xs,i,Nat.le_refl _,hi,ha,hn,fun c e R ⟨K,g⟩=> .succ ⟨K,fun k hk=>?_⟩⟩
      simp only[AC.l0,g1,Option.bind_some,Bool.false_eq_true,if_false]
      exact g k hk
theorem itemsI: ∀ d i (xs o:List Int),L.length - i≤d→i≤L.length→xs.length≤i→xs.Nodup→o.Pairwise (· < ·)→(∀ u,u ∈ o ↔ u ∈ xs)→
    (∃ v ys j,i≤j∧j≤L.length∧byTake (⟨#[44]⟩ :ByteArray) (L.drop i) (some (o,L.drop i)) (pNums d o)=some (v,L.drop j)∧ys.length≤j∧v=sortN ys∧∀ c e R,Evt (fun k=>AC.j1 k L (j:Int) false ys c e) R→Evt (fun k=>AC.l0 k L (i:Int) false xs c e) R)∨
    (byTake (⟨#[44]⟩ :ByteArray) (L.drop i) (some (o,L.drop i)) (pNums d o)=none∧((∃ ys j,i≤j∧j≤L.length∧ys.length≤j∧ ¬ ys.Nodup∧∀ c e R,Evt (fun k=>AC.j1 k L (j:Int) false ys c e) R→Evt (fun k=>AC.l0 k L (i:Int) false xs c e) R)∨
    (∃ ys j,ys.length≤4000∧∀ c e R,Evt (fun k=>AC.j1 k L j true ys c e) R→Evt (fun k=>AC.l0 k L (i:Int) false xs c e) R))):=by
  intro d
  induction d with
  | zero=>
    intro i xs o hd hi ha hn ho hm
    rcases hasI L hL i hi (⟨#[44]⟩ :ByteArray)with⟨h1,e1,g1⟩|⟨e1,g1⟩
    · omega
    · left
      rw[byTake_none e1]
      refine⟨o,xs,i,Nat.le_refl _,hi,rfl,ha,riseEq _ _ ho (sortN_rise hn) (fun u=>(hm u).trans List.mem_mergeSort.symm),fun c e R ⟨K,g⟩=> .succ ⟨K,fun k hk=>?_⟩⟩
      simp only[AC.l0,g1,Option.bind_some,Bool.false_eq_true,if_false]
      exact g k hk
  | succ d ih=>
    intro i xs o hd hi ha hn ho hm
    rcases hasI L hL i hi (⟨#[44]⟩ :ByteArray)with⟨h1,e1,g1⟩|⟨e1,g1⟩
    · rw[byTake_some e1]
      simp only[pNums]
      rcases itemI L hL (i+1) (by omega)with⟨v,h2,e2,K,g2⟩|⟨e2,j,K,g2⟩
      · dsimp only at g2
        rw[e2]
        simp only[Option.bind_some]
        have step: ∀ c e R,Evt (fun k=>AC.l0 k L ((i+1+1:Nat):Int) false (xs ++ [v]) c e) R→Evt (fun k=>AC.l0 k L (i:Int) false xs c e) R:=fun c e R ⟨K2,g⟩=> .succ ⟨K+K2,fun k hk=>by
          simp only[AC.l0,g1,g2 k (by omega),Option.bind_some,if_true]
          rw[if_pos (by omega)]
          exact g k (by omega)⟩
        by_cases hv:v ∈ o
        · right
          rw[if_pos hv]
          refine⟨rfl,?_⟩
          rcases itemsTwice L hL d (i+1+1) (xs ++ [v]) (by omega) (by omega) (by simp only[List.length_append,List.length_cons,List.length_nil];omega) (fun c=>(List.nodup_append.1 c).2.2 v ((hm v).1 hv) v List.mem_cons_self rfl)with⟨ys,j,h3,h4,h5,h6,f⟩|⟨ys,j,h5,f⟩
          · exact .inl ⟨ys,j,by omega,h4,h5,h6,fun c e R hR=>step c e R (f c e R hR)⟩
          · exact .inr ⟨ys,j,h5,fun c e R hR=>step c e R (f c e R hR)⟩
        · rw[if_neg hv]
          have hn2:(xs ++ [v]).Nodup:=List.nodup_append.2 ⟨hn,by simp,fun a ha b hb=>by
            rw[List.mem_singleton]at hb
            subst hb
            exact fun e=>hv ((hm b).2 (e ▸ ha))⟩
          rcases ih (i+1+1) (xs ++ [v]) (put o v) (by omega) (by omega) (by simp only[List.length_append,List.length_cons,List.length_nil];omega) hn2 (put_rise o v ho) (fun u=>by rw[put_mem,hm u,List.mem_append,List.mem_singleton])with⟨w,ys,j,h3,h4,e3,h5,h6,f⟩|⟨e3,⟨ys,j,h3,h4,h5,h6,f⟩|⟨ys,j,h5,f⟩⟩
          · exact .inl ⟨w,ys,j,by omega,h4,e3,h5,h6,fun c e R hR=>step c e R (f c e R hR)⟩
          · exact .inr ⟨e3,.inl ⟨ys,j,by omega,h4,h5,h6,fun c e R hR=>step c e R (f c e R hR)⟩⟩
          · exact .inr ⟨e3,.inr ⟨ys,j,h5,fun c e R hR=>step c e R (f c e R hR)⟩⟩
      · dsimp only at g2
        right
        refine⟨by rw[e2];rfl,.inr ⟨xs ++ [-1],j,by simp only[List.length_append,List.length_cons,List.length_nil];omega,fun c e R ⟨K2,g⟩=> .succ ⟨K+K2+1,fun k hk=>?_⟩⟩⟩
        obtain⟨k,rfl⟩ : ∃ m,k=m+1:=⟨k - 1,by omega⟩
        simp only[AC.l0,g1,g2 (k+1) (by omega),Option.bind_some,if_true]
        rw[if_pos (by omega)]
        simp only[hasBad,Option.bind_some,Bool.false_eq_true,if_false]
        exact g k (by omega)
    · left
      rw[byTake_none e1]
      refine⟨o,xs,i,Nat.le_refl _,hi,rfl,ha,riseEq _ _ ho (sortN_rise hn) (fun u=>(hm u).trans List.mem_mergeSort.symm),fun c e R ⟨K,g⟩=> .succ ⟨K,fun k hk=>?_⟩⟩
      simp only[AC.l0,g1,Option.bind_some,Bool.false_eq_true,if_false]
      exact g k hk
/-- What comes of a reading of a rule. -/
def ResR (i:Nat) (p:Option (S50×List S95)) (g:Nat→Option (List Int×List S54×Int×Int×Int×Bool)):Prop:=
  (∃ x j,i<j∧j≤L.length∧p=some (x,L.drop j)∧Bd x∧Evt g (ruV x (j:Int) false))∨
  (p=none∧∃ x j,Evt g (ruV x j true))∨
  (p=none∧∃ x,∃ j:Nat,i<j∧j≤L.length∧Bd x∧ ¬ RuleR x.f0 x.f1 x.f2 x.f3∧Evt g (ruV x (j:Int) false))
theorem ruleI (i:Nat) (hi:i≤L.length):ResR L i (pRule (L.drop i)) (fun k=>AC.f k L (i:Int) false):=by
  unfold ResR pRule
  rcases mustI L hL i hi (⟨#[111,110]⟩ :ByteArray)with⟨h1,e1,g1⟩|⟨e1,g1⟩
  · rw[e1]
    simp only[Option.bind_some]
    rcases hasI L hL (i+1) (by omega) (⟨#[97,110,121]⟩ :ByteArray)with⟨h2,e2,g2⟩|⟨e2,g2⟩
    · simp only[e2]
      have step: ∀ R,Evt (fun k=>AC.j1 k L ((i+1+1:Nat):Int) false [] 0 0) R→Evt (fun k=>AC.f k L (i:Int) false) R:=fun R ⟨K,g⟩=>⟨K,fun k hk=>by
        simp only[AC.f,g1,g2,Option.bind_some,if_true]
        exact g k hk⟩
      rcases tailI L hL (i+1+1) (by omega) [] (by decide) 0 0 with⟨x,j,h3,h4,e3,h5,h6,g3⟩|⟨e3,x,j,g3⟩
      · rw[sortN_nil]at e3 h5
        exact .inl ⟨x,j,by omega,h4,e3,⟨by rw[h5];decide,h6⟩,step _ g3⟩
      · rw[sortN_nil]at e3
        exact .inr (.inl ⟨e3,x,j,step _ g3⟩)
    · simp only[e2]
      rcases itemI L hL (i+1) (by omega)with⟨v,h3,e3,K,g3⟩|⟨e3,j,K,g3⟩
      · dsimp only at g3
        have step: ∀ R,Evt (fun k=>AC.l0 k L ((i+1+1:Nat):Int) false [v] 0 0) R→Evt (fun k=>AC.f k L (i:Int) false) R:=fun R ⟨K2,g⟩=>⟨K+K2,fun k hk=>by
          simp only[AC.f,g1,g2,g3 k (by omega),Option.bind_some,Bool.false_eq_true,if_false]
          rw[if_pos (by decide)]
          exact g k (by omega)⟩
        obtain⟨d,hd⟩ : ∃ d,(L.drop (i+1)).length=d+1:=⟨L.length - (i+1) - 1,by rw[List.length_drop];omega⟩
        rw[hd]
        rw[List.length_drop]at hd
        simp only[pNums,e3,Option.bind_some,List.not_mem_nil,if_false]
        have ep:put [] v= [v]:=by simp[put]
        rw[ep]
        rcases itemsI L hL d (i+1+1) [v] [v] (by omega) (by omega) (by simp) (by simp) (by simp) (fun u=>Iff.rfl)with⟨w,ys,j,h4,h5,e4,h6,h7,f⟩|⟨e4,⟨ys,j,h4,h5,h6,h7,f⟩|⟨ys,j,h6,f⟩⟩
        · rw[e4]
          simp only[Option.bind_some]
          rcases tailI L hL j h5 ys (by omega) 0 0 with⟨x,j2,h8,h9,e5,h10,h11,g5⟩|⟨e5,x,j2,g5⟩
          · rw[← h7]at e5 h10
            exact .inl ⟨x,j2,by omega,h9,e5,⟨by rw[h10,h7,sortN_len];omega,h11⟩,step _ (f _ _ _ g5)⟩
          · rw[← h7]at e5
            exact .inr (.inl ⟨e5,x,j2,step _ (f _ _ _ g5)⟩)
        · rw[e4]
          simp only[Option.bind_none]
          rcases tailI L hL j h5 ys (by omega) 0 0 with⟨x,j2,h8,h9,e5,h10,h11,g5⟩|⟨e5,x,j2,g5⟩
          · exact .inr (.inr ⟨trivial,x,j2,by omega,h9,⟨by rw[h10,sortN_len];omega,h11⟩,fun hr=>sortN_bad h7 (h10 ▸ hr.1),step _ (f _ _ _ g5)⟩)
          · exact .inr (.inl ⟨trivial,x,j2,step _ (f _ _ _ g5)⟩)
        · rw[e4]
          simp only[Option.bind_none]
          obtain⟨x,j2,g5⟩:=j1Bad L hL j ys h6 0 0
          exact .inr (.inl ⟨trivial,x,j2,step _ (f _ _ _ g5)⟩)
      · dsimp only at g3
        right;left
        obtain⟨x,j2,K2,g5⟩:=j1Bad L hL j [-1] (by decide) 0 0
        refine⟨?_,x,j2,⟨K+K2+1,fun k hk=>?_⟩⟩
        · cases (L.drop (i+1)).length with
          | zero=>rfl
          | succ d=>simp only[pNums,e3,Option.bind_none]
        · obtain⟨k,rfl⟩ : ∃ m,k=m+1:=⟨k - 1,by omega⟩
          simp only[AC.f,g1,g2,g3 (k+1) (by omega),Option.bind_some,Bool.false_eq_true,if_false]
          rw[if_pos (by decide)]
          simp only[AC.l0,hasBad,Option.bind_some,Bool.false_eq_true,if_false]
          exact g5 k (by omega)
  · right;left
    rw[e1]
    obtain⟨x,j2,K2,g5⟩:=j1Bad L hL (i:Int) [-1] (by decide) 0 0
    refine⟨rfl,x,j2,⟨K2+1,fun k hk=>?_⟩⟩
    obtain⟨k,rfl⟩ : ∃ m,k=m+1:=⟨k - 1,by omega⟩
    simp only[AC.f,g1,hasBad,BJ.f,isNumBad,Bk.f,nameBad,Option.bind_some,Bool.false_eq_true,if_false]
    rw[if_pos (by decide)]
    simp only[AC.l0,hasBad,Option.bind_some,Bool.false_eq_true,if_false]
    exact g5 k (by omega)
end
/-! Rules, as the reference reads them. -/
theorem sNameBad (L:List S95) (a:Int):BM.f L a true=some ((⟨#[]⟩ :ByteArray),a,true):=by
  unfold BM.f
  rw[if_pos rfl]
theorem no_call:(place (⟨#[]⟩ :ByteArray) calls 0).getD (-1)= -1:=by
  simp[place,calls,ByteArray.toList_eq]
theorem no_act:(place (⟨#[]⟩ :ByteArray) acts 0).getD (-1)= -1:=by
  simp[place,acts,ByteArray.toList_eq]
section
variable (L:List S95) (hL:L.length≤2000)
include hL
theorem sNameE (i:Nat) (h:i<L.length):BM.f L (i:Int) false=if L[i].f0=1 then some (L[i].f1,((i+1:Nat):Int),false)else some ((⟨#[]⟩ :ByteArray),(i:Int),true):=by
  have e1:Aside0 (wrap64 (wrap64 ((i:Int)+1) - 1)=(i:Int)):=⟨back2 i (by omega)⟩
  unfold BM.f
  rw[if_neg (by decide),if_neg (show ¬ (i:Int)≥(L.length:Int) by omega),if_pos (show(0:Int)≤(i:Int) by omega),if_pos (show(i:Int)<(L.length:Int) by omega),nrdI L i h,e1.out,if_pos (show(0:Int)≤(i:Int) by omega),if_pos (show(i:Int)<(L.length:Int) by omega),nrdI L i h,wsucc h (show L.length≤9223372036854775807 by omega)]
theorem sNameI (ns:List ByteArray) (i:Nat) (hi:i≤L.length):(∃ w,i<L.length∧pName ns (L.drop i)=(place w ns 0).map (fun p=>(p,L.drop (i+1)))∧BM.f L (i:Int) false=some (w,((i+1:Nat):Int),false))∨(pName ns (L.drop i)=none∧∃ j,BM.f L (i:Int) false=some ((⟨#[]⟩ :ByteArray),j,true)):=by
  by_cases h:i<L.length
  · rw[List.drop_eq_getElem_cons h,sNameE L hL i h]
    simp only[pName]
    by_cases h1:L[i].f0=1
    · rw[if_pos h1,if_pos h1]
      exact .inl ⟨_,h,rfl,rfl⟩
    · rw[if_neg h1,if_neg h1]
      exact .inr ⟨rfl,_,rfl⟩
  · rw[List.drop_eq_nil_of_le (by omega)]
    refine .inr ⟨rfl,(i:Int),?_⟩
    unfold BM.f
    rw[if_neg (by decide),if_pos (by omega)]
theorem actLoop (w:ByteArray) (i:Int) (b:Bool) (R:Int×Int×Int×Bool): ∀ d n (at_:Int),n+d=acts.length→Evt (fun k=>AU.l0 k w acts (lastP w (acts.drop n) (n:Int) at_) (acts.length:Int) L i b) R→Evt (fun k=>AU.l0 k w acts at_ (n:Int) L i b) R
  | 0,n,at_,hn,h=>by
    have:n=acts.length:=by omega
    subst this
    rw[List.drop_length]at h
    exact h
  | d+1,n,at_,hn,h=>by
    have hlt:n<acts.length:=by omega
    have hc:acts.length=6:=rfl
    have er:rdOf ByteArray.empty acts (n:Int)=acts[n]:=getD_lt _ hlt
    rw[List.drop_eq_getElem_cons hlt]at h
    obtain⟨K,g⟩:=actLoop w i b R d (n+1) (if acts[n].toList=w.toList then(n:Int)else at_) (by omega) h
    dsimp only at g
    refine .succ ⟨K,fun k hk=>?_⟩
    rw[← g k hk]
    simp only[AU.l0]
    rw[if_pos (by omega),if_pos (by omega),er,show wrap64 ((n:Int)+1)=((n+1:Nat):Int)from wsucc hlt (by omega)]
    split <;> rfl
theorem sActEnd (w:ByteArray) (i:Int) (b:Bool) (R:Int×Int×Int×Bool) (h:Evt (fun k=>AU.l0 k w acts ((place w acts 0).getD (-1)) (acts.length:Int) L i b) R):Evt (fun k=>AU.l0 k w acts (-1) 0 L i b) R:=
  actLoop L hL w i b R acts.length 0 (-1) (by omega) (by rw[show lastP w (acts.drop 0) ((0:Nat):Int) (-1)=_ from last_place w];exact h)
theorem sActNo (w:ByteArray) (i:Int) (b:Bool) (h:(place w acts 0).getD (-1)= -1):Evt (fun k=>AU.l0 k w acts (-1) 0 L i b) (0,0,i,true):=sActEnd L hL w i b _ (by
  rw[h]
  refine .succ (.const fun k=>?_)
  simp only[AU.l0]
  rw[if_neg (by omega),if_pos (by omega)])
theorem sActBad (i:Int): ∃ a d j,Evt (fun k=>AU.f k L i true) (a,d,j,true):=by
  obtain⟨K,g⟩:=sActNo L hL (⟨#[]⟩ :ByteArray) i true no_act
  refine⟨0,0,i,K,fun k hk=>?_⟩
  simp only[AU.f,sNameBad,Option.bind_some,show BW.f=some acts from rfl]
  exact g k hk
theorem sActI (i:Nat) (hi:i≤L.length):(∃ a d j,i<j∧j≤L.length∧pAct (L.drop i)=some (a,d,L.drop j)∧Evt (fun k=>AU.f k L (i:Int) false) (a,d,(j:Int),false))∨(pAct (L.drop i)=none∧∃ a d j,Evt (fun k=>AU.f k L (i:Int) false) (a,d,j,true)):=by
  unfold pAct
  rcases sNameI L hL acts i hi with⟨w,h,e,g⟩|⟨e,j,g⟩
  · have step: ∀ R,Evt (fun k=>AU.l0 k w acts (-1) 0 L ((i+1:Nat):Int) false) R→Evt (fun k=>AU.f k L (i:Int) false) R:=fun R ⟨K,f⟩=>⟨K,fun k hk=>by
      simp only[AU.f,g,Option.bind_some,show BW.f=some acts from rfl]
      exact f k hk⟩
    rw[e]
    cases hp:place w acts 0 with
    | none=>exact .inr ⟨rfl,0,0,_,step _ (sActNo L hL w _ false (by rw[hp];rfl))⟩
    | some v=>
      have hv:=place_nn _ _ _ _ hp
      simp only[Option.map_some,Option.bind_some]
      rcases numI L hL (i+1) (by omega)with⟨u,h3,e3,g3,g4⟩|⟨e3,g3,g4⟩
      · refine .inl ⟨v,u,i+1+1,by omega,by omega,by rw[e3],step _ (sActEnd L hL w _ false _ ?_)⟩
        rw[hp]
        refine .succ (.const fun k=>?_)
        simp only[AU.l0,hasNumE,numE,g3,g4,Option.bind_some,if_true,Option.getD_some]
        rw[if_neg (by omega),if_neg (by omega)]
      · refine .inl ⟨v,0,i+1,by omega,by omega,by rw[e3],step _ (sActEnd L hL w _ false _ ?_)⟩
        rw[hp]
        refine .succ (.const fun k=>?_)
        simp only[AU.l0,hasNumE,g3,Option.bind_some,Bool.false_eq_true,if_false,Option.getD_some]
        rw[if_neg (by omega),if_neg (by omega)]
  · obtain⟨K,f⟩:=sActNo L hL (⟨#[]⟩ :ByteArray) j true no_act
    refine .inr ⟨by rw[e];rfl,0,0,j,K,fun k hk=>?_⟩
    simp only[AU.f,g,Option.bind_some,show BW.f=some acts from rfl]
    exact f k hk
variable (hW: ∀ x ∈ L,SgW x)
include hW
theorem endSBad (a:Int) (ns:List Int) (cs:List S54): ∃ x j,Evt (fun k=>endS k L a true ns cs) (ruV x j true):=by
  have w1:=wantsE L hL hW 1 (⟨#[100,111]⟩ :ByteArray) (Mk.name 100 [111] (by decide))
  have w2:=wantsE L hL hW 3 (⟨#[59]⟩ :ByteArray) (Mk.mark 59 [] (by decide))
  obtain⟨u,d,j,K,g⟩:=sActBad L hL a
  dsimp only at g
  refine⟨⟨ns,cs,u,d⟩,j,K,fun k hk=>?_⟩
  simp only[endS,w1,w2,mustBad,g k hk,Option.bind_some]
  rfl
theorem endS_ (i:Nat) (hi:i≤L.length) (ns:List Int) (cs:List S54) :
    (∃ x j,i<j∧j≤L.length∧pEnd ns cs (L.drop i)=some (x,L.drop j)∧x.f0=ns∧x.f1=cs∧Evt (fun k=>endS k L (i:Int) false ns cs) (ruV x (j:Int) false))∨
    (pEnd ns cs (L.drop i)=none∧∃ x j,Evt (fun k=>endS k L (i:Int) false ns cs) (ruV x j true)):=by
  have w1:=wantsE L hL hW 1 (⟨#[100,111]⟩ :ByteArray) (Mk.name 100 [111] (by decide))
  have w2:=wantsE L hL hW 3 (⟨#[59]⟩ :ByteArray) (Mk.mark 59 [] (by decide))
  unfold pEnd
  rcases mustI L hL i hi (⟨#[100,111]⟩ :ByteArray)with⟨h1,e1,g1⟩|⟨e1,g1⟩
  · rw[e1]
    simp only[Option.bind_some]
    rcases sActI L hL (i+1) (by omega)with⟨u,d,j,h2,h3,e2,K,g2⟩|⟨e2,u,d,j,K,g2⟩
    · dsimp only at g2
      rw[e2]
      simp only[Option.bind_some]
      rcases mustI L hL j (by omega) (⟨#[59]⟩ :ByteArray)with⟨h4,e4,g4⟩|⟨e4,g4⟩
      · left
        refine⟨⟨ns,cs,u,d⟩,j+1,by omega,by omega,by rw[e4];rfl,rfl,rfl,K,fun k hk=>?_⟩
        simp only[endS,w1,w2,g1,g2 k hk,g4,Option.bind_some]
        rfl
      · right
        refine⟨by rw[e4];rfl,⟨ns,cs,u,d⟩,(j:Int),K,fun k hk=>?_⟩
        simp only[endS,w1,w2,g1,g2 k hk,g4,Option.bind_some]
        rfl
    · dsimp only at g2
      right
      refine⟨by rw[e2];rfl,⟨ns,cs,u,d⟩,j,K,fun k hk=>?_⟩
      simp only[endS,w1,w2,g1,g2 k hk,mustBad,Option.bind_some]
      rfl
  · right
    obtain⟨x,j,K,g⟩:=endSBad L hL hW (i:Int) ns cs
    dsimp only at g
    refine⟨by rw[e1];rfl,x,j,K,fun k hk=>?_⟩
    rw[← g k hk]
    simp only[endS,w1,g1,mustBad]
theorem condsS: ∀ d i (acc:List S54),L.length - i≤d→i≤L.length→acc.length≤i→
    (∃ v j,i<j∧j≤L.length∧pConds d acc (L.drop i)=some (v,L.drop j)∧v.length≤j∧(∀ y ∈ acc,y ∈ v)∧∀ ns c e R,Evt (fun k=>endS k L (j:Int) false ns v) R→Evt (fun k=>AR.l0 k L (i:Int) false ns acc c e) R)∨
    (pConds d acc (L.drop i)=none∧∃ v j,∀ ns c e R,Evt (fun k=>endS k L j true ns v) R→Evt (fun k=>AR.l0 k L (i:Int) false ns acc c e) R)∨
    (pConds d acc (L.drop i)=none∧∃ v,∃ j:Nat,i<j∧j≤L.length∧v.length≤j∧(∃ y ∈ v,y.f2=0)∧∀ ns c e R,Evt (fun k=>endS k L (j:Int) false ns v) R→Evt (fun k=>AR.l0 k L (i:Int) false ns acc c e) R):=by
  have w1:=takesE L hL hW 1 (⟨#[97,110,100]⟩ :ByteArray) (Mk.name 97 [110,100] (by decide))
  have bad: ∀ i (acc:List S54),acc.length≤2000→(∃ y j,Evt (fun k=>AJ.f k L i false) (cdV y j true))→∃ v j,∀ ns c e R,Evt (fun k=>endS k L j true ns v) R→Evt (fun k=>AR.l0 k L i false ns acc c e) R:=fun i acc ha ⟨y,j,K,g⟩=>⟨acc ++ [y],j,fun ns c e R ⟨K2,f⟩=> .succ ⟨K+K2,fun k hk=>by
    dsimp only at g
    simp only[AR.l0,g k (by omega),cdV,Option.bind_some,Bool.false_eq_true,if_false]
    rw[if_pos (by omega)]
    simp only[w1,hasBad,Bool.false_eq_true,if_false,Option.bind_some]
    exact f k (by omega)⟩⟩
  have yes: ∀ i (j:Nat) (y:S54) (acc:List S54),acc.length≤2000→Evt (fun k=>AJ.f k L i false) (cdV y (j:Int) false)→AX.f L (j:Int) false (⟨#[97,110,100]⟩ :ByteArray)=some (true,((j+1:Nat):Int),false)→∀ ns c e R,Evt (fun k=>AR.l0 k L ((j+1:Nat):Int) false ns (acc ++ [y]) c e) R→Evt (fun k=>AR.l0 k L i false ns acc c e) R:=fun i j y acc ha ⟨K,g⟩ g1 ns c e R ⟨K2,f⟩=> .succ ⟨K+K2,fun k hk=>by
    dsimp only at g
    rw[← f k (by omega)]
    conv=>lhs;unfold AR.l0
    simp only[g k (by omega),cdV,Option.bind_some,Bool.false_eq_true,if_false]
    rw[if_pos (by omega)]
    simp only[w1,g1,if_true,Option.bind_some]⟩
  have no: ∀ i (j:Nat) (y:S54) (acc:List S54),acc.length≤2000→Evt (fun k=>AJ.f k L i false) (cdV y (j:Int) false)→AX.f L (j:Int) false (⟨#[97,110,100]⟩ :ByteArray)=some (false,(j:Int),false)→∀ ns c e R,Evt (fun k=>endS k L (j:Int) false ns (acc ++ [y])) R→Evt (fun k=>AR.l0 k L i false ns acc c e) R:=fun i j y acc ha ⟨K,g⟩ g1 ns c e R ⟨K2,f⟩=> .succ ⟨K+K2,fun k hk=>by
    dsimp only at g
    simp only[AR.l0,g k (by omega),cdV,Option.bind_some,Bool.false_eq_true,if_false]
    rw[if_pos (by omega)]
    simp only[w1,g1,Bool.false_eq_true,if_false,Option.bind_some]
    exact f k (by omega)⟩
  intro d
  induction d with
  | zero=>
    intro i acc hd hi ha
    rcases condS_ L hL hW i hi with⟨y,j,h1,h2,_⟩|⟨e1,h⟩|⟨e1,y,j,h1,h2,_⟩
    · omega
    · exact .inr (.inl ⟨rfl,bad i acc (by omega) h⟩)
    · omega
  | succ d ih=>
    intro i acc hd hi ha
    simp only[pConds]
    rcases condS_ L hL hW i hi with⟨y,j,h1,h2,e1,g⟩|⟨e1,h⟩|⟨e1,y,j,h1,h2,h3,g⟩
    · rw[e1]
      simp only[Option.bind_some]
      rcases hasI L hL j h2 (⟨#[97,110,100]⟩ :ByteArray)with⟨h4,e4,g4⟩|⟨e4,g4⟩
      · rw[byTake_some e4]
        have st:=yes i j y acc (by omega) g g4
        rcases ih (j+1) (acc ++ [y]) (by omega) (by omega) (by simp only[List.length_append,List.length_cons,List.length_nil];omega)with⟨v,j2,h5,h6,e5,h7,h8,f⟩|⟨e5,v,j2,f⟩|⟨e5,v,j2,h5,h6,h7,h8,f⟩
        · exact .inl ⟨v,j2,by omega,h6,e5,h7,fun y hy=>h8 y (List.mem_append_left _ hy),fun ns c e R hR=>st ns c e R (f ns c e R hR)⟩
        · exact .inr (.inl ⟨e5,v,j2,fun ns c e R hR=>st ns c e R (f ns c e R hR)⟩)
        · exact .inr (.inr ⟨e5,v,j2,by omega,h6,h7,h8,fun ns c e R hR=>st ns c e R (f ns c e R hR)⟩)
      · rw[byTake_none e4]
        exact .inl ⟨acc ++ [y],j,h1,h2,rfl,by simp only[List.length_append,List.length_cons,List.length_nil];omega,fun y hy=>List.mem_append_left _ hy,no i j y acc (by omega) g g4⟩
    · rw[e1]
      exact .inr (.inl ⟨rfl,bad i acc (by omega) h⟩)
    · rw[e1]
      rcases hasI L hL j h2 (⟨#[97,110,100]⟩ :ByteArray)with⟨h4,e4,g4⟩|⟨e4,g4⟩
      · have st:=yes i j y acc (by omega) g g4
        have hy:y ∈ acc ++ [y]:=by simp
        rcases ih (j+1) (acc ++ [y]) (by omega) (by omega) (by simp only[List.length_append,List.length_cons,List.length_nil];omega)with⟨v,j2,h5,h6,e5,h7,h8,f⟩|⟨e5,v,j2,f⟩|⟨e5,v,j2,h5,h6,h7,h8,f⟩
        · exact .inr (.inr ⟨rfl,v,j2,by omega,h6,h7,⟨y,h8 y hy,h3⟩,fun ns c e R hR=>st ns c e R (f ns c e R hR)⟩)
        · exact .inr (.inl ⟨rfl,v,j2,fun ns c e R hR=>st ns c e R (f ns c e R hR)⟩)
        · exact .inr (.inr ⟨rfl,v,j2,by omega,h6,h7,h8,fun ns c e R hR=>st ns c e R (f ns c e R hR)⟩)
      · exact .inr (.inr ⟨rfl,acc ++ [y],j,h1,h2,by simp only[List.length_append,List.length_cons,List.length_nil];omega,⟨y,by simp,h3⟩,no i j y acc (by omega) g g4⟩)
theorem numsS: ∀ d i (o:List Int),L.length - i≤d→i≤L.length→o.length≤i→
    (∃ v j,i<j∧j≤L.length∧pNums d o (L.drop i)=some (v,L.drop j)∧v.length≤j∧Evt (fun k=>AE.l0 k o L (i:Int) false) (v,(j:Int),false))∨
    (pNums d o (L.drop i)=none∧∃ v j,Evt (fun k=>AE.l0 k o L (i:Int) false) (v,j,true)):=by
  have w1:=takesE L hL hW 3 (⟨#[44]⟩ :ByteArray) (Mk.mark 44 [] (by decide))
  -- a refused number
  have j3bad: ∀ (o:List Int) (n a:Int),o.length≤2000→Evt (fun k=>AE.j3 k o n L a true) (put o n,a,true):=fun o n a ho=>by
    obtain⟨K,g⟩:=putV o n (by omega)
    refine .succ ⟨K,fun k hk=>?_⟩
    simp only[AE.j3]
    rw[show Aa.f k o n=_ from g k hk]
    simp only[w1,hasBad,Option.bind_some,Bool.false_eq_true,if_false]
  have j1bad: ∀ (o:List Int) (n a:Int) (b:Bool),o.length≤2000→(n<0∨n ∈ o)→Evt (fun k=>AE.j1 k o n L a b) (put o n,a,true):=fun o n a b ho hn=>by
    obtain⟨K,g⟩:=j3bad o n a ho
    obtain⟨K2,g2⟩:=inNums o n (by omega)
    dsimp only at g g2
    refine .succ (.succ ⟨K+K2,fun k hk=>?_⟩)
    simp only[AE.j1]
    by_cases h:n<0
    · rw[if_pos h]
      simp only[AE.j2,if_true]
      exact g k (by omega)
    · rw[if_neg h,g2 (k+1) (by omega),decide_eq_true (hn.resolve_left h)]
      simp only[Option.bind_some,AE.j2,if_true]
      exact g k (by omega)
  have j1ok: ∀ (o:List Int) (n a:Int),o.length≤2000→0≤n→n ∉ o→∀ R,Evt (fun k=>AE.j3 k o n L a false) R→Evt (fun k=>AE.j1 k o n L a false) R:=fun o n a ho h0 hn R ⟨K,g⟩=>by
    obtain⟨K2,g2⟩:=inNums o n (by omega)
    dsimp only at g g2
    refine .succ (.succ ⟨K+K2,fun k hk=>?_⟩)
    simp only[AE.j1]
    rw[if_neg (by omega),g2 (k+1) (by omega),decide_eq_false hn]
    simp only[Option.bind_some,AE.j2,Bool.false_eq_true,if_false]
    exact g k (by omega)
  -- an item
  have item: ∀ (i:Nat) (o:List Int),i≤L.length→o.length≤i→(∃ v,i<L.length∧0≤v∧pItem (L.drop i)=some (v,L.drop (i+1))∧∀ R,Evt (fun k=>AE.j1 k o v L ((i+1:Nat):Int) false) R→Evt (fun k=>AE.l0 k o L (i:Int) false) R)∨(pItem (L.drop i)=none∧∃ v j,Evt (fun k=>AE.l0 k o L (i:Int) false) (v,j,true)):=fun i o hi ho=>by
    unfold pItem
    rcases numI L hL i hi with⟨v,h,e,g1,g2⟩|⟨e,g1,g2⟩
    · left
      have hv:0≤v:=by
        rw[List.drop_eq_getElem_cons h]at e
        simp only[pNum]at e
        split at e
        · rename_i h2
          cases e
          rcases hW L[i] (List.getElem_mem h)with⟨h3,_⟩|⟨_,h3⟩|⟨h3,_⟩
          · omega
          · exact h3
          · omega
        · cases e
      refine⟨v,h,hv,by rw[e],fun R ⟨K,f⟩=> .succ ⟨K,fun k hk=>?_⟩⟩
      simp only[AE.l0,hasNumE,numE,g1,g2,Option.bind_some,if_true,Bool.false_eq_true,if_false]
      exact f k hk
    · rw[e]
      rcases sNameI L hL calls i hi with⟨w,h,e2,g⟩|⟨e2,j,g⟩
      · obtain⟨K3,g3⟩:=callS w
        dsimp only at g3
        have step: ∀ R,Evt (fun k=>AE.j1 k o ((place w calls 0).getD (-1)) L ((i+1:Nat):Int) false) R→Evt (fun k=>AE.l0 k o L (i:Int) false) R:=fun R ⟨K,f⟩=> .succ ⟨K+K3,fun k hk=>by
          simp only[AE.l0,hasNumE,g1,g,g3 k (by omega),Option.bind_some,Bool.false_eq_true,if_false]
          exact f k (by omega)⟩
        simp only[e2]
        cases hp:place w calls 0 with
        | none=>
          rw[hp]at step
          exact .inr ⟨rfl,_,_,step _ (j1bad o (-1) _ false (by omega) (.inl (by omega)))⟩
        | some v=>
          rw[hp]at step
          exact .inl ⟨v,h,place_nn _ _ _ _ hp,rfl,step⟩
      · obtain⟨K3,g3⟩:=callS (⟨#[]⟩ :ByteArray)
        rw[no_call]at g3
        dsimp only at g3
        obtain⟨K,f⟩:=j1bad o (-1) j true (by omega) (.inl (by omega))
        refine .inr ⟨e2,put o (-1),j,.succ ⟨K+K3,fun k hk=>?_⟩⟩
        simp only[AE.l0,hasNumE,g1,g,g3 k (by omega),Option.bind_some,Bool.false_eq_true,if_false]
        exact f k (by omega)
  intro d
  induction d with
  | zero=>
    intro i o hd hi ho
    rcases item i o hi ho with⟨v,h,_⟩|⟨e,h⟩
    · omega
    · exact .inr ⟨rfl,h⟩
  | succ d ih=>
    intro i o hd hi ho
    simp only[pNums]
    rcases item i o hi ho with⟨v,h,h0,e,f⟩|⟨e,h⟩
    · rw[e]
      simp only[Option.bind_some]
      have hp:=put_le o v
      by_cases hv:v ∈ o
      · rw[if_pos hv]
        exact .inr ⟨rfl,_,_,f _ (j1bad o v _ false (by omega) (.inr hv))⟩
      · rw[if_neg hv]
        obtain⟨K4,g4⟩:=putV o v (by omega)
        dsimp only at g4
        rcases hasI L hL (i+1) (by omega) (⟨#[44]⟩ :ByteArray)with⟨h1,e1,g1⟩|⟨e1,g1⟩
        · rw[byTake_some e1]
          have step: ∀ R,Evt (fun k=>AE.l0 k (put o v) L ((i+1+1:Nat):Int) false) R→Evt (fun k=>AE.l0 k o L (i:Int) false) R:=fun R ⟨K,g⟩=>f _ (j1ok o v _ (by omega) h0 hv _ (.succ ⟨K+K4,fun k hk=>by
            simp only[AE.j3,g4 k (by omega),w1,g1,Option.bind_some,if_true]
            exact g k (by omega)⟩))
          rcases ih (i+1+1) (put o v) (by omega) (by omega) (by omega)with⟨w,j,h2,h3,e2,h4,g⟩|⟨e2,w,j,g⟩
          · exact .inl ⟨w,j,by omega,h3,e2,h4,step _ g⟩
          · exact .inr ⟨e2,w,j,step _ g⟩
        · rw[byTake_none e1]
          refine .inl ⟨put o v,i+1,by omega,by omega,rfl,by omega,f _ (j1ok o v _ (by omega) h0 hv _ (.succ ⟨K4,fun k hk=>?_⟩))⟩
          simp only[AE.j3,g4 k hk,w1,g1,Option.bind_some,Bool.false_eq_true,if_false]
    · rw[e]
      exact .inr ⟨rfl,h⟩
/-- What follows the numbers. -/
def tlS (k:Nat) (L:List S95) (a:Int) (b:Bool) (ns:List Int):Option (List Int×List S54×Int×Int×Int×Bool):=(Ae.f L a b 1 (⟨#[105,102]⟩ :ByteArray)).bind fun t=>if t.1=true then AR.l0 k L t.2.1 t.2.2 ns [] 0 0 else endS k L t.2.1 t.2.2 ns []
theorem tlS_ (i:Nat) (hi:i≤L.length) (ns:List Int) (hn:ns.length≤4000):ResR L i (pTail ns (L.drop i)) (fun k=>tlS k L (i:Int) false ns):=by
  have w1:=takesE L hL hW 1 (⟨#[105,102]⟩ :ByteArray) (Mk.name 105 [102] (by decide))
  unfold ResR pTail
  rcases hasI L hL i hi (⟨#[105,102]⟩ :ByteArray)with⟨h1,e1,g1⟩|⟨e1,g1⟩
  · simp only[e1]
    have step: ∀ R,Evt (fun k=>AR.l0 k L ((i+1:Nat):Int) false ns [] 0 0) R→Evt (fun k=>tlS k L (i:Int) false ns) R:=fun R ⟨K,f⟩=>⟨K,fun k hk=>by
      simp only[tlS,w1,g1,Option.bind_some,if_true]
      exact f k hk⟩
    rcases condsS L hL hW (L.drop (i+1)).length (i+1) [] (by rw[List.length_drop];omega) (by omega) (by simp)with⟨v,j,h2,h3,e2,h4,_,f⟩|⟨e2,v,j,f⟩|⟨e2,v,j,h2,h3,h4,h5,f⟩
    · rw[e2]
      simp only[Option.bind_some]
      rcases endS_ L hL hW j h3 ns v with⟨x,j3,h7,h8,e4,e5,e6,g4⟩|⟨e4,x,j3,g4⟩
      · exact .inl ⟨x,j3,by omega,h8,e4,⟨by rw[e5];exact hn,by rw[e6];omega⟩,step _ (f _ _ _ _ g4)⟩
      · exact .inr (.inl ⟨e4,x,j3,step _ (f _ _ _ _ g4)⟩)
    · rw[e2]
      obtain⟨x,j3,g4⟩:=endSBad L hL hW j ns v
      exact .inr (.inl ⟨rfl,x,j3,step _ (f _ _ _ _ g4)⟩)
    · rw[e2]
      rcases endS_ L hL hW j h3 ns v with⟨x,j3,h7,h8,e4,e5,e6,g4⟩|⟨e4,x,j3,g4⟩
      · obtain⟨y,hy,hy2⟩:=h5
        exact .inr (.inr ⟨rfl,x,j3,by omega,h8,⟨by rw[e5];exact hn,by rw[e6];omega⟩,fun hr=>by
          have:=(hr.2.1 y (e6 ▸ hy)).2.2.2
          omega,step _ (f _ _ _ _ g4)⟩)
      · exact .inr (.inl ⟨rfl,x,j3,step _ (f _ _ _ _ g4)⟩)
  · simp only[e1]
    have step: ∀ R,Evt (fun k=>endS k L (i:Int) false ns []) R→Evt (fun k=>tlS k L (i:Int) false ns) R:=fun R ⟨K,f⟩=>⟨K,fun k hk=>by
      simp only[tlS,w1,g1,Option.bind_some,Bool.false_eq_true,if_false]
      exact f k hk⟩
    rcases endS_ L hL hW i hi ns []with⟨x,j3,h7,h8,e4,e5,e6,g4⟩|⟨e4,x,j3,g4⟩
    · exact .inl ⟨x,j3,by omega,h8,e4,⟨by rw[e5];exact hn,by rw[e6];decide⟩,step _ g4⟩
    · exact .inr (.inl ⟨e4,x,j3,step _ g4⟩)
theorem tlSBad (a:Int) (ns:List Int): ∃ x j,Evt (fun k=>tlS k L a true ns) (ruV x j true):=by
  have w1:=takesE L hL hW 1 (⟨#[105,102]⟩ :ByteArray) (Mk.name 105 [102] (by decide))
  obtain⟨x,j,K,g⟩:=endSBad L hL hW a ns []
  refine⟨x,j,K,fun k hk=>?_⟩
  simp only[tlS,w1,hasBad,Option.bind_some,Bool.false_eq_true,if_false]
  exact g k hk
theorem ruleSE (k:Nat) (a:Int) (b:Bool):AR.f k L a b=(AT.f L a b 1 (⟨#[111,110]⟩ :ByteArray)).bind fun r=>(AE.f k L r.1 r.2).bind fun n=>tlS k L n.2.1 n.2.2 n.1:=rfl
theorem ruleS (i:Nat) (hi:i≤L.length):ResR L i (pRule (L.drop i)) (fun k=>AR.f k L (i:Int) false):=by
  have w1:=wantsE L hL hW 1 (⟨#[111,110]⟩ :ByteArray) (Mk.name 111 [110] (by decide))
  have w2:=takesE L hL hW 1 (⟨#[97,110,121]⟩ :ByteArray) (Mk.name 97 [110,121] (by decide))
  unfold pRule
  rcases mustI L hL i hi (⟨#[111,110]⟩ :ByteArray)with⟨h1,e1,g1⟩|⟨e1,g1⟩
  · rw[e1]
    simp only[Option.bind_some]
    have go: ∀ (ns:List Int) (j:Nat) (h:i<j),Evt (fun k=>AE.f k L ((i+1:Nat):Int) false) (ns,(j:Int),false)→ResR L j (pTail ns (L.drop j)) (fun k=>tlS k L (j:Int) false ns)→ResR L i (pTail ns (L.drop j)) (fun k=>AR.f k L (i:Int) false):=fun ns j h ⟨K,f⟩ hr=>by
      dsimp only at f
      have step: ∀ R,Evt (fun k=>tlS k L (j:Int) false ns) R→Evt (fun k=>AR.f k L (i:Int) false) R:=fun R ⟨K2,f2⟩=>⟨K+K2,fun k hk=>by
        show AR.f k L (i:Int) false=_
        rw[ruleSE L hL hW k,w1,g1,Option.bind_some,f k (by omega),Option.bind_some]
        exact f2 k (by omega)⟩
      rcases hr with⟨x,j2,h2,h3,e2,h4,g⟩|⟨e2,x,j2,g⟩|⟨e2,x,j2,h2,h3,h4,h5,g⟩
      · exact .inl ⟨x,j2,by omega,h3,e2,h4,step _ g⟩
      · exact .inr (.inl ⟨e2,x,j2,step _ g⟩)
      · exact .inr (.inr ⟨e2,x,j2,by omega,h3,h4,h5,step _ g⟩)
    rcases hasI L hL (i+1) (by omega) (⟨#[97,110,121]⟩ :ByteArray)with⟨h2,e2,g2⟩|⟨e2,g2⟩
    · simp only[e2]
      refine go [] (i+1+1) (by omega) (.const fun k=>?_) (tlS_ L hL hW (i+1+1) (by omega) [] (by decide))
      simp only[AE.f,w2,g2,Option.bind_some,if_true]
    · simp only[e2]
      have st: ∀ R,Evt (fun k=>AE.l0 k [] L ((i+1:Nat):Int) false) R→Evt (fun k=>AE.f k L ((i+1:Nat):Int) false) R:=fun R ⟨K,f⟩=>⟨K,fun k hk=>by
        simp only[AE.f,w2,g2,Option.bind_some,Bool.false_eq_true,if_false]
        exact f k hk⟩
      rcases numsS L hL hW (L.drop (i+1)).length (i+1) [] (by rw[List.length_drop];omega) (by omega) (by simp)with⟨v,j,h3,h4,e3,h5,g3⟩|⟨e3,v,j,g3⟩
      · rw[e3]
        simp only[Option.bind_some]
        exact go v j (by omega) (st _ g3) (tlS_ L hL hW j h4 v (by omega))
      · rw[e3]
        obtain⟨K,f⟩:=st _ g3
        obtain⟨x,j2,K2,f2⟩:=tlSBad L hL hW j v
        refine .inr (.inl ⟨rfl,x,j2,K+K2,fun k hk=>?_⟩)
        show AR.f k L (i:Int) false=_
        rw[ruleSE L hL hW k,w1,g1,Option.bind_some,show AE.f k L ((i+1:Nat):Int) false=_ from f k (by omega),Option.bind_some]
        exact f2 k (by omega)
  · rw[e1]
    obtain⟨x,j2,K2,f2⟩:=tlSBad L hL hW (i:Int) []
    refine .inr (.inl ⟨rfl,x,j2,K2+1,fun k hk=>?_⟩)
    obtain⟨k,rfl⟩ : ∃ m,k=m+1:=⟨k - 1,by omega⟩
    show AR.f (k+1) L (i:Int) false=_
    rw[ruleSE L hL hW (k+1),w1,g1,Option.bind_some]
    simp only[AE.f,w2,hasBad,Option.bind_some,Bool.false_eq_true,if_false,AE.l0,if_true]
    exact f2 (k+1) (by omega)
end
/-! Policies, as they are read. -/
def none0:Int×Int×Int×List S50×Bool:=(0,0,0,[],false)
def restI2 (k:Nat) (L:List S95) (a:Int) (b:Bool) (n:Int):Option (Int×Int×Int×List S50×Bool):=(BB.f k L a b).bind fun u=>(AO.f L u.2.2.1 u.2.2.2 (⟨#[59]⟩ :ByteArray)).bind fun r=>AY.l0 k L L r.1 r.2 n u.1 u.2.1 []
def restI (k:Nat) (L:List S95):Option (Int×Int×Int×List S50×Bool):=(AO.f L 0 false (⟨#[97,114,99,104]⟩ :ByteArray)).bind fun r=>(Aj.f L r.1 r.2).bind fun n=>(AO.f L n.2.1 n.2.2 (⟨#[59]⟩ :ByteArray)).bind fun r=>(AO.f L r.1 r.2 (⟨#[100,101,102,97,117,108,116]⟩ :ByteArray)).bind fun r=>restI2 k L r.1 r.2 n.1
def restS2 (k:Nat) (L:List S95) (a:Int) (b:Bool) (n:Int):Option (Int×Int×Int×List S50×Bool):=(AU.f k L a b).bind fun u=>(AT.f L u.2.2.1 u.2.2.2 3 (⟨#[59]⟩ :ByteArray)).bind fun r=>AL.l0 k L r.1 r.2 n u.1 u.2.1 []
def restS (k:Nat) (L:List S95):Option (Int×Int×Int×List S50×Bool):=(AT.f L 0 false 1 (⟨#[97,114,99,104]⟩ :ByteArray)).bind fun r=>(A4.f L r.1 r.2).bind fun n=>(AT.f L n.2.1 n.2.2 3 (⟨#[59]⟩ :ByteArray)).bind fun r=>(AT.f L r.1 r.2 1 (⟨#[100,101,102,97,117,108,116]⟩ :ByteArray)).bind fun r=>restS2 k L r.1 r.2 n.1
theorem readIE (k:Nat) (s:ByteArray):AY.f k s=(AF.f k s).bind fun t=>if t.2=true then restI k t.1 else some none0:=rfl
theorem readSE (k:Nat) (s:ByteArray):AL.f k s=(AD.f k s).bind fun t=>if t.2=true then restS k t.1 else some none0:=rfl
theorem badI (k:Nat) (L:List S95) (i a b c:Int) (acc:List S50):AY.l0 (k+1) L L i true a b c acc=some none0:=by
  simp only[AY.l0,if_true]
  rfl
theorem badS (k:Nat) (L:List S95) (i a b c:Int) (acc:List S50):AL.l0 (k+1) L i true a b c acc=some none0:=by
  simp only[AL.l0,if_true]
  rfl
section
variable (L:List S95) (hL:L.length≤2000)
include hL
theorem rest2BadI (a n:Int):Evt (fun k=>restI2 k L a true n) none0:=by
  obtain⟨u,d,j,K,g⟩:=actBad L hL a
  dsimp only at g
  refine⟨K+1,fun k hk=>?_⟩
  obtain⟨k,rfl⟩ : ∃ m,k=m+1:=⟨k - 1,by omega⟩
  simp only[restI2,g (k+1) (by omega),mustBad,Option.bind_some]
  exact badI ..
theorem drop_inj (i j:Nat) (hi:i≤L.length) (hj:j≤L.length) (h:L.drop i=L.drop j):i=j:=by
  have:=congrArg List.length h
  rw[List.length_drop,List.length_drop]at this
  omega
variable (hW: ∀ x ∈ L,SgW x)
include hW
theorem rest2BadS (a n:Int):Evt (fun k=>restS2 k L a true n) none0:=by
  have w2:=wantsE L hL hW 3 (⟨#[59]⟩ :ByteArray) (Mk.mark 59 [] (by decide))
  obtain⟨u,d,j,K,g⟩:=sActBad L hL a
  dsimp only at g
  refine⟨K+1,fun k hk=>?_⟩
  obtain⟨k,rfl⟩ : ∃ m,k=m+1:=⟨k - 1,by omega⟩
  simp only[restS2,g (k+1) (by omega),w2,mustBad,Option.bind_some]
  exact badS ..
/-- At the end. -/
theorem rulesEnd (a b c:Int) (acc:List S50) (ha:acc.length≤2000) (hB: ∀ y ∈ acc,Bd y): ∃ r:Bool,Evt (fun k=>AZ.f k a b c acc) r∧Evt (fun k=>AL.l0 k L (L.length:Int) false a b c acc) (if r=true then(a,b,c,acc,true)else none0)∧Evt (fun k=>AY.l0 k L L (L.length:Int) false a b c acc) (if r=true then(a,b,c,acc,true)else none0):=by
  obtain⟨r,⟨K1,h1⟩,⟨K2,h2⟩⟩:=pol a b c acc (by omega) (fun y hy=>⟨by have:=(hB y hy).1;omega,by have:=(hB y hy).2;omega⟩)
  dsimp only at h1 h2
  refine⟨r,⟨K1,h1⟩,.succ ⟨K1,fun k hk=>?_⟩,.succ ⟨K2,fun k hk=>?_⟩⟩
  · simp only[AL.l0,Bool.false_eq_true,if_false]
    rw[if_neg (by omega),h1 k hk,Option.bind_some]
    cases r <;> rfl
  · simp only[AY.l0,Bool.false_eq_true,if_false]
    rw[if_neg (by omega),h2 k hk,Option.bind_some]
    cases r <;> rfl
theorem polNo {a b c:Int} {acc:List S50} (ha:acc.length≤2000) (hB: ∀ y ∈ acc,Bd y) {y:S50} (hy:y ∈ acc) (hr: ¬ RuleR y.f0 y.f1 y.f2 y.f3) {r:Bool} (h:Evt (fun k=>AZ.f k a b c acc) r):r=false:=by
  cases r with
  | false=>rfl
  | true=>
    obtain⟨K,g⟩:=h
    exact absurd ((pol_inv a b c acc (by omega) (fun y hy=>⟨by have:=(hB y hy).1;omega,by have:=(hB y hy).2;omega⟩) (g K (Nat.le_refl _))).2.2.2 y hy) hr
theorem bd_snoc {acc:List S50} {x:S50} (hB: ∀ y ∈ acc,Bd y) (hx:Bd x): ∀ y ∈ acc ++ [x],Bd y:=fun y hy=>by
  rcases List.mem_append.1 hy with h|h
  · exact hB y h
  · rw[List.mem_singleton]at h
    exact h ▸ hx
theorem stepI (i:Nat) (hi:i<L.length) (a b c:Int) (acc:List S50) (ha:acc.length≤2000) (x:S50) (j:Int) (t:Bool) (h:Evt (fun k=>AC.f k L (i:Int) false) (ruV x j t)) (R:Int×Int×Int×List S50×Bool) (hR:Evt (fun k=>AY.l0 k L L j t a b c (acc ++ [x])) R):Evt (fun k=>AY.l0 k L L (i:Int) false a b c acc) R:=by
  obtain⟨K,g⟩:=h
  obtain⟨K2,g2⟩:=hR
  dsimp only at g g2
  refine .succ ⟨K+K2,fun k hk=>?_⟩
  rw[← g2 k (by omega)]
  conv=>lhs;unfold AY.l0
  simp only[Bool.false_eq_true,if_false]
  rw[if_pos (by omega),g k (by omega),Option.bind_some,if_pos (by omega)]
  rfl
theorem stepS (i:Nat) (hi:i<L.length) (a b c:Int) (acc:List S50) (ha:acc.length≤2000) (x:S50) (j:Int) (t:Bool) (h:Evt (fun k=>AR.f k L (i:Int) false) (ruV x j t)) (R:Int×Int×Int×List S50×Bool) (hR:Evt (fun k=>AL.l0 k L j t a b c (acc ++ [x])) R):Evt (fun k=>AL.l0 k L (i:Int) false a b c acc) R:=by
  obtain⟨K,g⟩:=h
  obtain⟨K2,g2⟩:=hR
  dsimp only at g g2
  refine .succ ⟨K+K2,fun k hk=>?_⟩
  rw[← g2 k (by omega)]
  conv=>lhs;unfold AL.l0
  simp only[Bool.false_eq_true,if_false]
  rw[if_pos (by omega),g k (by omega),Option.bind_some,if_pos (by omega)]
  rfl
/-- With a rule that is not right nothing comes of it. -/
theorem doomI (a b c:Int): ∀ d i (acc:List S50),L.length - i≤d→i≤L.length→acc.length≤i→(∀ y ∈ acc,Bd y)→(∃ y ∈ acc,¬ RuleR y.f0 y.f1 y.f2 y.f3)→Evt (fun k=>AY.l0 k L L (i:Int) false a b c acc) none0:=by
  intro d
  induction d with
  | zero=>
    intro i acc hd hi ha hB ⟨y,hy,hr⟩
    have:i=L.length:=by omega
    subst this
    obtain⟨r,h1,_,h3⟩:=rulesEnd L hL hW a b c acc (by omega) hB
    rw[polNo L hL hW (by omega) hB hy hr h1]at h3
    exact h3
  | succ d ih=>
    intro i acc hd hi ha hB ⟨y,hy,hr⟩
    by_cases hlt:i<L.length
    · rcases ruleI L hL i hi with⟨x,j,h1,h2,_,h3,g⟩|⟨_,x,j,g⟩|⟨_,x,j,h1,h2,h3,_,g⟩
      · exact stepI L hL hW i hlt a b c acc (by omega) x _ _ g _ (ih j (acc ++ [x]) (by omega) h2 (by simp;omega) (bd_snoc L hL hW hB h3) ⟨y,List.mem_append_left _ hy,hr⟩)
      · exact stepI L hL hW i hlt a b c acc (by omega) x _ _ g _ (.succ (.const fun k=>badI ..))
      · exact stepI L hL hW i hlt a b c acc (by omega) x _ _ g _ (ih j (acc ++ [x]) (by omega) h2 (by simp;omega) (bd_snoc L hL hW hB h3) ⟨y,List.mem_append_left _ hy,hr⟩)
    · have:i=L.length:=by omega
      subst this
      obtain⟨r,h1,_,h3⟩:=rulesEnd L hL hW a b c acc (by omega) hB
      rw[polNo L hL hW (by omega) hB hy hr h1]at h3
      exact h3
theorem doomS (a b c:Int): ∀ d i (acc:List S50),L.length - i≤d→i≤L.length→acc.length≤i→(∀ y ∈ acc,Bd y)→(∃ y ∈ acc,¬ RuleR y.f0 y.f1 y.f2 y.f3)→Evt (fun k=>AL.l0 k L (i:Int) false a b c acc) none0:=by
  intro d
  induction d with
  | zero=>
    intro i acc hd hi ha hB ⟨y,hy,hr⟩
    have:i=L.length:=by omega
    subst this
    obtain⟨r,h1,h2,_⟩:=rulesEnd L hL hW a b c acc (by omega) hB
    rw[polNo L hL hW (by omega) hB hy hr h1]at h2
    exact h2
  | succ d ih=>
    intro i acc hd hi ha hB ⟨y,hy,hr⟩
    by_cases hlt:i<L.length
    · rcases ruleS L hL hW i hi with⟨x,j,h1,h2,_,h3,g⟩|⟨_,x,j,g⟩|⟨_,x,j,h1,h2,h3,_,g⟩
      · exact stepS L hL hW i hlt a b c acc (by omega) x _ _ g _ (ih j (acc ++ [x]) (by omega) h2 (by simp;omega) (bd_snoc L hL hW hB h3) ⟨y,List.mem_append_left _ hy,hr⟩)
      · exact stepS L hL hW i hlt a b c acc (by omega) x _ _ g _ (.succ (.const fun k=>badS ..))
      · exact stepS L hL hW i hlt a b c acc (by omega) x _ _ g _ (ih j (acc ++ [x]) (by omega) h2 (by simp;omega) (bd_snoc L hL hW hB h3) ⟨y,List.mem_append_left _ hy,hr⟩)
    · have:i=L.length:=by omega
      subst this
      obtain⟨r,h1,h2,_⟩:=rulesEnd L hL hW a b c acc (by omega) hB
      rw[polNo L hL hW (by omega) hB hy hr h1]at h2
      exact h2
/-- What comes of a reading of a policy whose rules are read. -/
def Fin (a b c:Int) (p:Option (List S50)) (R:Int×Int×Int×List S50×Bool):Prop:=
  (∀ v,p=some v→Evt (fun k=>AZ.f k a b c v) true→R=(a,b,c,v,true))∧(R=none0∨∃ v,R=(a,b,c,v,true)∧p=some v∧v.length≤2000∧(∀ y ∈ v,Bd y)∧Evt (fun k=>AZ.f k a b c v) true)
theorem rulesB (a b c:Int): ∀ d i (acc:List S50),L.length - i≤d→i≤L.length→acc.length≤i→(∀ y ∈ acc,Bd y)→∃ R,Evt (fun k=>AL.l0 k L (i:Int) false a b c acc) R∧Evt (fun k=>AY.l0 k L L (i:Int) false a b c acc) R∧Fin a b c (pRules d acc (L.drop i)) R:=by
  have fin: ∀ (d:Nat) (acc:List S50),acc.length≤L.length→(∀ y ∈ acc,Bd y)→∃ R,Evt (fun k=>AL.l0 k L (L.length:Int) false a b c acc) R∧Evt (fun k=>AY.l0 k L L (L.length:Int) false a b c acc) R∧Fin a b c (pRules d acc (L.drop L.length)) R:=fun d acc ha hB=>by
    obtain⟨r,h1,h2,h3⟩:=rulesEnd L hL hW a b c acc (by omega) hB
    have e:pRules d acc (L.drop L.length)=some acc:=by
      rw[List.drop_length]
      cases d <;> rfl
    rw[e]
    refine⟨_,h2,h3,fun v hv ht=>?_,?_⟩
    · cases hv
      rw[Evt.uniq h1 ht]
      rfl
    · cases r with
      | false=>exact .inl rfl
      | true=>exact .inr ⟨acc,rfl,rfl,by omega,hB,h1⟩
  intro d
  induction d with
  | zero=>
    intro i acc hd hi ha hB
    have:i=L.length:=by omega
    subst this
    exact fin 0 acc ha hB
  | succ d ih=>
    intro i acc hd hi ha hB
    by_cases hlt:i<L.length
    · have eR:pRules (d+1) acc (L.drop i)=(pRule (L.drop i)).bind fun q=>pRules d (acc ++ [q.1]) q.2:=by
        rw[List.drop_eq_getElem_cons hlt]
        rfl
      rw[eR]
      have hS:=ruleS L hL hW i hi
      have hI:=ruleI L hL i hi
      cases hp:pRule (L.drop i)with
      | some q=>
        rw[hp]at hS hI
        rcases hS with⟨x,j,h1,h2,e,h3,g⟩|⟨e,_⟩|⟨e,_⟩
        · cases e
          rcases hI with⟨x',j',h1',h2',e',h3',g'⟩|⟨e',_⟩|⟨e',_⟩
          · have ex:x=x':=congrArg (·.1) (Option.some.inj e')
            have ej:j=j':=drop_inj L hL j j' h2 h2' (congrArg (·.2) (Option.some.inj e'))
            subst ex ej
            obtain⟨R,r1,r2,r3⟩:=ih j (acc ++ [x]) (by omega) h2 (by simp;omega) (bd_snoc L hL hW hB h3)
            exact⟨R,stepS L hL hW i hlt a b c acc (by omega) x _ _ g _ r1,stepI L hL hW i hlt a b c acc (by omega) x _ _ g' _ r2,r3⟩
          · cases e'
          · cases e'
        · cases e
        · cases e
      | none=>
        rw[hp]at hS hI
        refine⟨none0,?_,?_,fun v hv=>(by cases hv),.inl rfl⟩
        · rcases hS with⟨x,j,h1,h2,e,h3,g⟩|⟨e,x,j,g⟩|⟨e,x,j,h1,h2,h3,h4,g⟩
          · cases e
          · exact stepS L hL hW i hlt a b c acc (by omega) x _ _ g _ (.succ (.const fun k=>badS ..))
          · exact stepS L hL hW i hlt a b c acc (by omega) x _ _ g _ (doomS L hL hW a b c (L.length - j) j (acc ++ [x]) (by omega) h2 (by simp;omega) (bd_snoc L hL hW hB h3) ⟨x,by simp,h4⟩)
        · rcases hI with⟨x,j,h1,h2,e,h3,g⟩|⟨e,x,j,g⟩|⟨e,x,j,h1,h2,h3,h4,g⟩
          · cases e
          · exact stepI L hL hW i hlt a b c acc (by omega) x _ _ g _ (.succ (.const fun k=>badI ..))
          · exact stepI L hL hW i hlt a b c acc (by omega) x _ _ g _ (doomI L hL hW a b c (L.length - j) j (acc ++ [x]) (by omega) h2 (by simp;omega) (bd_snoc L hL hW hB h3) ⟨x,by simp,h4⟩)
    · have:i=L.length:=by omega
      subst this
      exact fin (d+1) acc ha hB
/-- What comes of signs. -/
def FinP (p:Option (Int×Int×Int×List S50)) (R:Int×Int×Int×List S50×Bool):Prop:=
  (∀ a b c v,p=some (a,b,c,v)→Evt (fun k=>AZ.f k a b c v) true→R=(a,b,c,v,true))∧(R=none0∨∃ a b c v,R=(a,b,c,v,true)∧p=some (a,b,c,v)∧v.length≤2000∧(∀ y ∈ v,Bd y)∧Evt (fun k=>AZ.f k a b c v) true)
theorem restB: ∃ R,Evt (fun k=>restS k L) R∧Evt (fun k=>restI k L) R∧FinP (pPolicy L) R:=by
  have w1:=wantsE L hL hW 1 (⟨#[97,114,99,104]⟩ :ByteArray) (Mk.name 97 [114,99,104] (by decide))
  have w2:=wantsE L hL hW 3 (⟨#[59]⟩ :ByteArray) (Mk.mark 59 [] (by decide))
  have w3:=wantsE L hL hW 1 (⟨#[100,101,102,97,117,108,116]⟩ :ByteArray) (Mk.name 100 [101,102,97,117,108,116] (by decide))
  have nope: ∀ {p:Option (Int×Int×Int×List S50)},p=none→FinP p none0:=fun h=>by
    subst h
    exact⟨fun a b c v h=>(by cases h),.inl rfl⟩
  have bad: ∀ a n:Int,(∀ k,restS k L=restS2 k L a true n)→(∀ k,restI k L=restI2 k L a true n)→Evt (fun k=>restS k L) none0∧Evt (fun k=>restI k L) none0:=fun a n h1 h2=>⟨(rest2BadS L hL hW a n).congr h1,(rest2BadI L hL a n).congr h2⟩
  unfold pPolicy
  rcases mustI L hL 0 (by omega) (⟨#[97,114,99,104]⟩ :ByteArray)with⟨h1,e1,g1⟩|⟨e1,g1⟩
  · rw[List.drop_zero]at e1
    rw[e1]
    simp only[Option.bind_some]
    rcases numI L hL (0+1) (by omega)with⟨n,h2,e2,_,g2⟩|⟨e2,_,g2⟩
    · rw[e2]
      simp only[Option.bind_some]
      rcases mustI L hL (0+1+1) (by omega) (⟨#[59]⟩ :ByteArray)with⟨h3,e3,g3⟩|⟨e3,g3⟩
      · rw[e3]
        simp only[Option.bind_some]
        rcases mustI L hL (0+1+1+1) (by omega) (⟨#[100,101,102,97,117,108,116]⟩ :ByteArray)with⟨h4,e4,g4⟩|⟨e4,g4⟩
        · rw[e4]
          simp only[Option.bind_some]
          have toS: ∀ k,restS k L=restS2 k L ((0+1+1+1+1:Nat):Int) false n:=fun k=>by
            rw[restS,w1,show AO.f L 0 false _=_ from g1,Option.bind_some,numE,g2,Option.bind_some,w2,g3,Option.bind_some,w3,g4,Option.bind_some]
          have toI: ∀ k,restI k L=restI2 k L ((0+1+1+1+1:Nat):Int) false n:=fun k=>by
            rw[restI,show AO.f L 0 false _=_ from g1,Option.bind_some,g2,Option.bind_some,g3,Option.bind_some,g4,Option.bind_some]
          have hS:=sActI L hL (0+1+1+1+1) (by omega)
          have hI:=actI L hL (0+1+1+1+1) (by omega)
          cases hp:pAct (L.drop (0+1+1+1+1))with
          | some q=>
            rw[hp]at hS hI
            rcases hS with⟨u,d,j,h5,h6,e5,K5,g5⟩|⟨e5,_⟩
            · cases e5
              rcases hI with⟨u',d',j',h5',h6',e5',K5',g5'⟩|⟨e5',_⟩
              · have eu:u=u':=congrArg (·.1) (Option.some.inj e5')
                have ed:d=d':=congrArg (·.2.1) (Option.some.inj e5')
                have ej:j=j':=drop_inj L hL j j' h6 h6' (congrArg (·.2.2) (Option.some.inj e5'))
                subst eu ed ej
                dsimp only at g5 g5'
                simp only[Option.bind_some]
                rcases mustI L hL j h6 (⟨#[59]⟩ :ByteArray)with⟨h7,e7,g7⟩|⟨e7,g7⟩
                · rw[e7]
                  simp only[Option.bind_some]
                  obtain⟨R,⟨K8,r1⟩,⟨K9,r2⟩,r3,r4⟩:=rulesB L hL hW n u d (L.drop (j+1)).length (j+1) [] (by rw[List.length_drop];omega) (by omega) (by simp) (fun y hy=>by simp at hy)
                  dsimp only at r1 r2
                  refine⟨R,⟨K5+K8,fun k hk=>?_⟩,⟨K5'+K9,fun k hk=>?_⟩,?_,?_⟩
                  · show restS k L=_
                    rw[toS,restS2,g5 k (by omega),Option.bind_some,w2,g7,Option.bind_some]
                    exact r1 k (by omega)
                  · show restI k L=_
                    rw[toI,restI2,g5' k (by omega),Option.bind_some,g7,Option.bind_some]
                    exact r2 k (by omega)
                  · intro a b c v hv ht
                    rw[Option.map_eq_some_iff]at hv
                    obtain⟨v',hv1,hv2⟩:=hv
                    cases hv2
                    exact r3 v hv1 ht
                  · rcases r4 with r4|⟨v,r5,r6,r7⟩
                    · exact .inl r4
                    · exact .inr ⟨n,u,d,v,r5,by rw[r6];rfl,r7⟩
                · rw[e7]
                  refine⟨none0,⟨K5+1,fun k hk=>?_⟩,⟨K5'+1,fun k hk=>?_⟩,nope rfl⟩
                  · obtain⟨k,rfl⟩ : ∃ m,k=m+1:=⟨k - 1,by omega⟩
                    show restS (k+1) L=_
                    rw[toS,restS2,g5 (k+1) (by omega),Option.bind_some,w2,g7,Option.bind_some]
                    exact badS ..
                  · obtain⟨k,rfl⟩ : ∃ m,k=m+1:=⟨k - 1,by omega⟩
                    show restI (k+1) L=_
                    rw[toI,restI2,g5' (k+1) (by omega),Option.bind_some,g7,Option.bind_some]
                    exact badI ..
              · cases e5'
            · cases e5
          | none=>
            rw[hp]at hS hI
            refine⟨none0,?_,?_,nope rfl⟩
            · rcases hS with⟨u,d,j,h5,h6,e5,K5,g5⟩|⟨e5,u,d,j,K5,g5⟩
              · cases e5
              · dsimp only at g5
                refine⟨K5+1,fun k hk=>?_⟩
                obtain⟨k,rfl⟩ : ∃ m,k=m+1:=⟨k - 1,by omega⟩
                show restS (k+1) L=_
                rw[toS,restS2,g5 (k+1) (by omega),Option.bind_some,w2,mustBad,Option.bind_some]
                exact badS ..
            · rcases hI with⟨u,d,j,h5,h6,e5,K5,g5⟩|⟨e5,u,d,j,K5,g5⟩
              · cases e5
              · dsimp only at g5
                refine⟨K5+1,fun k hk=>?_⟩
                obtain⟨k,rfl⟩ : ∃ m,k=m+1:=⟨k - 1,by omega⟩
                show restI (k+1) L=_
                rw[toI,restI2,g5 (k+1) (by omega),Option.bind_some,mustBad,Option.bind_some]
                exact badI ..
        · rw[e4]
          obtain⟨r1,r2⟩:=bad ((0+1+1+1:Nat):Int) n (fun k=>by
            rw[restS,w1,show AO.f L 0 false _=_ from g1,Option.bind_some,numE,g2,Option.bind_some,w2,g3,Option.bind_some,w3,g4,Option.bind_some]) (fun k=>by
            rw[restI,show AO.f L 0 false _=_ from g1,Option.bind_some,g2,Option.bind_some,g3,Option.bind_some,g4,Option.bind_some])
          exact⟨none0,r1,r2,nope rfl⟩
      · rw[e3]
        obtain⟨r1,r2⟩:=bad ((0+1+1:Nat):Int) n (fun k=>by
          rw[restS,w1,show AO.f L 0 false _=_ from g1,Option.bind_some,numE,g2,Option.bind_some,w2,g3,Option.bind_some,w3,mustBad,Option.bind_some]) (fun k=>by
          rw[restI,show AO.f L 0 false _=_ from g1,Option.bind_some,g2,Option.bind_some,g3,Option.bind_some,mustBad,Option.bind_some])
        exact⟨none0,r1,r2,nope rfl⟩
    · rw[e2]
      obtain⟨r1,r2⟩:=bad ((0+1:Nat):Int) 0 (fun k=>by
        rw[restS,w1,show AO.f L 0 false _=_ from g1,Option.bind_some,numE,g2,Option.bind_some,w2,mustBad,Option.bind_some,w3,mustBad,Option.bind_some]) (fun k=>by
        rw[restI,show AO.f L 0 false _=_ from g1,Option.bind_some,g2,Option.bind_some,mustBad,Option.bind_some,mustBad,Option.bind_some])
      exact⟨none0,r1,r2,nope rfl⟩
  · rw[List.drop_zero]at e1
    rw[e1]
    obtain⟨r1,r2⟩:=bad 0 0 (fun k=>by
      rw[restS,w1,show AO.f L 0 false _=_ from g1,Option.bind_some,numE,numBad,Option.bind_some,w2,mustBad,Option.bind_some,w3,mustBad,Option.bind_some]
      rfl) (fun k=>by
      rw[restI,show AO.f L 0 false _=_ from g1,Option.bind_some,numBad,Option.bind_some,mustBad,Option.bind_some,mustBad,Option.bind_some]
      rfl)
    exact⟨none0,r1,r2,nope rfl⟩
end
/-! What is written as signs is read as these signs. -/
theorem bt_list (s:ByteArray) (i:Nat) (h:i<s.toList.length):bt s (i:Int)=(s.toList[i].toNat:Int):=by
  have hz:s.toList.length=s.size:=by rw[ByteArray.toList_eq];rfl
  have hs:i<s.size:=by omega
  unfold bt
  rw[dif_pos (by simpa using hs)]
  congr 2
  simp only[ByteArray.toList_eq,Int.toNat_natCast]
  rfl
theorem tl_len (s:ByteArray):s.toList.length=s.size:=by rw[ByteArray.toList_eq];rfl
theorem bt_drop {s:ByteArray} {i:Nat} {b:UInt8} {r:List UInt8} (h:s.toList.drop i=b :: r):bt s (i:Int)=(b.toNat:Int)∧i<s.size∧s.toList.drop (i+1)=r:=by
  have hl:i<s.toList.length:=by
    rcases Nat.lt_or_ge i s.toList.length with h1|h1
    · exact h1
    · rw[List.drop_eq_nil_of_le h1]at h;cases h
  have h2:=List.drop_eq_getElem_cons hl
  rw[h]at h2
  injection h2 with h3 h4
  exact⟨by rw[bt_list s i hl,← h3],by rw[tl_len]at hl;exact hl,h4.symm⟩
theorem nil_drop {s:ByteArray} {i:Nat} (h:s.toList.drop i= []): ¬ i<s.size:=by
  have:=List.drop_eq_nil_iff.1 h
  rw[tl_len]at this
  omega
/-- A blank, or the end. -/
def Bl (r:List UInt8):Prop:=r= []∨∃ b t,r=b :: t∧(b=32∨b=10)
theorem runTo_list (s:ByteArray) (a b:Int) (ha:32<a) (hb:b<256): ∀ (w rest:List UInt8) (d i:Nat),s.toList.drop i=w ++ rest→(∀ x ∈ w,a≤(x.toNat:Int)∧(x.toNat:Int)≤b)→Bl rest→d+i=s.size→runTo s a b d i=i+w.length
  | [],rest,0,i,h,_,_,hd=>by simp[runTo]
  | [],rest,d+1,i,h,_,hr,hd=>by
    simp only[runTo]
    rcases hr with rfl|⟨c,t,rfl,hc⟩
    · have:=nil_drop h;omega
    · have:=(bt_drop h).1
      rw[if_neg (by rcases hc with rfl|rfl <;> (simp at this;omega))]
      simp
  | x :: w,rest,0,i,h,hw,hr,hd=>by have:=(bt_drop h).2.1;omega
  | x :: w,rest,d+1,i,h,hw,hr,hd=>by
    obtain⟨h1,h2,h3⟩:=bt_drop h
    have hx:=hw x List.mem_cons_self
    simp only[runTo]
    rw[if_pos (by rw[h1];exact hx),runTo_list s a b ha hb w rest d (i+1) h3 (fun y hy=>hw y (List.mem_cons_of_mem _ hy)) hr (by omega)]
    simp only[List.length_cons]
    omega
theorem ext_list (s:ByteArray) (i n:Nat):(s.extract i (i+n)).toList=(s.toList.drop i).take n:=by
  simp only[ByteArray.toList_eq,ByteArray.data_extract,Array.toList_extract]
  rw[List.extract_eq_take_drop]
  simp
/-! Texts, as they are read; and the law. -/
theorem valF_nn (s:ByteArray): ∀ (d i:Nat) (v:Int),(∀ m,i≤m→m<i+d→48≤bt s (m:Int)∧bt s (m:Int)≤57)→0≤v→0≤valF s d i v
  | 0,_,_,_,h=>h
  | d+1,i,v,hm,h=>by
    have:=hm i (by omega) (by omega)
    exact valF_nn s d (i+1) _ (fun m h1 h2=>hm m (by omega) (by omega)) (by omega)
theorem findM_mem (s:ByteArray) (i:Nat): ∀ l:List ByteArray,findM s i l ∈ l∨findM s i l=⟨#[]⟩
  | []=> .inr rfl
  | m :: r=>by
    simp only[findM]
    split
    · exact .inl List.mem_cons_self
    · rcases findM_mem s i r with h|h
      · exact .inl (List.mem_cons_of_mem _ h)
      · exact .inr h
theorem marks_b: ∀ m ∈ marks,∃ b r,m.toList=b :: r∧b.toNat<97:=by
  intro m hm
  simp only[marks,List.mem_cons,List.not_mem_nil,or_false]at hm
  rcases hm with rfl|rfl|rfl|rfl|rfl|rfl|rfl|rfl|rfl|rfl <;> exact⟨_,_,by rw[ByteArray.toList_eq],by decide⟩
/-- What is read as signs is well made. -/
theorem toks_wf (s:ByteArray): ∀ d i xs,toks s d i=some xs→i≤s.size→(∀ x ∈ xs,SgW x)∧xs.length≤s.size - i
  | 0,i,xs,h,hi=>by
    simp only[toks,Option.some.injEq]at h
    subst h
    exact⟨by simp,by simp⟩
  | d+1,i,xs,h,hi=>by
    simp only[toks]at h
    have more: ∀ (x:S95) (e:Nat),i<e→e≤s.size→SgW x→(toks s d e).map (x :: ·)=some xs→(∀ x ∈ xs,SgW x)∧xs.length≤s.size - i:=fun x e h1 h2 h3 h4=>by
      rw[Option.map_eq_some_iff]at h4
      obtain⟨ys,h5,rfl⟩:=h4
      obtain⟨h6,h7⟩:=toks_wf s d e ys h5 h2
      refine⟨fun y hy=>?_,by simp only[List.length_cons];omega⟩
      rcases List.mem_cons.1 hy with rfl|hy
      · exact h3
      · exact h6 y hy
    by_cases hlt:i<s.size
    · rw[if_pos hlt]at h
      have hd1:s.size - i=(s.size - i - 1)+1:=by omega
      split at h
      · obtain⟨h1,h2⟩:=toks_wf s d (i+1) xs h (by omega)
        exact⟨h1,by omega⟩
      · split at h
        · rename_i hl
          have hle:=runTo_le s 97 122 (s.size - i) i
          have hgt:i<runTo s 97 122 (s.size - i) i:=by
            rw[hd1]
            simp only[runTo,if_pos hl]
            have:=(runTo_le s 97 122 (s.size - i - 1) (i+1)).1
            omega
          split at h
          · cases h
          · refine more _ _ hgt (by omega) (.inl ⟨rfl,?_⟩) h
            have hsl:i<s.toList.length:=by rw[tl_len];exact hlt
            obtain⟨n,hn⟩ : ∃ n,runTo s 97 122 (s.size - i) i=i+(n+1):=⟨runTo s 97 122 (s.size - i) i - i - 1,by omega⟩
            refine⟨s.toList[i],(s.toList.drop (i+1)).take n,?_,?_⟩
            · show(s.extract i _).toList=_
              rw[hn,ext_list,List.drop_eq_getElem_cons hsl,List.take_succ_cons]
            · have:=bt_list s i hsl
              omega
        · split at h
          · rename_i hf
            have hle:=runTo_le s 48 57 (s.size - i) i
            have hin:=runTo_in s 48 57 (s.size - i) i
            have hgt:i<runTo s 48 57 (s.size - i) i:=by
              rw[hd1]
              simp only[runTo,if_pos hf]
              have:=(runTo_le s 48 57 (s.size - i - 1) (i+1)).1
              omega
            split at h
            · cases h
            · exact more _ _ hgt (by omega) (.inr (.inl ⟨rfl,valF_nn s _ i 0 (fun m h1 h2=>hin m h1 (by omega)) (by omega)⟩)) h
          · split at h
            · cases h
            · rename_i he
              have hz:=findM_sz s i marks marks_sz
              have h0:findM s i marks ∈ marks:=(findM_mem s i marks).resolve_right (fun c=>he (by rw[c,ByteArray.toList_eq]))
              have h2:=hz.2.resolve_left he
              have hp:1≤(findM s i marks).size:=by
                rcases Nat.eq_zero_or_pos (findM s i marks).size with h|h
                · exact absurd (by rw[ByteArray.toList_eq];exact List.eq_nil_of_length_eq_zero h) he
                · exact h
              exact more _ _ (by omega) h2 (.inr (.inr ⟨rfl,marks_b _ h0⟩)) h
    · rw[if_neg hlt]at h
      cases h
      exact⟨by simp,by simp⟩
theorem signsV_wf (s:ByteArray) {xs:List S95} (h:signsV s=(xs,true)):(∀ x ∈ xs,SgW x)∧xs.length≤2000:=by
  unfold signsV at h
  split at h
  · cases h
  · rename_i hs
    cases ht:toks s s.size 0 with
    | none=>rw[ht]at h;cases h
    | some r=>
      rw[ht]at h
      cases h
      rw[List.nil_append]
      obtain⟨h1,h2⟩:=toks_wf s s.size 0 r ht (by omega)
      exact⟨h1,by omega⟩
/-- What a text tells. -/
def pText (s:ByteArray):Option (Int×Int×Int×List S50):=if(signsV s).2=true then pPolicy (signsV s).1 else none
/-- Both read the same. -/
theorem readB (s:ByteArray): ∃ R,Evt (fun k=>AL.f k s) R∧Evt (fun k=>AY.f k s) R∧FinP (pText s) R:=by
  obtain⟨⟨K1,h1⟩,⟨K2,h2⟩⟩:=signsOf s
  dsimp only at h1 h2
  unfold pText
  cases hv:signsV s with
  | mk xs ok=>
    rw[hv]at h1 h2
    cases ok with
    | false=>
      refine⟨none0,⟨K1,fun k hk=>?_⟩,⟨K2,fun k hk=>?_⟩,fun a b c v h=>(by simp at h),.inl rfl⟩
      · show AL.f k s=_
        rw[readSE,h1 k hk]
        rfl
      · show AY.f k s=_
        rw[readIE,h2 k hk]
        rfl
    | true=>
      obtain⟨hW,hL⟩:=signsV_wf s hv
      obtain⟨R,⟨K3,r1⟩,⟨K4,r2⟩,r3⟩:=restB xs hL hW
      dsimp only at r1 r2
      refine⟨R,⟨K1+K3,fun k hk=>?_⟩,⟨K2+K4,fun k hk=>?_⟩,r3⟩
      · show AL.f k s=_
        rw[readSE,h1 k (by omega),Option.bind_some]
        exact r1 k (by omega)
      · show AY.f k s=_
        rw[readIE,h2 k (by omega),Option.bind_some]
        exact r2 k (by omega)
/-- What is read is small. -/
theorem FinP.small {p:Option (Int×Int×Int×List S50)} {R:Int×Int×Int×List S50×Bool} (h:FinP p R):R.2.2.2.1.length≤10∧∀ y ∈ R.2.2.2.1,y.f0.length≤4∧y.f1.length≤3:=by
  rcases h.2 with h|⟨a,b,c,v,h,_,h1,h2,K,g⟩
  · rw[h]
    exact⟨by decide,fun y hy=>by cases hy⟩
  · have:=pol_inv a b c v (by omega) (fun y hy=>⟨by have:=(h2 y hy).1;omega,by have:=(h2 y hy).2;omega⟩) (g K (Nat.le_refl _))
    rw[h]
    exact⟨this.2.2.1,fun y hy=>⟨(this.2.2.2 y hy).2.2.1,(this.2.2.2 y hy).2.2.2.1⟩⟩
theorem fig (d:Int) (h0:0≤d) (h1:d<10):(⟨#[48,49,50,51,52,53,54,55,56,57,97,98,99,100,101,102]⟩ :ByteArray).extract d.toNat (d+1).toNat=strOfNums [(48+d) % 256]:=by
  have:d=0∨d=1∨d=2∨d=3∨d=4∨d=5∨d=6∨d=7∨d=8∨d=9:=by omega
  rcases this with h|h|h|h|h|h|h|h|h|h <;> subst h <;> rfl
/-- A number's figures: the same on both sides, and no more than it has places. -/
theorem figures_l0 (n:Int) (hn:0≤n): ∀ (d:Nat) (x:Int) (s:ByteArray),0<x→x<10 ^ d→x≤9223372036854775807→d+s.size≤9000000000000000000→∃ v:ByteArray,Evt (fun k=>AQ.l0 k x s) v∧Evt (fun k=>AS.l0 k n s x) v∧v.size≤d+s.size:=by
  intro d
  induction d with
  | zero=>
    intro x s h0 h1 hx h2
    have:(10:Int) ^ 0=1:=rfl
    omega
  | succ d ih=>
    intro x s h0 h1 hx h2
    rw[Int.pow_succ]at h1
    have ed:x.tdiv 10=x / 10:=Int.tdiv_eq_ediv_of_nonneg (by omega)
    have em:x.tmod 10=x % 10:=Int.tmod_eq_emod_of_nonneg (by omega)
    have e10:wrap64 (x / 10)=x / 10:=w64 (by omega) (by omega)
    have e48:wrap64 (48+x % 10)=48+x % 10:=w64 (by omega) (by omega)
    have en:wrap64 (-(x % 10))= -(x % 10):=w64 (by omega) (by omega)
    have ex:mx (x % 10) (-(x % 10))=x % 10:=by unfold mx;split <;> omega
    have e1:wrap64 (x % 10+1)=x % 10+1:=w64 (by omega) (by omega)
    have hf:=fig (x % 10) (by omega) (by omega)
    have hs:(strOfNums [(48+x % 10) % 256]).size=1:=rfl
    by_cases h9:x>9
    · obtain⟨v,⟨K1,g1⟩,⟨K2,g2⟩,hv⟩:=ih (x / 10) (strOfNums [(48+x % 10) % 256] ++ s) (by omega) (by omega) (by omega) (by rw[ByteArray.size_append,hs];omega)
      rw[ByteArray.size_append,hs]at hv
      dsimp only at g1 g2
      refine⟨v,.succ ⟨K1,fun k hk=>?_⟩,.succ ⟨K2,fun k hk=>?_⟩,by omega⟩
      · simp only[AQ.l0,ed,em,e10,e48]
        rw[if_pos h9]
        simp only[Option.bind_some]
        rw[if_pos (by rw[hs];omega)]
        exact g1 k hk
      · simp only[AS.l0,ed,em,e10,en,ex,e1,hf]
        rw[if_neg (by omega),if_pos (by omega),if_pos (by omega),if_pos (by omega),if_pos (by rw[hs];omega)]
        exact g2 k hk
    · have hx2:x % 10=x:=by omega
      have hx3:x / 10=0:=by omega
      have ew:wrap64 (48+x)=48+x:=w64 (by omega) (by omega)
      rw[hx2]at hf hs e1 en ex em
      rw[hx3]at ed
      refine⟨strOfNums [(48+x) % 256] ++ s,.succ (.const fun k=>?_),.succ (.succ (.const fun k=>?_)),by rw[ByteArray.size_append,hs];omega⟩
      · simp only[AQ.l0,ew]
        rw[if_neg h9]
        simp only[Option.bind_some]
        rw[if_pos (by rw[hs];omega)]
      · have ew0:wrap64 0=0:=w64 (by omega) (by omega)
        simp only[AS.l0,ed,em,en,ex,e1,hf,ew0,if_true]
        rw[if_neg (by omega),if_pos (by omega),if_pos (by omega),if_pos (by omega),if_pos (by rw[hs];omega),if_neg (by omega)]
theorem figures (n:Int) (hn:n≤9223372036854775807): ∃ v:ByteArray,Evt (fun k=>AQ.f k n) v∧Evt (fun k=>AS.f k (mx 0 n)) v∧v.size≤20:=by
  have zero: ∃ v:ByteArray,Evt (fun k=>AQ.j0 k 0) v∧Evt (fun k=>AS.f k 0) v∧v.size≤20:=by
    refine⟨⟨#[48]⟩,.succ (.succ (.const fun k=>?_)),.const fun k=>?_,by decide⟩
    · simp only[AQ.j0,AQ.l0]
      rw[if_neg (by omega),w64 (by omega) (by omega)]
      rfl
    · simp only[AS.f,if_true]
  by_cases h:n<0
  · have e:mx 0 n=0:=by unfold mx;split <;> omega
    obtain⟨v,⟨K1,a⟩,b,c⟩:=zero
    rw[e]
    exact⟨v,⟨K1,fun k hk=>by simp only[AQ.f];rw[if_pos h];exact a k hk⟩,b,c⟩
  · by_cases h0:n=0
    · subst h0
      obtain⟨v,⟨K1,a⟩,b,c⟩:=zero
      exact⟨v,⟨K1,fun k hk=>by simp only[AQ.f];rw[if_neg h];exact a k hk⟩,b,c⟩
    · have e:mx 0 n=n:=by unfold mx;split <;> omega
      rw[e]
      have h20:n<10 ^ 20:=by
        rw[show(10:Int) ^ 20=100000000000000000000 by decide]
        omega
      obtain⟨v,⟨K1,a⟩,⟨K2,b⟩,c⟩:=figures_l0 n (by omega) 20 n ⟨#[]⟩ (by omega) h20 hn (by show 20+0≤_;omega)
      dsimp only at a b
      refine⟨v,.succ ⟨K1,fun k hk=>?_⟩,⟨K2,fun k hk=>?_⟩,Nat.le_trans c (by show 20+0≤_;omega)⟩
      · simp only[AQ.f,AQ.j0]
        rw[if_neg h]
        exact a k hk
      · simp only[AS.f]
        rw[if_neg h0]
        exact b k hk
/-- What figures tell. -/
def valL (v:Int):List UInt8→Int
  | []=>v
  | b :: r=>valL (10*v+((b.toNat:Int) - 48)) r
theorem valF_list (s:ByteArray): ∀ (w rest:List UInt8) (i:Nat) (v:Int),s.toList.drop i=w ++ rest→valF s w.length i v=valL v w
  | [],_,_,_,_=>rfl
  | x :: w,rest,i,v,h=>by
    obtain⟨h1,_,h3⟩:=bt_drop h
    simp only[List.length_cons,valF,valL,h1]
    exact valF_list s w rest (i+1) _ h3
theorem valL_snoc (b:UInt8): ∀ (w:List UInt8) (v:Int),valL v (w ++ [b])=10*valL v w+((b.toNat:Int) - 48)
  | [],v=>rfl
  | x :: w,v=>valL_snoc b w _
/-- A mark as it is looked for. -/
theorem findM_list (s:ByteArray) (i:Nat) (hi:i≤s.size) (l:List UInt8) (h:s.toList.drop i=l): ∀ ms:List ByteArray,findM s i ms=((ms.find? fun m=>m.toList.isPrefixOf l).getD ⟨#[]⟩)
  | []=>rfl
  | m :: ms=>by
    have ih:=findM_list s i hi l h ms
    have hm:m.size=m.toList.length:=(tl_len m).symm
    have hll:l.length=s.size - i:=by rw[← h,List.length_drop,tl_len]
    simp only[findM,List.find?_cons]
    by_cases hp:m.toList <+:l
    · have h1:i+m.size≤s.size:=by have:=hp.length_le;omega
      rw[if_pos ⟨h1,by rw[ext_list,h,hm];exact(List.prefix_iff_eq_take.1 hp).symm⟩,List.isPrefixOf_iff_prefix.2 hp]
      rfl
    · rw[if_neg (fun hc=>hp (by rw[← hc.2,ext_list,h];exact List.take_prefix _ _)),Bool.eq_false_iff.2 (fun hc=>hp (List.isPrefixOf_iff_prefix.1 hc))]
      exact ih
/-- A sign and its bytes. -/
def Sg (x:S95) (w:List UInt8):Prop:=
  (x.f0=1∧x.f2=0∧x.f1.toList=w∧(1≤w.length∧w.length≤12)∧∀ b ∈ w,97≤(b.toNat:Int)∧(b.toNat:Int)≤122)∨
  (x.f0=2∧x.f1.toList= []∧x.f2=valL 0 w∧x.f2≤4294967295∧(1≤w.length∧w.length≤10)∧∀ b ∈ w,48≤(b.toNat:Int)∧(b.toNat:Int)≤57)∨
  (x.f0=3∧x.f2=0∧x.f1.toList=w∧x.f1 ∈ marks)
/-- A text of these signs, with blanks between. -/
inductive Txt:List S95→List UInt8→Prop
  | nil:Txt [] []
  | blank (b:UInt8) (xs:List S95) (l:List UInt8):(b=32∨b=10)→Txt xs l→Txt xs (b :: l)
  | sign (x:S95) (w:List UInt8) (xs:List S95) (l:List UInt8):Sg x w→Bl l→Txt xs l→Txt (x :: xs) (w ++ l)
/-- The same sign, by what its text bears. -/
def Like (x y:S95):Prop:=x.f0=y.f0∧x.f1.toList=y.f1.toList∧x.f2=y.f2
inductive Likes:List S95→List S95→Prop
  | nil:Likes [] []
  | cons (x y:S95) (xs ys:List S95):Like x y→Likes xs ys→Likes (x :: xs) (y :: ys)
theorem mark_here {m:ByteArray} (hm:m ∈ marks) {l:List UInt8} (hl:Bl l):(marks.find? fun m'=>m'.toList.isPrefixOf (m.toList ++ l))=some m:=by
  have t1: ∀ (a:UInt8),(⟨#[a]⟩ :ByteArray).toList= [a]:=fun a=>by rw[ByteArray.toList_eq]
  have t2: ∀ (a b:UInt8),(⟨#[a,b]⟩ :ByteArray).toList= [a,b]:=fun a b=>by rw[ByteArray.toList_eq]
  simp only[marks,List.mem_cons,List.not_mem_nil,or_false]at hm
  rcases hl with rfl|⟨b,t,rfl,rfl|rfl⟩ <;> rcases hm with rfl|rfl|rfl|rfl|rfl|rfl|rfl|rfl|rfl|rfl <;> simp[marks,List.find?_cons,t1,t2,List.isPrefixOf]
theorem mark_byte {m:ByteArray} (hm:m ∈ marks): ∃ b r,m.toList=b :: r∧ ¬ ((b.toNat:Int)=32∨(b.toNat:Int)=10)∧ ¬ (97≤(b.toNat:Int)∧(b.toNat:Int)≤122)∧ ¬ (48≤(b.toNat:Int)∧(b.toNat:Int)≤57):=by
  simp only[marks,List.mem_cons,List.not_mem_nil,or_false]at hm
  rcases hm with rfl|rfl|rfl|rfl|rfl|rfl|rfl|rfl|rfl|rfl <;> exact⟨_,_,by rw[ByteArray.toList_eq],by decide,by decide,by decide⟩
theorem toks_txt {s:ByteArray} : ∀ {xs:List S95} {l:List UInt8},Txt xs l→∀ d i,s.toList.drop i=l→s.size - i≤d→i≤s.size→∃ ys,toks s d i=some ys∧Likes ys xs:=by
  intro xs l h
  induction h with
  | nil=>
    intro d i hd _ _
    cases d with
    | zero=>exact⟨[],rfl,.nil⟩
    | succ d=>exact⟨[],by simp only[toks];rw[if_neg (nil_drop hd)],.nil⟩
  | blank b xs l hb hT ih=>
    intro d i hd hs hi
    obtain⟨h1,h2,h3⟩:=bt_drop hd
    obtain⟨d,rfl⟩ : ∃ m,d=m+1:=⟨d - 1,by omega⟩
    obtain⟨ys,e,hL⟩:=ih d (i+1) h3 (by omega) (by omega)
    refine⟨ys,?_,hL⟩
    simp only[toks]
    rw[if_pos h2,if_pos (by rw[h1];rcases hb with rfl|rfl <;> decide)]
    exact e
  | sign x w xs l hx hl hT ih=>
    intro d i hd hs hi
    have hne: ∃ b r,w=b :: r:=by
      rcases hx with⟨_,_,_,hw,_⟩|⟨_,_,_,_,hw,_⟩|⟨_,_,hw,hm⟩
      · cases w with
        | nil=>simp at hw
        | cons b r=>exact⟨b,r,rfl⟩
      · cases w with
        | nil=>simp at hw
        | cons b r=>exact⟨b,r,rfl⟩
      · obtain⟨b,r,e,_⟩:=mark_byte hm
        exact⟨b,r,by rw[← hw,e]⟩
    obtain⟨b,r,hbr⟩:=hne
    have hd':s.toList.drop i=b :: (r ++ l):=by rw[hd,hbr];rfl
    obtain⟨h1,h2,_⟩:=bt_drop hd'
    obtain⟨d,rfl⟩ : ∃ m,d=m+1:=⟨d - 1,by omega⟩
    have hsz:i+w.length≤s.size:=by
      have:=congrArg List.length hd
      rw[List.length_drop,tl_len,List.length_append]at this
      omega
    have hwl:1≤w.length:=by rw[hbr];simp
    have hdr:s.toList.drop (i+w.length)=l:=by rw[← List.drop_drop,hd,List.drop_left]
    have hdw:(s.toList.drop i).take w.length=w:=by rw[hd,List.take_left]
    obtain⟨ys,e,hL⟩:=ih d (i+w.length) hdr (by omega) hsz
    rcases hx with⟨k0,k2,k1,kw,kb⟩|⟨k0,k1,k2,k3,kw,kb⟩|⟨k0,k2,k1,km⟩
    · have hrun:=runTo_list s 97 122 (by omega) (by omega) w l (s.size - i) i hd kb hl (by omega)
      have hb:=kb b (by rw[hbr];exact List.mem_cons_self)
      refine⟨(⟨1,s.extract i (i+w.length),0⟩ :S95) :: ys,?_,.cons _ _ _ _ ⟨k0.symm,by show(s.extract i (i+w.length)).toList=_;rw[ext_list,hdw,k1],k2.symm⟩ hL⟩
      simp only[toks]
      rw[if_pos h2,if_neg (by omega),if_pos (by omega),hrun,if_neg (by omega),e]
      rfl
    · have hrun:=runTo_list s 48 57 (by omega) (by omega) w l (s.size - i) i hd kb hl (by omega)
      have hb:=kb b (by rw[hbr];exact List.mem_cons_self)
      have hv:=valF_list s w l i 0 hd
      refine⟨(⟨2,(⟨#[]⟩ :ByteArray),valL 0 w⟩ :S95) :: ys,?_,.cons _ _ _ _ ⟨k0.symm,by show(⟨#[]⟩ :ByteArray).toList=_;rw[k1,ByteArray.toList_eq],k2.symm⟩ hL⟩
      simp only[toks]
      rw[if_pos h2,if_neg (by omega),if_neg (by omega),if_pos (by omega),hrun,show i+w.length - i=w.length by omega,hv,if_neg (by omega),e]
      rfl
    · obtain⟨b',r',e1,n1,n2,n3⟩:=mark_byte km
      have hbb:b'=b:=by
        have h:=e1.symm.trans (k1.trans hbr)
        injection h
      subst hbb
      have hf:=findM_list s i hi _ hd marks
      rw[← k1,mark_here km hl]at hf
      have hz:x.f1.size=w.length:=by rw[← k1,tl_len]
      refine⟨(⟨3,x.f1,0⟩ :S95) :: ys,?_,.cons _ _ _ _ ⟨k0.symm,rfl,k2.symm⟩ hL⟩
      simp only[toks]
      rw[if_pos h2,if_neg (by omega),if_neg (by omega),if_neg (by omega),hf]
      simp only[Option.getD_some]
      rw[if_neg (by rw[e1];simp),hz,e]
      rfl
theorem Bl.app {l bl:List UInt8} (h:Bl l) (hb:Bl bl):Bl (l ++ bl):=by
  rcases h with rfl|⟨b,t,rfl,h⟩
  · exact hb
  · exact .inr ⟨b,t ++ bl,rfl,h⟩
theorem Txt.app {xs ys:List S95} {l m:List UInt8} (h:Txt xs l) (hb:Bl m) (hy:Txt ys m):Txt (xs ++ ys) (l ++ m):=by
  induction h with
  | nil=>exact hy
  | blank b xs l h1 _ ih=>exact .blank b _ _ h1 ih
  | sign x w xs l hx hl _ ih=>rw[List.append_assoc];exact .sign x w _ _ hx (hl.app hb) ih
theorem signs_txt {s:ByteArray} {xs:List S95} (h:Txt xs s.toList) (hs:s.size≤1200): ∃ ys,signsV s=(ys,true)∧Likes ys xs:=by
  obtain⟨ys,e,hL⟩:=toks_txt h s.size 0 rfl (by omega) (by omega)
  refine⟨ys,?_,hL⟩
  unfold signsV
  rw[if_neg (by omega),e]
  simp[told]
theorem dgs: ∀ d,d<10→(UInt8.ofNat (48+d)).toNat=48+d:=by decide
theorem son (d:Int) (h0:0≤d) (h1:d<10):(strOfNums [(48+d) % 256]).toList= [UInt8.ofNat (48+d.toNat)]:=by
  have:d=0∨d=1∨d=2∨d=3∨d=4∨d=5∨d=6∨d=7∨d=8∨d=9:=by omega
  rcases this with h|h|h|h|h|h|h|h|h|h <;> subst h <;> (rw[ByteArray.toList_eq];rfl)
theorem tl_app (s t:ByteArray):(s ++ t).toList=s.toList ++ t.toList:=by
  simp only[ByteArray.toList_eq,ByteArray.data_append,Array.toList_append]
/-- Figures of a number. -/
theorem dec_l0 (n:Int) (hn:0≤n): ∀ (m:Nat) (x:Int) (s:ByteArray),0≤x→x<10 ^ m→m≤18→m+s.size≤1000→∃ v:ByteArray,Evt (fun k=>AS.l0 k n s x) v∧∃ w:List UInt8,v.toList=w ++ s.toList∧valL 0 w=x∧w.length≤m∧(∀ b ∈ w,48≤(b.toNat:Int)∧(b.toNat:Int)≤57)∧(0<x→1≤w.length):=by
  intro m
  induction m with
  | zero=>
    intro x s h0 h1 _ _
    have hx:x=0:=by simp at h1;omega
    subst hx
    refine⟨s,.succ (.const fun k=>?_),[],rfl,rfl,by simp,fun b hb=>by simp at hb,fun h=>by omega⟩
    simp only[AS.l0]
    rw[if_pos trivial,if_neg (by omega)]
  | succ m ih=>
    intro x s h0 h1 hm hs
    by_cases hx:x=0
    · subst hx
      refine⟨s,.succ (.const fun k=>?_),[],rfl,rfl,by simp,fun b hb=>by simp at hb,fun h=>by omega⟩
      simp only[AS.l0]
      rw[if_pos trivial,if_neg (by omega)]
    · have hp:(10:Int) ^ (m+1)=10*10 ^ m:=by rw[Int.pow_succ,Int.mul_comm]
      have hb:(10:Int) ^ m≤10 ^ 18:=by
        have:m=0∨m=1∨m=2∨m=3∨m=4∨m=5∨m=6∨m=7∨m=8∨m=9∨m=10∨m=11∨m=12∨m=13∨m=14∨m=15∨m=16∨m=17:=by omega
        rcases this with h|h|h|h|h|h|h|h|h|h|h|h|h|h|h|h|h|h <;> rw[h] <;> decide
      have hq:(10:Int) ^ 18=1000000000000000000:=by decide
      have ed:x.tdiv 10=x / 10:=Int.tdiv_eq_ediv_of_nonneg h0
      have em:x.tmod 10=x % 10:=Int.tmod_eq_emod_of_nonneg h0
      have ex:mx (x % 10) (wrap64 (-(x % 10)))=x % 10:=by rw[w64 (by omega) (by omega)];unfold mx;split <;> omega
      have e1:Aside0 (wrap64 (x % 10+1)=x % 10+1):=⟨w64 (by omega) (by omega)⟩
      have e10:Aside0 (wrap64 (x / 10)=x / 10):=⟨w64 (by omega) (by omega)⟩
      have hf:=fig (x % 10) (by omega) (by omega)
      have hz:(strOfNums [(48+x % 10) % 256]).size=1:=rfl
      obtain⟨v,⟨K,g⟩,w,hw1,hw2,hw3,hw4,hw5⟩:=ih (x / 10) (strOfNums [(48+x % 10) % 256] ++ s) (by omega) (by omega) (by omega) (by rw[ByteArray.size_append,hz];omega)
      dsimp only at g
      have hd:=dgs (x % 10).toNat (by omega)
      refine⟨v,.succ ⟨K,fun k hk=>?_⟩,w ++ [UInt8.ofNat (48+(x % 10).toNat)],?_,?_,?_,fun b hb=>?_,fun _=>?_⟩
      · simp only[AS.l0,em,ex,e1.out,hf,ed,e10.out]
        rw[if_neg hx,if_pos (by omega),if_pos (by omega),if_pos (by omega),if_pos (by rw[hz];omega)]
        exact g k hk
      · rw[hw1,tl_app,son (x % 10) (by omega) (by omega),List.append_assoc]
      · rw[valL_snoc,hw2,hd]
        omega
      · rw[List.length_append]
        simp only[List.length_cons,List.length_nil]
        omega
      · rcases List.mem_append.1 hb with hb|hb
        · exact hw4 b hb
        · rw[List.mem_singleton]at hb
          subst hb
          rw[hd]
          omega
      · simp
theorem dec (n:Int) (hn:0≤n) (hm:n≤4294967295): ∃ v:ByteArray,Evt (fun k=>AS.f k n) v∧v.size≤10∧valL 0 v.toList=n∧(1≤v.toList.length∧v.toList.length≤10)∧∀ b ∈ v.toList,48≤(b.toNat:Int)∧(b.toNat:Int)≤57:=by
  by_cases h:n=0
  · subst h
    have t1:(⟨#[48]⟩ :ByteArray).toList= [48]:=by rw[ByteArray.toList_eq]
    refine⟨⟨#[48]⟩,.const fun k=>by simp only[AS.f];rw[if_pos trivial],by decide,by rw[t1];rfl,by rw[t1];decide,fun b hb=>?_⟩
    rw[t1,List.mem_singleton]at hb
    subst hb
    decide
  · have hq:(10:Int) ^ 10=10000000000:=by decide
    obtain⟨v,⟨K,g⟩,w,hw1,hw2,hw3,hw4,hw5⟩:=dec_l0 n hn 10 n ⟨#[]⟩ hn (by omega) (by omega) (by show 10+0≤1000;omega)
    have he:v.toList=w:=by rw[hw1,ByteArray.toList_eq];simp
    refine⟨v,⟨K,fun k hk=>by simp only[AS.f];rw[if_neg h];exact g k hk⟩,by rw[← tl_len,he];omega,by rw[he];exact hw2,by rw[he];exact⟨hw5 (by omega),hw3⟩,by rw[he];exact hw4⟩
/-! What is shown of a policy, as signs. -/
def nm (w:ByteArray):S95:=⟨1,w,0⟩
def nu (n:Int):S95:=⟨2,⟨#[]⟩,n⟩
def mk (w:ByteArray):S95:=⟨3,w,0⟩
def wdT (a b:Int):List S95:=[nu a,mk (⟨#[58]⟩ :ByteArray),nu b]
def cdT (y:S54):List S95:=nm (⟨#[97,114,103]⟩ :ByteArray) :: nu y.f0 :: mk (⟨#[38]⟩ :ByteArray) :: (wdT y.f1.f0 y.f1.f1 ++ mk (rdOf ByteArray.empty cms (y.f2 - 1)) :: wdT y.f3.f0 y.f3.f1)
def cT:Nat→List S54→List S95
  | _,[]=>[]
  | i,y :: r=>nm (if i=0 then(⟨#[105,102]⟩ :ByteArray)else(⟨#[97,110,100]⟩ :ByteArray)) :: (cdT y ++ cT (i+1) r)
def enT (a b:Int):List S95:=[nm (⟨#[100,111]⟩ :ByteArray),nm (rdOf ByteArray.empty acts a),nu b,mk (⟨#[59]⟩ :ByteArray)]
def nT:Nat→List Int→List S95
  | _,[]=>[]
  | i,n :: r=>(if i=0 then [nu n]else [mk (⟨#[44]⟩ :ByteArray),nu n]) ++ nT (i+1) r
def ruT (x:S50):List S95:=nm (⟨#[111,110]⟩ :ByteArray) :: ((if x.f0.length=0 then [nm (⟨#[97,110,121]⟩ :ByteArray)]else []) ++ (nT 0 x.f0 ++ (cT 0 x.f1 ++ enT x.f2 x.f3)))
def ruTs:List S50→List S95
  | []=>[]
  | x :: r=>ruT x ++ ruTs r
def poT (a b c:Int) (l:List S50):List S95:=nm (⟨#[97,114,99,104]⟩ :ByteArray) :: nu a :: mk (⟨#[59]⟩ :ByteArray) :: nm (⟨#[100,101,102,97,117,108,116]⟩ :ByteArray) :: nm (rdOf ByteArray.empty acts b) :: nu c :: mk (⟨#[59]⟩ :ByteArray) :: ruTs l
/-- A text of these signs. -/
def Tx (xs:List S95) (S:ByteArray):Prop:=Txt xs S.toList
/-- What ends with a blank: a sign may follow at once. -/
def Op (xs:List S95) (S:ByteArray):Prop:= ∀ x w,Sg x w.toList→Tx (xs ++ [x]) (S ++ w)
theorem Txt.one {x:S95} {w:List UInt8} (h:Sg x w):Txt [x] w:=by
  have:=Txt.sign x w [] [] h (.inl rfl) .nil
  rwa [List.append_nil]at this
theorem t32:(⟨#[32]⟩ :ByteArray).toList= [32]:=by rw[ByteArray.toList_eq]
theorem Tx.op {xs:List S95} {S:ByteArray} (h:Tx xs S):Op xs (S ++ (⟨#[32]⟩ :ByteArray)):=fun x w hx=>by
  unfold Tx
  rw[tl_app,tl_app,t32,List.append_assoc]
  exact h.app (.inr ⟨32,w.toList,rfl,.inl rfl⟩) (.blank 32 _ _ (.inl rfl) (.one hx))
theorem Tx.and {xs:List S95} {S:ByteArray} (h:Tx xs S) {x:S95} {w:ByteArray} (hx:Sg x w.toList):Tx (xs ++ [x]) (S ++ ((⟨#[32]⟩ :ByteArray) ++ w)):=by
  have:=h.op x w hx
  rwa [ByteArray.append_assoc]at this
theorem Tx.app {xs ys:List S95} {S U:ByteArray} (h:Tx xs S) (h2:Tx ys U):Tx (xs ++ ys) ((S ++ (⟨#[32]⟩ :ByteArray)) ++ U):=by
  unfold Tx at *
  rw[tl_app,tl_app,t32,List.append_assoc]
  exact h.app (.inr ⟨32,U.toList,rfl,.inl rfl⟩) (.blank 32 _ _ (.inl rfl) h2)
theorem Tx.start {x:S95} {w:ByteArray} (hx:Sg x w.toList):Tx [x] w:=Txt.one hx
theorem sgName (a:List UInt8) (h1:1≤a.length∧a.length≤12) (h2: ∀ b ∈ a,97≤(b.toNat:Int)∧(b.toNat:Int)≤122):Sg (nm ⟨a.toArray⟩) (⟨a.toArray⟩ :ByteArray).toList:=by
  have e:(⟨a.toArray⟩ :ByteArray).toList=a:=by rw[ByteArray.toList_eq]
  rw[e]
  exact .inl ⟨rfl,rfl,e,h1,h2⟩
theorem sgMark {w:ByteArray} (h:w ∈ marks):Sg (mk w) w.toList:= .inr (.inr ⟨rfl,rfl,rfl,h⟩)
theorem sgAct (a:Int) (ha:0≤a∧a≤5):Sg (nm (rdOf ByteArray.empty acts a)) (rdOf ByteArray.empty acts a).toList:=by
  have:a=0∨a=1∨a=2∨a=3∨a=4∨a=5:=by omega
  rcases this with h|h|h|h|h|h <;> subst h
  · exact sgName [107,105,108,108] (by decide) (by decide)
  · exact sgName [116,114,97,112] (by decide) (by decide)
  · exact sgName [101,114,114] (by decide) (by decide)
  · exact sgName [116,114,97,99,101] (by decide) (by decide)
  · exact sgName [108,111,103] (by decide) (by decide)
  · exact sgName [97,108,108,111,119] (by decide) (by decide)
theorem sgCm (a:Int) (ha:1≤a∧a≤6):Sg (mk (rdOf ByteArray.empty cms (a - 1))) (rdOf ByteArray.empty cms (a - 1)).toList:=by
  have:a=1∨a=2∨a=3∨a=4∨a=5∨a=6:=by omega
  refine sgMark ?_
  rcases this with h|h|h|h|h|h <;> subst h <;> simp[rdOf,cms,marks]
theorem decS (n:Int) (h0:0≤n) (hn:n≤4294967295): ∃ v:ByteArray,Evt (fun k=>AQ.f k n) v∧Evt (fun k=>AS.f k n) v∧v.size≤20∧Sg (nu n) v.toList:=by
  obtain⟨v,a,b,c⟩:=figures n (by omega)
  have e:mx 0 n=n:=by unfold mx;split <;> omega
  rw[e]at b
  obtain⟨u,d,_,h1,h2,h3⟩:=dec n h0 hn
  have:=Evt.uniq b d
  subst this
  exact⟨v,a,b,c,.inr (.inl ⟨rfl,by show(⟨#[]⟩ :ByteArray).toList=_;rw[ByteArray.toList_eq],h1.symm,hn,h2,h3⟩)⟩
theorem wideS' (a b:Int) (ha:0≤a∧a≤4294967295) (hb:0≤b∧b≤4294967295): ∃ v:ByteArray,Evt (fun k=>A3.f k a b) v∧Evt (fun k=>A0.f k a b) v∧v.size≤43∧∀ xs S,Tx xs S→Tx (xs ++ wdT a b) (S ++ ((⟨#[32]⟩ :ByteArray) ++ v)):=by
  obtain⟨u,⟨K1,h1⟩,⟨K2,h2⟩,hu,su⟩:=decS a ha.1 ha.2
  obtain⟨v,⟨K3,h3⟩,⟨K4,h4⟩,hv,sv⟩:=decS b hb.1 hb.2
  dsimp only at h1 h2 h3 h4
  have z:(⟨#[32,58,32]⟩ :ByteArray).size=3:=rfl
  refine⟨(u ++ (⟨#[32,58,32]⟩ :ByteArray)) ++ v,⟨K1+K3,fun k hk=>?_⟩,⟨K2+K4,fun k hk=>?_⟩,by simp only[ByteArray.size_append,z];omega,fun xs S h=>?_⟩
  · simp only[A3.f,h1 k (by omega),h3 k (by omega),Option.bind_some]
    rw[if_pos (by omega),if_pos (by simp only[ByteArray.size_append,z];omega)]
  · simp only[A0.f,h2 k (by omega),h4 k (by omega),Option.bind_some]
    rw[if_pos (by omega),if_pos (by simp only[ByteArray.size_append,z];omega)]
  · have:=((h.and su).and (sgMark (w:=(⟨#[58]⟩ :ByteArray)) (by simp[marks]))).and sv
    rw[show(⟨#[32,58,32]⟩ :ByteArray)=⟨#[32]⟩ ++ (⟨#[58]⟩ ++ ⟨#[32]⟩)from rfl]
    simpa only[wdT,List.append_assoc,List.cons_append,List.nil_append,ByteArray.append_assoc] using this
theorem names (a:Int) (ha:0≤a∧a≤5): ∃ v:ByteArray,Bm.f a=some v∧BO.f a=some v∧v.size≤10∧v=rdOf ByteArray.empty acts a:=by
  refine⟨rdOf ByteArray.empty [(⟨#[107,105,108,108]⟩ :ByteArray),(⟨#[116,114,97,112]⟩ :ByteArray),(⟨#[101,114,114]⟩ :ByteArray),(⟨#[116,114,97,99,101]⟩ :ByteArray),(⟨#[108,111,103]⟩ :ByteArray),(⟨#[97,108,108,111,119]⟩ :ByteArray)] a,?_,?_,?_,rfl⟩
  · simp only[Bm.f,BW.f,inS,Option.bind_some]
    rw[decide_eq_true ha,if_pos rfl,if_pos ha.1,if_pos (by show a<((6:Nat):Int);omega)]
  · simp only[BO.f,inI,Option.bind_some]
    rw[decide_eq_true ha,if_pos rfl,if_pos ha.1,if_pos (by show a<((6:Nat):Int);omega)]
  · have:a=0∨a=1∨a=2∨a=3∨a=4∨a=5:=by omega
    rcases this with h|h|h|h|h|h <;> subst h <;> decide
theorem cmMark (a:Int) (ha:1≤a∧a≤6): ∃ v:ByteArray,rdOf ByteArray.empty [(⟨#[]⟩ :ByteArray),(⟨#[61,61]⟩ :ByteArray),(⟨#[33,61]⟩ :ByteArray),(⟨#[60]⟩ :ByteArray),(⟨#[60,61]⟩ :ByteArray),(⟨#[62]⟩ :ByteArray),(⟨#[62,61]⟩ :ByteArray)] a=v∧rdOf ByteArray.empty [(⟨#[61,61]⟩ :ByteArray),(⟨#[33,61]⟩ :ByteArray),(⟨#[60]⟩ :ByteArray),(⟨#[60,61]⟩ :ByteArray),(⟨#[62]⟩ :ByteArray),(⟨#[62,61]⟩ :ByteArray)] (a - 1)=v∧v.size≤2∧v=rdOf ByteArray.empty cms (a - 1):=by
  have:a=1∨a=2∨a=3∨a=4∨a=5∨a=6:=by omega
  rcases this with h|h|h|h|h|h <;> subst h <;> exact⟨_,rfl,rfl,by decide,rfl⟩
theorem z32:(⟨#[32]⟩ :ByteArray).size=1:=rfl
theorem zarg:(⟨#[97,114,103,32]⟩ :ByteArray).size=4:=rfl
theorem zarg':(⟨#[32,97,114,103,32]⟩ :ByteArray).size=5:=rfl
theorem zand:(⟨#[32,38,32]⟩ :ByteArray).size=3:=rfl
theorem zdo:(⟨#[32,100,111,32]⟩ :ByteArray).size=4:=rfl
theorem zend:(⟨#[32,59]⟩ :ByteArray).size=2:=rfl
theorem zif:(⟨#[32,105,102]⟩ :ByteArray).size=3:=rfl
theorem zif':(⟨#[32,105,102,32]⟩ :ByteArray).size=4:=rfl
theorem zan:(⟨#[32,97,110,100]⟩ :ByteArray).size=4:=rfl
theorem zan':(⟨#[32,97,110,100,32]⟩ :ByteArray).size=5:=rfl
theorem zco:(⟨#[32,44]⟩ :ByteArray).size=2:=rfl
theorem zco':(⟨#[32,44,32]⟩ :ByteArray).size=3:=rfl
theorem zon:(⟨#[32,111,110]⟩ :ByteArray).size=3:=rfl
theorem zon':(⟨#[111,110,32]⟩ :ByteArray).size=3:=rfl
theorem zany':(⟨#[97,110,121]⟩ :ByteArray).size=3:=rfl
/-- A condition as a text, behind its first word. -/
theorem condText (y:S54) (h:(0≤y.f0∧y.f0≤2)∧((0≤y.f1.f0∧y.f1.f0≤4294967295)∧(0≤y.f1.f1∧y.f1.f1≤4294967295))∧((0≤y.f3.f0∧y.f3.f0≤4294967295)∧(0≤y.f3.f1∧y.f3.f1≤4294967295))∧1≤y.f2∧y.f2≤6) :
    ∃ T:ByteArray,T.size≤200∧(∀ xs S,Tx xs S→Tx (xs ++ cdT y) (S ++ ((⟨#[32,97,114,103,32]⟩ :ByteArray) ++ T)))∧∃ K,∀ k,K≤k→(∀ (x:ByteArray) (i:Int) (N:List Int) (R:List S54) (a b:Int),x.size≤1000000000→AH.j3 (k+1) x i N R a b y.f0 y.f1.f0 y.f1.f1 y.f2 y.f3.f0 y.f3.f1=AH.l1 k (x ++ ((⟨#[97,114,103,32]⟩ :ByteArray) ++ T)) (wrap64 (i+1)) N R a b)∧
      (∀ (x w:ByteArray) (l:List S50) (n j:Int) (r:List S54) (m i:Int) (N:List Int) (R:List S54) (a b:Int),x.size≤1000000000→w.size≤10→AB.j4 (k+1) x w l n j r m i N R a b y.f0 y.f1.f0 y.f1.f1 y.f2 y.f3.f0 y.f3.f1=AB.l2 k (x ++ (w ++ ((⟨#[32,97,114,103,32]⟩ :ByteArray) ++ T))) l n j r m (wrap64 (i+1)) N R a b):=by
  obtain⟨h0,⟨h1,h2⟩,⟨h3,h4⟩,h5⟩:=h
  obtain⟨u,⟨K1,g1⟩,⟨K2,g2⟩,zu,su⟩:=decS y.f0 h0.1 (by omega)
  obtain⟨m,⟨K3,g3⟩,⟨K4,g4⟩,zm,sm⟩:=wideS' y.f1.f0 y.f1.f1 h1 h2
  obtain⟨v,⟨K5,g5⟩,⟨K6,g6⟩,zv,sv⟩:=wideS' y.f3.f0 y.f3.f1 h3 h4
  obtain⟨q,q1,q2,zq,rq⟩:=cmMark y.f2 h5
  dsimp only at g1 g2 g3 g4 g5 g6
  have ew:Aside0 (wrap64 (y.f2 - 1)=y.f2 - 1):=⟨w64 (by omega) (by omega)⟩
  refine⟨u ++ ((⟨#[32,38,32]⟩ :ByteArray) ++ (m ++ ((⟨#[32]⟩ :ByteArray) ++ (q ++ ((⟨#[32]⟩ :ByteArray) ++ v))))),by simp only[ByteArray.size_append,z32,zand];omega,fun xs S h=>?_,K1+K2+K3+K4+K5+K6,fun k hk=>⟨fun x i N R a b hx=>?_,fun x w l n j r mm i N R a b hx hw=>?_⟩⟩
  · have hq:=sgCm y.f2 h5
    rw[← rq]at hq
    have:=sv _ _ ((sm _ _ (((h.and (sgName [97,114,103] (by decide) (by decide))).and su).and (sgMark (w:=(⟨#[38]⟩ :ByteArray)) (by simp[marks])))).and hq)
    rw[show(⟨#[32,97,114,103,32]⟩ :ByteArray)=⟨#[32]⟩ ++ (⟨[97,114,103].toArray⟩ ++ ⟨#[32]⟩)from rfl,show(⟨#[32,38,32]⟩ :ByteArray)=⟨#[32]⟩ ++ (⟨#[38]⟩ ++ ⟨#[32]⟩)from rfl]
    unfold cdT
    rw[← rq]
    simpa only[List.append_assoc,List.cons_append,List.nil_append,ByteArray.append_assoc] using this
  · simp only[AH.j3,g1 k (by omega),g3 k (by omega),g5 k (by omega),Bn.f,Option.bind_some,q1]
    rw[if_pos (by omega),if_pos (by simp only[ByteArray.size_append,zarg];omega),if_pos (by simp only[ByteArray.size_append,zarg];omega),if_pos (by simp only[ByteArray.size_append,zarg,zand];omega),if_pos (by simp only[ByteArray.size_append,zarg,zand];omega),if_pos (by omega),if_pos (by show y.f2<((7:Nat):Int);omega),if_pos (by simp only[ByteArray.size_append,zarg,zand,z32];omega),if_pos (by simp only[ByteArray.size_append,zarg,zand,z32];omega),if_pos (by simp only[ByteArray.size_append,zarg,zand,z32];omega)]
    simp only[ByteArray.append_assoc]
  · simp only[AB.j4,g2 k (by omega),g4 k (by omega),g6 k (by omega),Bj.f,Option.bind_some,ew.out,q2]
    rw[if_pos (by omega),if_pos (by simp only[ByteArray.size_append];omega),if_pos (by simp only[ByteArray.size_append,zarg'];omega),if_pos (by simp only[ByteArray.size_append,zarg'];omega),if_pos (by simp only[ByteArray.size_append,zarg',zand];omega),if_pos (by simp only[ByteArray.size_append,zarg',zand];omega),if_pos (by omega),if_pos (by show y.f2 - 1<((6:Nat):Int);omega),if_pos (by simp only[ByteArray.size_append,zarg',zand,z32];omega),if_pos (by simp only[ByteArray.size_append,zarg',zand,z32];omega),if_pos (by simp only[ByteArray.size_append,zarg',zand,z32];omega)]
    simp only[ByteArray.append_assoc]
/-- The conditions of a rule, and its end. -/
theorem showConds (N:List Int) (R:List S54) (a b:Int) (hR: ∀ y ∈ R,CondR y) (hl:R.length≤3) (ha:0≤a∧a≤5) (hb:0≤b∧b≤65535) (P:ByteArray) (hP:P.size≤100000) (l:List S50) (n j:Int): ∀ (d i:Nat) (A S:ByteArray),i+d=R.length→A=P ++ S→S.size+d*300≤2000→∃ S':ByteArray,Evt (fun k=>AH.l1 k S (i:Int) N R a b) S'∧S'.size≤S.size+d*300+100∧(∀ xs,Tx xs S→Tx (xs ++ (cT i (R.drop i) ++ enT a b)) S')∧∀ r,Evt (fun k=>AB.l0 k (P ++ S') l n (wrap64 (j+1))) r→Evt (fun k=>AB.l2 k A l n j R (R.length:Int) (i:Int) N R a b) r:=by
  intro d
  induction d with
  | zero=>
    intro i A S hi hA hS
    obtain⟨u,u1,u2,zu,ru⟩:=names a ha
    obtain⟨v,⟨K1,g1⟩,⟨K2,g2⟩,zv,sv⟩:=decS b hb.1 (by omega)
    dsimp only at g1 g2
    refine⟨S ++ ((⟨#[32,100,111,32]⟩ :ByteArray) ++ (u ++ ((⟨#[32]⟩ :ByteArray) ++ (v ++ (⟨#[32,59]⟩ :ByteArray))))),.succ ⟨K1,fun k hk=>?_⟩,by simp only[ByteArray.size_append,zdo,z32,zend];omega,fun xs h=>?_,fun r ⟨K3,hr⟩=> .succ ⟨K2+K3,fun k hk=>?_⟩⟩
    · simp only[AH.l1,BX.f,u1,g1 k hk,Option.bind_some]
      rw[if_neg (by omega),if_pos (by omega),if_pos (by omega),if_pos (by simp only[ByteArray.size_append,z32];omega)]
      simp only[Option.bind_some]
      rw[if_pos (by simp only[ByteArray.size_append,z32,zdo];omega),if_pos (by simp only[ByteArray.size_append,z32,zdo];omega)]
      simp only[ByteArray.append_assoc]
    · have hu:=sgAct a ha
      rw[← ru]at hu
      have:=(((h.and (sgName [100,111] (by decide) (by decide))).and hu).and sv).and (sgMark (w:=(⟨#[59]⟩ :ByteArray)) (by simp[marks]))
      rw[List.drop_eq_nil_of_le (by omega),show(⟨#[32,100,111,32]⟩ :ByteArray)=⟨#[32]⟩ ++ (⟨[100,111].toArray⟩ ++ ⟨#[32]⟩)from rfl,show(⟨#[32,59]⟩ :ByteArray)=⟨#[32]⟩ ++ ⟨#[59]⟩from rfl]
      unfold cT enT
      rw[← ru]
      simpa only[List.append_assoc,List.cons_append,List.nil_append,ByteArray.append_assoc] using this
    · have q:=hr k (by omega)
      have zA:A.size=P.size+S.size:=by rw[hA,ByteArray.size_append]
      simp only[AB.l2,u2,g2 k (by omega),Option.bind_some]
      rw[if_neg (by omega),if_pos (by omega),if_pos (by simp only[ByteArray.size_append,zdo];omega),if_pos (by simp only[ByteArray.size_append,zdo];omega),if_pos (by simp only[ByteArray.size_append,zdo,z32];omega),if_pos (by simp only[ByteArray.size_append,zdo,z32];omega)]
      rw[← q,hA]
      simp only[ByteArray.append_assoc]
  | succ d ih=>
    intro i A S hi hA hS
    have hlt:i<R.length:=by omega
    obtain⟨T,zT,sT,K,hT⟩:=condText R[i] (hR _ (List.getElem_mem hlt))
    have hrd:=nrd_T54 R i hlt
    have zA:A.size=P.size+S.size:=by rw[hA,ByteArray.size_append]
    by_cases h0:(i:Int)=0
    · obtain⟨S',⟨K1,g1⟩,zS,sS,g2⟩:=ih (i+1) (A ++ ((⟨#[32,105,102]⟩ :ByteArray) ++ ((⟨#[32,97,114,103,32]⟩ :ByteArray) ++ T))) ((S ++ (⟨#[32,105,102,32]⟩ :ByteArray)) ++ ((⟨#[97,114,103,32]⟩ :ByteArray) ++ T)) (by omega) (by
        rw[hA,show(⟨#[32,105,102,32]⟩ :ByteArray)=⟨#[32,105,102]⟩ ++ ⟨#[32]⟩from rfl,show(⟨#[32,97,114,103,32]⟩ :ByteArray)=⟨#[32]⟩ ++ ⟨#[97,114,103,32]⟩from rfl]
        simp only[ByteArray.append_assoc]) (by simp only[ByteArray.size_append,zif',zarg];omega)
      refine⟨S',.succ (.succ ⟨K+K1,fun k hk=>?_⟩),by simp only[ByteArray.size_append,zif',zarg]at zS;omega,fun xs h=>?_,fun r hr=>?_⟩
      · have q:=g1 k (by omega)
        simp only[AH.l1,hrd]
        rw[if_pos (by omega),if_pos (by omega),if_pos h0,if_pos (by omega),(hT k (by omega)).1 _ _ _ _ _ _ (by simp only[ByteArray.size_append,zif'];omega),wsucc hlt (by omega)]
        exact q
      · have:=sS _ (show Tx (xs ++ (nm (⟨#[105,102]⟩ :ByteArray) :: cdT R[i])) _ from by
          have:=sT _ _ (h.and (sgName [105,102] (by decide) (by decide)))
          rw[show(⟨#[32,105,102,32]⟩ :ByteArray)=⟨#[32]⟩ ++ (⟨[105,102].toArray⟩ ++ ⟨#[32]⟩)from rfl]
          rw[show(⟨#[32,97,114,103,32]⟩ :ByteArray)=⟨#[32]⟩ ++ ⟨#[97,114,103,32]⟩from rfl]at this
          simpa only[List.append_assoc,List.cons_append,List.nil_append,ByteArray.append_assoc] using this)
        rw[List.drop_eq_getElem_cons hlt]
        unfold cT
        rw[if_pos (show i=0 by omega)]
        simpa only[List.append_assoc,List.cons_append,List.nil_append] using this
      · obtain⟨K2,q2⟩:=g2 r hr
        refine .succ (.succ ⟨K+K2,fun k hk=>?_⟩)
        have q:=q2 k (by omega)
        simp only[AB.l2,hrd]
        rw[if_pos (by omega),if_pos (by omega),if_pos (by omega),if_pos h0,(hT k (by omega)).2 _ _ _ _ _ _ _ _ _ _ _ _ (by omega) (by rw[zif];omega),wsucc hlt (by omega)]
        exact q
    · obtain⟨S',⟨K1,g1⟩,zS,sS,g2⟩:=ih (i+1) (A ++ ((⟨#[32,97,110,100]⟩ :ByteArray) ++ ((⟨#[32,97,114,103,32]⟩ :ByteArray) ++ T))) ((S ++ (⟨#[32,97,110,100,32]⟩ :ByteArray)) ++ ((⟨#[97,114,103,32]⟩ :ByteArray) ++ T)) (by omega) (by
        rw[hA,show(⟨#[32,97,110,100,32]⟩ :ByteArray)=⟨#[32,97,110,100]⟩ ++ ⟨#[32]⟩from rfl,show(⟨#[32,97,114,103,32]⟩ :ByteArray)=⟨#[32]⟩ ++ ⟨#[97,114,103,32]⟩from rfl]
        simp only[ByteArray.append_assoc]) (by simp only[ByteArray.size_append,zan',zarg];omega)
      refine⟨S',.succ (.succ ⟨K+K1,fun k hk=>?_⟩),by simp only[ByteArray.size_append,zan',zarg]at zS;omega,fun xs h=>?_,fun r hr=>?_⟩
      · have q:=g1 k (by omega)
        simp only[AH.l1,hrd]
        rw[if_pos (by omega),if_pos (by omega),if_neg h0,if_pos (by omega),(hT k (by omega)).1 _ _ _ _ _ _ (by simp only[ByteArray.size_append,zan'];omega),wsucc hlt (by omega)]
        exact q
      · have:=sS _ (show Tx (xs ++ (nm (⟨#[97,110,100]⟩ :ByteArray) :: cdT R[i])) _ from by
          have:=sT _ _ (h.and (sgName [97,110,100] (by decide) (by decide)))
          rw[show(⟨#[32,97,110,100,32]⟩ :ByteArray)=⟨#[32]⟩ ++ (⟨[97,110,100].toArray⟩ ++ ⟨#[32]⟩)from rfl]
          rw[show(⟨#[32,97,114,103,32]⟩ :ByteArray)=⟨#[32]⟩ ++ ⟨#[97,114,103,32]⟩from rfl]at this
          simpa only[List.append_assoc,List.cons_append,List.nil_append,ByteArray.append_assoc] using this)
        rw[List.drop_eq_getElem_cons hlt]
        unfold cT
        rw[if_neg (show ¬ i=0 by omega)]
        simpa only[List.append_assoc,List.cons_append,List.nil_append] using this
      · obtain⟨K2,q2⟩:=g2 r hr
        refine .succ (.succ ⟨K+K2,fun k hk=>?_⟩)
        have q:=q2 k (by omega)
        simp only[AB.l2,hrd]
        rw[if_pos (by omega),if_pos (by omega),if_pos (by omega),if_neg h0,(hT k (by omega)).2 _ _ _ _ _ _ _ _ _ _ _ _ (by omega) (by rw[zan];omega),wsucc hlt (by omega)]
        exact q
/-- The numbers of a rule. -/
theorem showNums (N:List Int) (R:List S54) (a b:Int) (hN: ∀ i (h:i<N.length),0≤N[i]∧N[i]≤4294967295) (hn:N.length≤4) (hR: ∀ y ∈ R,CondR y) (hl:R.length≤3) (ha:0≤a∧a≤5) (hb:0≤b∧b≤65535) (P:ByteArray) (hP:P.size≤100000) (l:List S50) (n j:Int): ∀ (d i:Nat) (A S:ByteArray),i+d=N.length→(if i=0∧0<N.length then A ++ (⟨#[32]⟩ :ByteArray)=P ++ S else A=P ++ S)→S.size+d*50≤600→∃ S':ByteArray,Evt (fun k=>AH.l0 k S (i:Int) N R a b) S'∧S'.size≤2000∧(∀ xs,(if i=0∧0<N.length then Op xs S else Tx xs S)→Tx (xs ++ (nT i (N.drop i) ++ (cT 0 R ++ enT a b))) S')∧∀ r,Evt (fun k=>AB.l0 k (P ++ S') l n (wrap64 (j+1))) r→Evt (fun k=>AB.l1 k A l n j N (N.length:Int) (i:Int) N R a b) r:=by
  intro d
  induction d with
  | zero=>
    intro i A S hi hA hS
    rw[if_neg (by omega)]at hA
    obtain⟨S',⟨K1,g1⟩,zS,sS,g2⟩:=showConds N R a b hR hl ha hb P hP l n j R.length 0 A S (by omega) hA (by omega)
    refine⟨S',.succ ⟨K1,fun k hk=>?_⟩,by omega,fun xs h=>?_,fun r hr=>?_⟩
    · have q:=g1 k hk
      simp only[AH.l0]
      rw[if_neg (by omega)]
      exact q
    · rw[if_neg (by omega)]at h
      rw[List.drop_eq_nil_of_le (by omega)]
      exact sS xs h
    · obtain⟨K2,q2⟩:=g2 r hr
      refine .succ ⟨K2,fun k hk=>?_⟩
      have q:=q2 k hk
      simp only[AB.l1]
      rw[if_neg (by omega)]
      exact q
  | succ d ih=>
    intro i A S hi hA hS
    have hlt:i<N.length:=by omega
    obtain⟨v,⟨K3,g3⟩,⟨K4,g4⟩,zv,sv⟩:=decS N[i] (hN i hlt).1 (hN i hlt).2
    have hrd:=nrd N i hlt
    dsimp only at g3 g4
    by_cases h0:i=0
    · rw[if_pos ⟨h0,by omega⟩]at hA
      have zA:A.size+1=P.size+S.size:=by
        have:=congrArg ByteArray.size hA
        simpa only[ByteArray.size_append,z32] using this
      obtain⟨S',⟨K1,g1⟩,zS,sS,g2⟩:=ih (i+1) ((A ++ (⟨#[32]⟩ :ByteArray)) ++ v) (S ++ v) (by omega) (by
        rw[if_neg (by omega),hA,ByteArray.append_assoc]) (by rw[ByteArray.size_append];omega)
      refine⟨S',.succ ⟨K1+K3,fun k hk=>?_⟩,zS,fun xs h=>?_,fun r hr=>?_⟩
      · have q:=g1 k (by omega)
        simp only[AH.l0,hrd,g3 k (by omega),Option.bind_some]
        rw[if_pos (by omega),if_neg (by omega),if_pos (by omega),if_pos (by omega),wsucc hlt (by omega)]
        exact q
      · rw[if_pos ⟨h0,by omega⟩]at h
        have:=sS (xs ++ [nu N[i]]) (by rw[if_neg (by omega)];exact h _ _ sv)
        rw[List.drop_eq_getElem_cons hlt]
        unfold nT
        rw[if_pos h0]
        simpa only[List.append_assoc,List.cons_append,List.nil_append] using this
      · obtain⟨K2,q2⟩:=g2 r hr
        refine .succ ⟨K2+K4,fun k hk=>?_⟩
        have q:=q2 k (by omega)
        simp only[AB.l1,hrd,g4 k (by omega),Option.bind_some]
        rw[if_pos (by omega),if_pos (by omega),if_pos (by omega),if_neg (by omega),if_pos (by omega),if_pos (by simp only[ByteArray.size_append,z32];omega),wsucc hlt (by omega)]
        exact q
    · rw[if_neg (by omega)]at hA
      have zA:A.size=P.size+S.size:=by rw[hA,ByteArray.size_append]
      obtain⟨S',⟨K1,g1⟩,zS,sS,g2⟩:=ih (i+1) (((A ++ (⟨#[32,44]⟩ :ByteArray)) ++ (⟨#[32]⟩ :ByteArray)) ++ v) ((S ++ (⟨#[32,44,32]⟩ :ByteArray)) ++ v) (by omega) (by
        rw[if_neg (by omega),hA,show(⟨#[32,44,32]⟩ :ByteArray)=⟨#[32,44]⟩ ++ ⟨#[32]⟩from rfl]
        simp only[ByteArray.append_assoc]) (by simp only[ByteArray.size_append,zco'];omega)
      refine⟨S',.succ ⟨K1+K3,fun k hk=>?_⟩,zS,fun xs h=>?_,fun r hr=>?_⟩
      · have q:=g1 k (by omega)
        simp only[AH.l0,hrd,g3 k (by omega),Option.bind_some]
        rw[if_pos (by omega),if_pos (by omega),if_pos (by omega),if_pos (by omega),if_pos (by simp only[ByteArray.size_append,zco'];omega),wsucc hlt (by omega)]
        exact q
      · rw[if_neg (by omega)]at h
        have:=sS (xs ++ [mk (⟨#[44]⟩ :ByteArray),nu N[i]]) (by
          rw[if_neg (by omega)]
          have:=(h.and (sgMark (w:=(⟨#[44]⟩ :ByteArray)) (by simp[marks]))).and sv
          rw[show(⟨#[32,44,32]⟩ :ByteArray)=⟨#[32]⟩ ++ (⟨#[44]⟩ ++ ⟨#[32]⟩)from rfl]
          simpa only[List.append_assoc,List.cons_append,List.nil_append,ByteArray.append_assoc] using this)
        rw[List.drop_eq_getElem_cons hlt]
        unfold nT
        rw[if_neg h0]
        simpa only[List.append_assoc,List.cons_append,List.nil_append] using this
      · obtain⟨K2,q2⟩:=g2 r hr
        refine .succ ⟨K2+K4,fun k hk=>?_⟩
        have q:=q2 k (by omega)
        simp only[AB.l1,hrd,g4 k (by omega),Option.bind_some]
        rw[if_pos (by omega),if_pos (by omega),if_pos (by omega),if_pos (by omega),if_pos (by omega),if_pos (by simp only[ByteArray.size_append,zco];omega),if_pos (by simp only[ByteArray.size_append,zco,z32];omega),wsucc hlt (by omega)]
        exact q
theorem showRules (a b c:Int) (l:List S50) (hl:l.length≤10) (hr: ∀ y ∈ l,RuleR y.f0 y.f1 y.f2 y.f3): ∀ (d j:Nat) (X:ByteArray),j+d=l.length→X.size+d*3000≤60000→∃ r,Evt (fun k=>Ac.l0 k X (j:Int) a b c l) r∧Evt (fun k=>AB.l0 k X l (l.length:Int) (j:Int)) r∧r.1.size≤1200∧∀ xs,Tx xs X→r.2=true→Tx (xs ++ ruTs (l.drop j)) r.1:=by
  intro d
  induction d with
  | zero=>
    intro j X hj hX
    by_cases h:(X.size:Int)>1200
    · refine⟨((⟨#[]⟩ :ByteArray),false),.succ (.const fun k=>?_),.succ (.const fun k=>?_),by decide,fun xs h h2=>by cases h2⟩
      · simp only[Ac.l0]
        rw[if_neg (by omega),if_pos h]
      · simp only[AB.l0]
        rw[if_neg (by omega),if_pos h]
    · refine⟨(X,true),.succ (.const fun k=>?_),.succ (.const fun k=>?_),by show X.size≤1200;omega,fun xs h _=>by
        rw[List.drop_eq_nil_of_le (by omega)]
        simpa only[ruTs,List.append_nil] using h⟩
      · simp only[Ac.l0]
        rw[if_neg (by omega),if_neg h]
      · simp only[AB.l0]
        rw[if_neg (by omega),if_neg h]
  | succ d ih=>
    intro j X hj hX
    have hlt:j<l.length:=by omega
    have hrd:=nrd_T50 l j hlt
    obtain⟨⟨h1,_⟩,h2,h3,h4,h5,h6⟩:=hr l[j] (List.getElem_mem hlt)
    by_cases h0:(l[j].f0.length:Int)=0
    · obtain⟨S',⟨K1,g1⟩,zS,sS,g2⟩:=showNums l[j].f0 l[j].f1 l[j].f2 l[j].f3 h1 h3 h2 h4 h5 h6 (X ++ (⟨#[32]⟩ :ByteArray)) (by rw[ByteArray.size_append,z32];omega) l (l.length:Int) (j:Int) l[j].f0.length 0 ((X ++ (⟨#[32,111,110]⟩ :ByteArray)) ++ (⟨#[32,97,110,121]⟩ :ByteArray)) ((⟨#[111,110,32]⟩ :ByteArray) ++ (⟨#[97,110,121]⟩ :ByteArray)) (by omega) (by
        rw[if_neg (by omega),show(⟨#[32,111,110]⟩ :ByteArray)=⟨#[32]⟩ ++ ⟨#[111,110]⟩from rfl,show(⟨#[32,97,110,121]⟩ :ByteArray)=⟨#[32]⟩ ++ ⟨#[97,110,121]⟩from rfl,show(⟨#[111,110,32]⟩ :ByteArray)=⟨#[111,110]⟩ ++ ⟨#[32]⟩from rfl]
        simp only[ByteArray.append_assoc]) (by simp only[ByteArray.size_append,zon',zany'];omega)
      obtain⟨r,⟨K5,q5⟩,hI,zr,sr⟩:=ih (j+1) ((X ++ (⟨#[32]⟩ :ByteArray)) ++ S') (by omega) (by simp only[ByteArray.size_append,z32];omega)
      rw[← wsucc hlt (show l.length≤9223372036854775807 by omega)]at hI
      obtain⟨K6,q6⟩:=g2 r hI
      dsimp only at g1 q5 q6
      refine⟨r,.succ (.succ ⟨K1+K5,fun k hk=>?_⟩),.succ (.succ ⟨K6,fun k hk=>?_⟩),zr,fun xs h h2=>?_⟩
      · have e:AH.f (k+1) l[j].f0 l[j].f1 l[j].f2 l[j].f3=some S':=by
          simp only[AH.f]
          rw[if_pos h0,if_pos (by omega)]
          simp only[AH.j0]
          exact g1 k (by omega)
        simp only[Ac.l0,hrd,e,Option.bind_some]
        rw[if_pos (by omega),if_pos (by omega),if_pos (by omega),if_pos (by simp only[ByteArray.size_append,z32];omega),wsucc hlt (by omega)]
        exact q5 (k+1) (by omega)
      · have q:=q6 k hk
        simp only[AB.l0,hrd]
        rw[if_pos (by omega),if_pos (by omega),if_pos (by omega),if_pos (by omega),if_pos h0,if_pos (by simp only[ByteArray.size_append,zon];omega)]
        simp only[AB.j1]
        exact q
      · have hx:=sS [nm (⟨#[111,110]⟩ :ByteArray),nm (⟨#[97,110,121]⟩ :ByteArray)] (by
          rw[if_neg (by omega)]
          have:=(Tx.start (sgName [111,110] (by decide) (by decide))).and (sgName [97,110,121] (by decide) (by decide))
          rw[show(⟨#[111,110,32]⟩ :ByteArray)=⟨[111,110].toArray⟩ ++ ⟨#[32]⟩from rfl]
          simpa only[List.append_assoc,List.cons_append,List.nil_append,ByteArray.append_assoc] using this)
        have:=sr _ (h.app hx) h2
        rw[List.drop_eq_getElem_cons hlt]
        unfold ruTs ruT
        rw[if_pos (show l[j].f0.length=0 by omega)]
        simpa only[List.append_assoc,List.cons_append,List.nil_append,List.drop_zero] using this
    · obtain⟨S',⟨K1,g1⟩,zS,sS,g2⟩:=showNums l[j].f0 l[j].f1 l[j].f2 l[j].f3 h1 h3 h2 h4 h5 h6 (X ++ (⟨#[32]⟩ :ByteArray)) (by rw[ByteArray.size_append,z32];omega) l (l.length:Int) (j:Int) l[j].f0.length 0 (X ++ (⟨#[32,111,110]⟩ :ByteArray)) (⟨#[111,110,32]⟩ :ByteArray) (by omega) (by
        rw[if_pos ⟨rfl,by omega⟩,show(⟨#[32,111,110]⟩ :ByteArray)=⟨#[32]⟩ ++ ⟨#[111,110]⟩from rfl,show(⟨#[111,110,32]⟩ :ByteArray)=⟨#[111,110]⟩ ++ ⟨#[32]⟩from rfl]
        simp only[ByteArray.append_assoc]) (by rw[zon'];omega)
      obtain⟨r,⟨K5,q5⟩,hI,zr,sr⟩:=ih (j+1) ((X ++ (⟨#[32]⟩ :ByteArray)) ++ S') (by omega) (by simp only[ByteArray.size_append,z32];omega)
      rw[← wsucc hlt (show l.length≤9223372036854775807 by omega)]at hI
      obtain⟨K6,q6⟩:=g2 r hI
      dsimp only at g1 q5 q6
      refine⟨r,.succ (.succ ⟨K1+K5,fun k hk=>?_⟩),.succ (.succ ⟨K6,fun k hk=>?_⟩),zr,fun xs h h2=>?_⟩
      · have e:AH.f (k+1) l[j].f0 l[j].f1 l[j].f2 l[j].f3=some S':=by
          simp only[AH.f]
          rw[if_neg h0]
          simp only[AH.j0]
          exact g1 k (by omega)
        simp only[Ac.l0,hrd,e,Option.bind_some]
        rw[if_pos (by omega),if_pos (by omega),if_pos (by omega),if_pos (by simp only[ByteArray.size_append,z32];omega),wsucc hlt (by omega)]
        exact q5 (k+1) (by omega)
      · have q:=q6 k hk
        simp only[AB.l0,hrd]
        rw[if_pos (by omega),if_pos (by omega),if_pos (by omega),if_pos (by omega),if_neg h0]
        simp only[AB.j1]
        exact q
      · have hx:=sS [nm (⟨#[111,110]⟩ :ByteArray)] (by
          rw[if_pos ⟨rfl,by omega⟩,show(⟨#[111,110,32]⟩ :ByteArray)=⟨[111,110].toArray⟩ ++ ⟨#[32]⟩from rfl]
          exact(Tx.start (sgName [111,110] (by decide) (by decide))).op)
        have:=sr _ (h.app hx) h2
        rw[List.drop_eq_getElem_cons hlt]
        unfold ruTs ruT
        rw[if_neg (show ¬ l[j].f0.length=0 by omega)]
        simpa only[List.append_assoc,List.cons_append,List.nil_append,List.drop_zero] using this
theorem show_ (a b c:Int) (l:List S50) (hn:l.length≤4611686018427387904) (hl: ∀ y ∈ l,y.f0.length≤4611686018427387904∧y.f1.length≤4611686018427387904): ∃ r,Evt (fun k=>Ac.f k a b c l) r∧Evt (fun k=>AB.f k a b c l) r∧r.1.size≤1200∧(r.2=true→Tx (poT a b c l) r.1∧Evt (fun k=>AZ.f k a b c l) true):=by
  obtain⟨p,⟨K1,h1⟩,⟨K2,h2⟩⟩:=pol a b c l hn hl
  dsimp only at h1 h2
  cases p with
  | false=>
    refine⟨((⟨#[]⟩ :ByteArray),false),⟨K1,fun k hk=>?_⟩,⟨K2,fun k hk=>?_⟩,by decide,fun h2=>by cases h2⟩
    · simp only[Ac.f,h1 k hk,Option.bind_some,Bool.false_eq_true,if_false]
    · simp only[AB.f,h2 k hk,Option.bind_some,Bool.false_eq_true,if_false]
  | true=>
    obtain⟨ha,⟨hb,hc⟩,hl10,hr⟩:=pol_inv a b c l hn hl (h1 K1 (Nat.le_refl _))
    obtain⟨u,⟨K3,g3⟩,⟨K4,g4⟩,zu,su⟩:=decS a ha.1 ha.2
    obtain⟨v,v1,v2,zv,rv⟩:=names b hb
    obtain⟨w,⟨K5,g5⟩,⟨K6,g6⟩,zw,sw⟩:=decS c hc.1 (by omega)
    dsimp only at g3 g4 g5 g6
    have z1:(⟨#[97,114,99,104,32]⟩ :ByteArray).size=5:=rfl
    have z2:(⟨#[32,59,32,100,101,102,97,117,108,116,32]⟩ :ByteArray).size=11:=rfl
    obtain⟨r,⟨K7,g7⟩,⟨K8,g8⟩,zr,sr⟩:=showRules a b c l hl10 hr l.length 0 ((⟨#[97,114,99,104,32]⟩ :ByteArray) ++ (u ++ ((⟨#[32,59,32,100,101,102,97,117,108,116,32]⟩ :ByteArray) ++ (v ++ ((⟨#[32]⟩ :ByteArray) ++ (w ++ (⟨#[32,59]⟩ :ByteArray))))))) (by omega) (by simp only[ByteArray.size_append,z1,z2,z32,zend];omega)
    dsimp only at g7 g8
    refine⟨r,⟨K1+K3+K5+K7,fun k hk=>?_⟩,⟨K2+K4+K6+K8,fun k hk=>?_⟩,zr,fun h2=>⟨?_,K1,h1⟩⟩
    · have q:=g7 k (by omega)
      simp only[Ac.f,h1 k (by omega),g3 k (by omega),Option.bind_some,if_true,BX.f,v1,g5 k (by omega)]
      rw[if_pos (by omega),if_pos (by simp only[ByteArray.size_append,z1];omega),if_pos (by omega),if_pos (by simp only[ByteArray.size_append,z32];omega)]
      simp only[Option.bind_some]
      rw[if_pos (by simp only[ByteArray.size_append,z1,z2,z32];omega),if_pos (by simp only[ByteArray.size_append,z1,z2,z32];omega),← q]
      simp only[ByteArray.append_assoc]
      rfl
    · have q:=g8 k (by omega)
      simp only[AB.f,h2 k (by omega),g4 k (by omega),Option.bind_some,if_true,v2,g6 k (by omega)]
      rw[if_pos (by omega),if_pos (by simp only[ByteArray.size_append,z1];omega),if_pos (by simp only[ByteArray.size_append,z1,z2];omega),if_pos (by simp only[ByteArray.size_append,z1,z2];omega),if_pos (by simp only[ByteArray.size_append,z1,z2,z32];omega),if_pos (by simp only[ByteArray.size_append,z1,z2,z32];omega),← q]
      simp only[ByteArray.append_assoc]
      rfl
    · have hv:=sgAct b hb
      rw[← rv]at hv
      have:=(((((((Tx.start (sgName [97,114,99,104] (by decide) (by decide))).and su).and (sgMark (w:=(⟨#[59]⟩ :ByteArray)) (by simp[marks]))).and (sgName [100,101,102,97,117,108,116] (by decide) (by decide))).and hv).and sw).and (sgMark (w:=(⟨#[59]⟩ :ByteArray)) (by simp[marks])))
      rw[show(⟨#[97,114,99,104,32]⟩ :ByteArray)=⟨[97,114,99,104].toArray⟩ ++ ⟨#[32]⟩from rfl,show(⟨#[32,59,32,100,101,102,97,117,108,116,32]⟩ :ByteArray)=⟨#[32]⟩ ++ (⟨#[59]⟩ ++ (⟨#[32]⟩ ++ (⟨[100,101,102,97,117,108,116].toArray⟩ ++ ⟨#[32]⟩)))from rfl,show(⟨#[32,59]⟩ :ByteArray)=⟨#[32]⟩ ++ ⟨#[59]⟩from rfl]at sr
      have:=sr _ (by simpa only[List.append_assoc,List.cons_append,List.nil_append,ByteArray.append_assoc] using this) h2
      unfold poT
      rw[← rv]
      simpa only[List.append_assoc,List.cons_append,List.nil_append,List.drop_zero] using this
/-! What is shown is read again. -/
theorem toList_inj {u v:ByteArray} (h:u.toList=v.toList):u=v:=by
  rw[ByteArray.toList_eq,ByteArray.toList_eq]at h
  cases u
  cases v
  congr
  exact Array.toList_inj.1 h
theorem Likes.eq {xs ys:List S95} (h:Likes xs ys):xs=ys:=by
  induction h with
  | nil=>rfl
  | cons x y xs ys hx _ ih=>
    obtain⟨h0,h1,h2⟩:=hx
    rw[ih]
    cases x
    cases y
    simp only at h0 h1 h2
    rw[h0,toList_inj h1,h2]
theorem takeN (w:ByteArray) (r:List S95):pTake w (nm w :: r)=some r:=if_pos ⟨(by show(1:Int)≠2;decide),rfl⟩
theorem takeM (w:ByteArray) (r:List S95):pTake w (mk w :: r)=some r:=if_pos ⟨(by show(3:Int)≠2;decide),rfl⟩
theorem takeNo (w:ByteArray) (x:S95) (r:List S95) (h:x.f1.toList≠w.toList):pTake w (x :: r)=none:=if_neg (fun c=>h c.2)
theorem numU (n:Int) (r:List S95):pNum (nu n :: r)=some (n,r):=rfl
theorem wideU (a b:Int) (r:List S95):pWide (wdT a b ++ r)=some (a,b,r):=by
  show pWide (nu a :: mk (⟨#[58]⟩ :ByteArray) :: nu b :: r)=_
  simp only[pWide,numU,Option.bind_some,takeM,Option.map_some]
theorem actU (a d:Int) (ha:0≤a∧a≤5) (r:List S95):pAct (nm (rdOf ByteArray.empty acts a) :: nu d :: r)=some (a,d,r):=by
  have e:pName acts (nm (rdOf ByteArray.empty acts a) :: nu d :: r)=some (a,nu d :: r):=by
    have:a=0∨a=1∨a=2∨a=3∨a=4∨a=5:=by omega
    rcases this with h|h|h|h|h|h <;> subst h <;> simp[pName,nm,place,acts,rdOf,ByteArray.toList_eq]
  simp only[pAct,e,Option.bind_some,numU]
theorem cmU (c:Int) (hc:1≤c∧c≤6) (r:List S95):pCm cms 1 (mk (rdOf ByteArray.empty cms (c - 1)) :: r)=some (c,r):=by
  have:c=1∨c=2∨c=3∨c=4∨c=5∨c=6:=by omega
  rcases this with h|h|h|h|h|h <;> subst h <;> simp[pCm,pTake,mk,cms,rdOf,ByteArray.toList_eq]
theorem condU (y:S54) (hc:1≤y.f2∧y.f2≤6) (r:List S95):pCond (cdT y ++ r)=some (y,r):=by
  show pCond (nm (⟨#[97,114,103]⟩ :ByteArray) :: nu y.f0 :: mk (⟨#[38]⟩ :ByteArray) :: ((wdT y.f1.f0 y.f1.f1 ++ mk (rdOf ByteArray.empty cms (y.f2 - 1)) :: wdT y.f3.f0 y.f3.f1) ++ r))=_
  rw[List.append_assoc,List.cons_append]
  simp only[pCond,takeN,numU,Option.bind_some,pMask,takeM,wideU,pCv,cmU y.f2 hc,Option.map_some]
theorem t_and:(⟨#[97,110,100]⟩ :ByteArray).toList= [97,110,100]:=by rw[ByteArray.toList_eq]
theorem t_co:(⟨#[44]⟩ :ByteArray).toList= [44]:=by rw[ByteArray.toList_eq]
theorem t_do:(⟨#[100,111]⟩ :ByteArray).toList= [100,111]:=by rw[ByteArray.toList_eq]
theorem t_if:(⟨#[105,102]⟩ :ByteArray).toList= [105,102]:=by rw[ByteArray.toList_eq]
/-- The conditions behind the first. -/
theorem condsU (e r:List S95) (he:pTake (⟨#[97,110,100]⟩ :ByteArray) (e ++ r)=none): ∀ (R:List S54) (i d:Nat) (o:List S54) (y:S54),(∀ z ∈ y :: R,CondR z)→R.length≤d→pConds (d+1) o (cdT y ++ (cT (i+1) R ++ (e ++ r)))=some (o ++ y :: R,e ++ r)
  | [],i,d,o,y,h,hd=>by
    simp only[pConds,cT,List.nil_append]
    rw[condU y (h y List.mem_cons_self).2.2.2,Option.bind_some,byTake_none he]
  | z :: R,i,d,o,y,h,hd=>by
    obtain⟨d,rfl⟩ : ∃ m,d=m+1:=⟨d - 1,by simp only[List.length_cons]at hd;omega⟩
    have ih:=condsU e r he R (i+1) d (o ++ [y]) z (fun u hu=>h u (List.mem_cons_of_mem _ hu)) (by simp only[List.length_cons]at hd;omega)
    rw[pConds,condU y (h y List.mem_cons_self).2.2.2,Option.bind_some]
    have e1:cT (i+1) (z :: R) ++ (e ++ r)=nm (⟨#[97,110,100]⟩ :ByteArray) :: (cdT z ++ (cT (i+1+1) R ++ (e ++ r))):=by
      rw[cT,if_neg (by omega),List.cons_append,List.append_assoc]
    rw[e1,byTake_some (takeN _ _),ih,List.append_assoc]
    rfl
theorem put_last (o:List Int) (n:Int) (h: ∀ b ∈ o,b<n):put o n=o ++ [n]:=by
  have h1:n ∉ o:=fun c=>by have:=h n c;omega
  have h2:o.filter (fun b=>decide (b<n))=o:=List.filter_eq_self.2 (fun b hb=>by simpa using h b hb)
  have h3:o.filter (fun b=>decide (b>n))= []:=List.filter_eq_nil_iff.2 (fun b hb=>by have:=h b hb;simp;omega)
  rw[put,if_neg h1,h2,h3,List.append_nil]
theorem numsU (e:List S95) (he:pTake (⟨#[44]⟩ :ByteArray) e=none): ∀ (N:List Int) (i d:Nat) (o:List Int) (n:Int),(o ++ n :: N).Pairwise (· < ·)→N.length≤d→pNums (d+1) o (nu n :: (nT (i+1) N ++ e))=some (o ++ n :: N,e)
  | [],i,d,o,n,h,hd=>by
    have hp: ∀ b ∈ o,b<n:=fun b hb=>(List.pairwise_append.1 h).2.2 b hb n List.mem_cons_self
    have hn:n ∉ o:=fun c=>by have:=hp n c;omega
    simp only[pNums,nT,List.nil_append]
    rw[show pItem (nu n :: e)=some (n,e)from rfl,Option.bind_some,if_neg hn,put_last o n hp,byTake_none he]
  | m :: N,i,d,o,n,h,hd=>by
    obtain⟨d,rfl⟩ : ∃ m,d=m+1:=⟨d - 1,by simp only[List.length_cons]at hd;omega⟩
    have hp: ∀ b ∈ o,b<n:=fun b hb=>(List.pairwise_append.1 h).2.2 b hb n List.mem_cons_self
    have hn:n ∉ o:=fun c=>by have:=hp n c;omega
    have ih:=numsU e he N (i+1) d (o ++ [n]) m (by simpa only[List.append_assoc,List.cons_append,List.nil_append] using h) (by simp only[List.length_cons]at hd;omega)
    have e1:nT (i+1) (m :: N) ++ e=mk (⟨#[44]⟩ :ByteArray) :: (nu m :: (nT (i+1+1) N ++ e)):=by
      rw[nT,if_neg (by omega)]
      simp only[List.append_assoc,List.cons_append,List.nil_append]
    rw[pNums,show pItem (nu n :: (nT (i+1) (m :: N) ++ e))=some (n,nT (i+1) (m :: N) ++ e)from rfl,Option.bind_some,if_neg hn,put_last o n hp,e1,byTake_some (takeM _ _),ih,List.append_assoc]
    rfl
theorem endU (ns:List Int) (cs:List S54) (a b:Int) (ha:0≤a∧a≤5) (r:List S95):pEnd ns cs (enT a b ++ r)=some (⟨ns,cs,a,b⟩,r):=by
  show pEnd ns cs (nm (⟨#[100,111]⟩ :ByteArray) :: nm (rdOf ByteArray.empty acts a) :: nu b :: mk (⟨#[59]⟩ :ByteArray) :: r)=_
  simp only[pEnd,takeN,actU a b ha,takeM,Option.bind_some,Option.map_some]
theorem cdT_len (y:S54):1≤(cdT y).length:=by simp[cdT]
theorem cT_len: ∀ (R:List S54) (i:Nat),R.length≤(cT i R).length
  | [],_=>Nat.zero_le _
  | y :: R,i=>by
    have:=cT_len R (i+1)
    simp only[cT,List.length_cons,List.length_append]
    omega
theorem nT_len: ∀ (N:List Int) (i:Nat),N.length≤(nT i N).length
  | [],_=>Nat.zero_le _
  | n :: N,i=>by
    have:=nT_len N (i+1)
    rw[nT,List.length_append,List.length_cons]
    split <;> simp only[List.length_cons,List.length_nil] <;> omega
theorem tailU (ns:List Int) (cs:List S54) (a b:Int) (hc: ∀ y ∈ cs,CondR y) (ha:0≤a∧a≤5) (r:List S95):pTail ns (cT 0 cs ++ (enT a b ++ r))=some (⟨ns,cs,a,b⟩,r):=by
  cases cs with
  | nil=>
    have e:pTake (⟨#[105,102]⟩ :ByteArray) (cT 0 ([] :List S54) ++ (enT a b ++ r))=none:=takeNo _ (nm (⟨#[100,111]⟩ :ByteArray)) _ (by show(⟨#[100,111]⟩ :ByteArray).toList≠_;rw[t_do,t_if];decide)
    rw[pTail,e]
    exact endU ns [] a b ha r
  | cons y R=>
    have he:pTake (⟨#[97,110,100]⟩ :ByteArray) (enT a b ++ r)=none:=takeNo _ (nm (⟨#[100,111]⟩ :ByteArray)) _ (by show(⟨#[100,111]⟩ :ByteArray).toList≠_;rw[t_do,t_and];decide)
    have e1:cT 0 (y :: R) ++ (enT a b ++ r)=nm (⟨#[105,102]⟩ :ByteArray) :: (cdT y ++ (cT 1 R ++ (enT a b ++ r))):=by
      rw[cT,if_pos rfl,List.cons_append,List.append_assoc]
    have hl: ∃ d,(cdT y ++ (cT 1 R ++ (enT a b ++ r))).length=d+1∧R.length≤d:=by
      have h1:=cdT_len y
      have h2:=cT_len R 1
      refine⟨(cdT y ++ (cT 1 R ++ (enT a b ++ r))).length - 1,?_,?_⟩ <;> simp only[List.length_append] <;> omega
    obtain⟨d,h1,h2⟩:=hl
    rw[e1,pTail,takeN]
    show((pConds (cdT y ++ (cT 1 R ++ (enT a b ++ r))).length [] (cdT y ++ (cT 1 R ++ (enT a b ++ r)))).bind fun c=>pEnd ns c.1 c.2)=_
    rw[h1,condsU (enT a b) r he R 0 d [] y hc h2,Option.bind_some]
    exact endU ns _ a b ha r
theorem ruleU (x:S50) (h:RuleR x.f0 x.f1 x.f2 x.f3) (r:List S95):pRule (ruT x ++ r)=some (x,r):=by
  obtain⟨hn,hc,_,_,ha,_⟩:=h
  have hp:=hn.rise
  obtain⟨ns,cs,a,b⟩:=x
  dsimp only at *
  cases ns with
  | nil=>
    have e1:ruT ⟨[],cs,a,b⟩ ++ r=nm (⟨#[111,110]⟩ :ByteArray) :: nm (⟨#[97,110,121]⟩ :ByteArray) :: (cT 0 cs ++ (enT a b ++ r)):=by
      simp[ruT,nT]
    rw[e1,pRule,takeN,Option.bind_some,takeN]
    exact tailU [] cs a b hc ha r
  | cons n N=>
    have e1:ruT ⟨n :: N,cs,a,b⟩ ++ r=nm (⟨#[111,110]⟩ :ByteArray) :: (nu n :: (nT 1 N ++ (cT 0 cs ++ (enT a b ++ r)))):=by
      simp[ruT,nT]
    have e2:pTake (⟨#[97,110,121]⟩ :ByteArray) (nu n :: (nT 1 N ++ (cT 0 cs ++ (enT a b ++ r))))=none:=by
      unfold pTake
      exact if_neg (fun c=>c.1 rfl)
    have e3:pTake (⟨#[44]⟩ :ByteArray) (cT 0 cs ++ (enT a b ++ r))=none:=by
      cases cs with
      | nil=>exact takeNo _ (nm (⟨#[100,111]⟩ :ByteArray)) _ (by show(⟨#[100,111]⟩ :ByteArray).toList≠_;rw[t_do,t_co];decide)
      | cons y R=>exact takeNo _ (nm (⟨#[105,102]⟩ :ByteArray)) _ (by show(⟨#[105,102]⟩ :ByteArray).toList≠_;rw[t_if,t_co];decide)
    rw[e1,pRule,takeN,Option.bind_some,e2]
    show((pNums (nu n :: (nT 1 N ++ (cT 0 cs ++ (enT a b ++ r)))).length [] _).bind fun q=>pTail q.1 q.2)=_
    rw[List.length_cons,numsU _ e3 N 0 _ [] n hp (by have:=nT_len N 1;simp only[List.length_append];omega),Option.bind_some]
    exact tailU (n :: N) cs a b hc ha r
theorem ruT_len (x:S50):1≤(ruT x).length:=by simp[ruT]
theorem rulesU: ∀ (l:List S50) (d:Nat) (o:List S50),(∀ x ∈ l,RuleR x.f0 x.f1 x.f2 x.f3)→l.length≤d→pRules d o (ruTs l)=some (o ++ l)
  | [],d,o,_,_=>by
    cases d <;> simp[pRules,ruTs]
  | x :: l,d,o,h,hd=>by
    obtain⟨d,rfl⟩ : ∃ m,d=m+1:=⟨d - 1,by simp only[List.length_cons]at hd;omega⟩
    have ih:=rulesU l d (o ++ [x]) (fun y hy=>h y (List.mem_cons_of_mem _ hy)) (by simp only[List.length_cons]at hd;omega)
    have e:pRules (d+1) o (ruTs (x :: l))=(pRule (ruT x ++ ruTs l)).bind fun q=>pRules d (o ++ [q.1]) q.2:=rfl
    rw[e,ruleU x (h x List.mem_cons_self),Option.bind_some]
    dsimp only
    rw[ih,List.append_assoc]
    rfl
theorem ruTs_len: ∀ l:List S50,l.length≤(ruTs l).length
  | []=>Nat.zero_le _
  | x :: l=>by
    have h1:=ruT_len x
    have h2:=ruTs_len l
    simp only[ruTs,List.length_append,List.length_cons]
    omega
theorem polU (a b c:Int) (l:List S50) (hb:0≤b∧b≤5) (h: ∀ x ∈ l,RuleR x.f0 x.f1 x.f2 x.f3):pPolicy (poT a b c l)=some (a,b,c,l):=by
  unfold pPolicy poT
  rw[takeN,Option.bind_some,numU,Option.bind_some,takeM,Option.bind_some,takeN,Option.bind_some,actU b c hb,Option.bind_some,takeM,Option.bind_some,rulesU l _ [] h (ruTs_len l)]
  rfl
/-- What is shown of a policy is read as this policy. -/
theorem readBack (a b c:Int) (l:List S50) (hn:l.length≤4611686018427387904) (hl: ∀ y ∈ l,y.f0.length≤4611686018427387904∧y.f1.length≤4611686018427387904) (s:ByteArray) (hs:s.size≤1200) (hT:Tx (poT a b c l) s) (hp:Evt (fun k=>AZ.f k a b c l) true):Evt (fun k=>AY.f k s) (a,b,c,l,true):=by
  obtain⟨K,g⟩:=hp
  obtain⟨_,⟨hb,_⟩,_,hr⟩:=pol_inv a b c l hn hl (g K (Nat.le_refl _))
  obtain⟨ys,e,hL⟩:=signs_txt hT hs
  have:=hL.eq
  subst this
  obtain⟨R,_,h2,hF⟩:=readB s
  have e2:pText s=some (a,b,c,l):=by
    unfold pText
    rw[e]
    exact polU a b c l hb hr
  rw[hF.1 a b c l e2 ⟨K,g⟩]at h2
  exact h2
theorem and255 (x:Int):0≤Go.bits .and .i64 x 255∧Go.bits .and .i64 x 255≤255:=by
  have h:((BitVec.ofInt IntKind.i64.bits x) &&& (BitVec.ofInt IntKind.i64.bits 255)).toNat≤255:=by
    rw[BitVec.toNat_and]
    exact Nat.le_trans Nat.and_le_right (by decide)
  have e:Go.bits .and .i64 x 255=IntKind.i64.wrap ((((BitVec.ofInt IntKind.i64.bits x) &&& (BitVec.ofInt IntKind.i64.bits 255)).toNat:Nat):Int):=rfl
  rw[e,IntKind.wrap_i64]
  omega
theorem byte {s:List Int} (hs:s.length≤1048576) (p e:Int) (hp:0≤p): ∃ b p' e',A9.f s p e=some (b,p',e')∧(0≤b∧b≤255)∧0≤p':=by
  unfold A9.f
  by_cases h:p<(s.length:Int)
  · rw[if_pos h,if_pos hp]
    exact⟨_,_,_,rfl,and255 _,by rw[w64 (by omega) (by omega)];omega⟩
  · rw[if_neg h]
    exact⟨_,_,_,rfl,and255 _,hp⟩
theorem below {s:List Int} (hs:s.length≤1048576) (p e:Int) (hp:0≤p) (n:Int) (h1:1≤n) (h2:n≤256): ∃ r p' e',AG.f s p e n=some (r,p',e')∧(0≤r∧r<n)∧0≤p':=by
  obtain⟨b,p',e',hb,hr,hp'⟩:=byte hs p e hp
  unfold AG.f
  rw[if_neg (by omega),if_pos h2,hb]
  simp only[Option.bind_some]
  rw[if_neg (by omega)]
  refine⟨_,_,_,rfl,?_,hp'⟩
  rw[Int.tmod_eq_emod_of_nonneg hr.1]
  exact⟨Int.emod_nonneg _ (by omega),Int.emod_lt_of_pos _ (by omega)⟩
theorem once {s:List Int} (hs:s.length≤1048576) (p e:Int) (hp:0≤p) (n:Int) (h1:1≤n) (h2:n≤256): ∃ r p' e',A7.f s p e n=some (r,p',e')∧0≤p':=by
  obtain⟨r,p',e',h,_,hp'⟩:=below hs p e hp n h1 h2
  exact⟨_,p',e',by unfold A7.f;rw[h];rfl,hp'⟩
theorem pick {s:List Int} (hs:s.length≤1048576) (p e:Int) (hp:0≤p) (l:List Int) (h1:1≤(l.length:Int)) (h2:(l.length:Int)≤256): ∃ v p' e',A6.f s p e l=some (v,p',e')∧v ∈ l∧0≤p':=by
  obtain⟨r,p',e',h,hr,hp'⟩:=below hs p e hp _ h1 h2
  refine⟨rd l r,p',e',by unfold A6.f;rw[h];simp only[Option.bind_some];rw[if_pos hr.1,if_pos hr.2],?_,hp'⟩
  obtain⟨i,rfl⟩:=Int.eq_ofNat_of_zero_le hr.1
  have hi:i<l.length:=by omega
  have e:rd l (i:Int)=l[i]:=getD_lt _ hi
  rw[e]
  exact List.getElem_mem hi
theorem half {s:List Int} (hs:s.length≤1048576) (p e:Int) (hp:0≤p): ∃ v p' e',BS.f s p e=some (v,p',e')∧(0≤v∧v≤4294967295)∧0≤p':=by
  obtain⟨r,p1,e1,h,hr,hp1⟩:=below hs p e hp 12 (by omega) (by omega)
  obtain⟨v,p2,e2,g,hv,hp2⟩:=pick hs p1 e1 hp1 [0,1,2,3,5,7,255,4294967295,2147483648,r] (by simp) (by simp)
  refine⟨v,p2,e2,by unfold BS.f;rw[h];simp only[Option.bind_some];rw[g];rfl,?_,hp2⟩
  simp only[List.mem_cons,List.not_mem_nil,or_false]at hv
  omega
theorem wide {s:List Int} (hs:s.length≤1048576) (p e:Int) (hp:0≤p): ∃ a b p' e',BN.f s p e=some (a,b,p',e')∧((0≤a∧a≤4294967295)∧(0≤b∧b≤4294967295))∧0≤p':=by
  obtain⟨r,p1,e1,h,hr,hp1⟩:=half hs p e hp
  obtain⟨b,p2,e2,g,hp2⟩:=once hs p1 e1 hp1 3 (by omega) (by omega)
  unfold BN.f
  rw[h]
  simp only[Option.bind_some]
  rw[g]
  simp only[Option.bind_some]
  cases b with
  | true=>
    obtain⟨q,p3,e3,f,hq,hp3⟩:=half hs p2 e2 hp2
    rw[if_pos rfl,f]
    exact⟨_,_,_,_,rfl,⟨hq,hr⟩,hp3⟩
  | false=>
    rw[if_neg (by simp)]
    exact⟨_,_,_,_,rfl,⟨by omega,hr⟩,hp2⟩
theorem drawCond {s:List Int} (hs:s.length≤1048576) (p e:Int) (hp:0≤p): ∃ a b c d f g p' e',Bh.f s p e=some (a,b,c,d,f,g,p',e')∧((0≤a∧a≤2)∧((0≤b∧b≤4294967295)∧(0≤c∧c≤4294967295))∧((0≤f∧f≤4294967295)∧(0≤g∧g≤4294967295))∧1≤d∧d≤6)∧0≤p':=by
  obtain⟨a,p1,e1,h1,ha,hp1⟩:=below hs p e hp 3 (by omega) (by omega)
  obtain⟨d,p2,e2,h2,hd,hp2⟩:=below hs p1 e1 hp1 6 (by omega) (by omega)
  obtain⟨f,g,p3,e3,h3,hf,hp3⟩:=wide hs p2 e2 hp2
  obtain⟨o,p4,e4,h4,hp4⟩:=once hs p3 e3 hp3 3 (by omega) (by omega)
  have ed:wrap64 (1+d)=1+d:=w64 (by omega) (by omega)
  unfold Bh.f
  rw[h1]
  simp only[Option.bind_some]
  rw[h2]
  simp only[Option.bind_some]
  rw[h3]
  simp only[Option.bind_some]
  rw[h4]
  simp only[Option.bind_some,ed]
  cases o with
  | true=>
    obtain⟨b,c,p5,e5,h5,hb,hp5⟩:=wide hs p4 e4 hp4
    rw[if_pos rfl,h5]
    exact⟨_,_,_,_,_,_,_,_,rfl,⟨by omega,hb,hf,by omega⟩,hp5⟩
  | false=>
    rw[if_neg (by simp)]
    exact⟨_,_,_,_,_,_,_,_,rfl,⟨by omega,⟨by omega,by omega⟩,hf,by omega⟩,hp4⟩
theorem newC (l:List Int) (hl:l.length≤1048576): ∃ e,Evt (fun k=>Ah.f k l) (l,0,e):=by
  have key: ∀ (d i:Nat) (e:Int),i+d=l.length→∃ e',Evt (fun k=>Ah.l0 k l e (i:Int)) (l,0,e'):=by
    intro d
    induction d with
    | zero=>
      intro i e h
      exact⟨e,.succ (.const fun k=>by simp only[Ah.l0];rw[if_neg (by omega)])⟩
    | succ d ih=>
      intro i e h
      by_cases h4:(i:Int)<4000
      · obtain⟨e',K,hK⟩:=ih (i+1) (Go.bits .and .i64 (wrap64 ((wrap64 ((wrap64 (e*131))+(wrap64 (rd l (i:Int)))))+7)) 1073741823) (by omega)
        refine⟨e',.succ ⟨K,fun k hk=>?_⟩⟩
        simp only[Ah.l0]
        rw[if_pos (by omega),if_pos h4,if_pos (by omega),wsucc (show i<l.length by omega) (by omega)]
        exact hK k hk
      · exact⟨e,.succ (.const fun k=>by simp only[Ah.l0];rw[if_pos (by omega),if_neg h4])⟩
  exact key l.length 0 _ (by omega)
theorem nums_up {x:List Int} {t v:Int} (h:NumsR x) (ht: ∀ i (hi:i<x.length),x[i]<t) (hv:t≤v) (h0:0≤v) (h1:v≤4294967295):NumsR (x ++ [v]):=by
  refine⟨fun i hi=>?_,fun i hi=>?_⟩
  · rw[List.getElem_append]
    split
    · exact h.1 i _
    · simp only[List.getElem_singleton]
      exact⟨h0,h1⟩
  · rw[List.getElem_append,List.getElem_append]
    rw[List.length_append,List.length_singleton]at hi
    have h2:i<x.length:=by omega
    rw[dif_pos h2]
    split
    · rename_i h3
      exact h.2 i h3
    · simp only[List.getElem_singleton]
      have:=ht i h2
      omega
theorem madeR_l1 {s:List Int} (hs:s.length≤1048576) (nums:List Int) (a b:Int): ∀ (d i:Nat) (p e:Int) (l:List S54),i+d=3→0≤p→l.length=i→i≤2→(∀ y ∈ l,CondR y)→∃ R p' e',Evt (fun k=>AP.l1 k (i:Int) s p e nums l a b) (nums,R,a,b,p',e')∧R.length≤2∧(∀ y ∈ R,CondR y)∧0≤p':=by
  intro d
  induction d with
  | zero=>
    intro i p e l hi hp hl hi2
    omega
  | succ d ih=>
    intro i p e l hi hp hl hi2 hc
    obtain⟨r,p1,e1,h1,hr,hp1⟩:=below hs p e hp 3 (by omega) (by omega)
    by_cases hlt:(i:Int)<r
    · obtain⟨a1,b1,c1,d1,f1,g1,p2,e2,h2,hw,hp2⟩:=drawCond hs p1 e1 hp1
      obtain⟨R,p',e',⟨K,h⟩,hR,hcR,hp'⟩:=ih (i+1) p2 e2 (l ++ [⟨a1,⟨b1,c1⟩,d1,⟨f1,g1⟩⟩]) (by omega) hp2 (by simp;omega) (by omega) (fun y hy=>by
        rcases List.mem_append.1 hy with hy|hy
        · exact hc y hy
        · rw[List.mem_singleton]at hy
          subst hy
          exact hw)
      refine⟨R,p',e',.succ ⟨K,fun k hk=>?_⟩,hR,hcR,hp'⟩
      have q:=h k hk
      simp only[AP.l1,h1,Option.bind_some]
      rw[if_pos hlt]
      simp only[h2,Option.bind_some]
      rw[if_pos (by omega),wsucc (show i<3 by omega) (by omega)]
      exact q
    · refine⟨l,p1,e1,.succ (.const fun k=>?_),by omega,hc,hp1⟩
      simp only[AP.l1,h1,Option.bind_some]
      rw[if_neg hlt]
theorem madeR_l0 {s:List Int} (hs:s.length≤1048576) (n:Int) (hn:n≤2) (a b:Int): ∀ (d i:Nat) (t p e:Int) (nums:List Int),i+d=3→0≤p→nums.length=i→NumsR nums→(∀ j (hj:j<nums.length),nums[j]<t)→0≤t→t≤3*i→∃ N R p' e',Evt (fun k=>AP.l0 k n t (i:Int) s p e nums a b) (N,R,a,b,p',e')∧NumsR N∧N.length≤3∧R.length≤2∧(∀ y ∈ R,CondR y)∧0≤p':=by
  have fin: ∀ (t p e:Int) (i:Nat) (nums:List Int),¬ (i:Int)<n→0≤p→nums.length≤3→NumsR nums→∃ N R p' e',Evt (fun k=>AP.l0 k n t (i:Int) s p e nums a b) (N,R,a,b,p',e')∧NumsR N∧N.length≤3∧R.length≤2∧(∀ y ∈ R,CondR y)∧0≤p':=fun t p e i nums hi hp hm hN=>by
    obtain⟨R,p',e',⟨K,h⟩,hR,hc,hp'⟩:=madeR_l1 hs nums a b 3 0 p e [] (by omega) hp rfl (by omega) (fun y hy=>by simp at hy)
    refine⟨nums,R,p',e',.succ ⟨K,fun k hk=>?_⟩,hN,hm,hR,hc,hp'⟩
    have q:=h k hk
    simp only[AP.l0]
    rw[if_neg hi]
    exact q
  intro d
  induction d with
  | zero=>
    intro i t p e nums hi hp hm hN ht h0 h3
    exact fin t p e i nums (by omega) hp (by omega) hN
  | succ d ih=>
    intro i t p e nums hi hp hm hN ht h0 h3
    by_cases hc:(i:Int)<n
    · obtain⟨r,p1,e1,h1,hr,hp1⟩:=below hs p e hp 3 (by omega) (by omega)
      have et:Aside0 (wrap64 ((wrap64 (t+1))+r)=t+1+r):=⟨by rw[w64 (x:=t+1) (by omega) (by omega),w64 (by omega) (by omega)]⟩
      have ev:Aside0 (wrap64 (t+1+r - 1)=t+r):=⟨by rw[w64 (by omega) (by omega)];omega⟩
      obtain⟨N,R,p',e',⟨K,h⟩,hN'⟩:=ih (i+1) (t+1+r) p1 e1 (nums ++ [t+r]) (by omega) hp1 (by simp;omega) (nums_up hN ht (by omega) (by omega) (by omega)) (fun j hj=>by
        rw[List.getElem_append]
        split
        · have:=ht j ‹_›
          omega
        · simp only[List.getElem_singleton]
          omega) (by omega) (by omega)
      refine⟨N,R,p',e',.succ ⟨K,fun k hk=>?_⟩,hN'⟩
      have q:=h k hk
      simp only[AP.l0]
      rw[if_pos hc]
      simp only[h1,Option.bind_some]
      rw[if_pos (by omega),et.out,ev.out,wsucc (show i<3 by omega) (by omega)]
      exact q
    · exact fin t p e i nums hc hp (by omega) hN
theorem madeR_j0 {s:List Int} (hs:s.length≤1048576) (p e a b:Int) (hp:0≤p): ∃ N R p' e',Evt (fun k=>AP.j0 k s p e a b) (N,R,a,b,p',e')∧NumsR N∧N.length≤3∧R.length≤2∧(∀ y ∈ R,CondR y)∧0≤p':=by
  obtain⟨r,p1,e1,h1,hr,hp1⟩:=below hs p e hp 4 (by omega) (by omega)
  have er:wrap64 (r - 1)=r - 1:=w64 (by omega) (by omega)
  obtain⟨N,R,p',e',⟨K,h⟩,hN⟩:=madeR_l0 hs (r - 1) (by omega) a b 3 0 0 p1 e1 [] (by omega) hp1 rfl ⟨fun i hi=>absurd hi (by simp),fun i hi=>absurd hi (by simp)⟩ (fun j hj=>absurd hj (by simp)) (by omega) (by omega)
  refine⟨N,R,p',e',.succ ⟨K,fun k hk=>?_⟩,hN⟩
  have q:=h k hk
  simp only[AP.j0,h1,Option.bind_some,er]
  exact q
/-- A drawn rule is right. -/
theorem madeR {s:List Int} (hs:s.length≤1048576) (p e:Int) (hp:0≤p): ∃ N R a b p' e',Evt (fun k=>AP.f k s p e) (N,R,a,b,p',e')∧RuleR N R a b∧N.length≤3∧R.length≤2∧0≤p':=by
  obtain⟨a,p1,e1,h1,ha,hp1⟩:=pick hs p e hp [0,1,2,3,4,4,5] (by simp) (by simp)
  simp only[List.mem_cons,List.not_mem_nil,or_false]at ha
  by_cases h2:a=2
  · obtain⟨b,p2,e2,g1,hb,hp2⟩:=pick hs p1 e1 hp1 [1,13,65535] (by simp) (by simp)
    simp only[List.mem_cons,List.not_mem_nil,or_false]at hb
    obtain⟨N,R,p',e',⟨K,h⟩,hN,hN3,hR,hc,hp'⟩:=madeR_j0 hs p2 e2 a b hp2
    refine⟨N,R,a,b,p',e',⟨K,fun k hk=>?_⟩,⟨hN,hc,by omega,by omega,by omega,by omega⟩,hN3,hR,hp'⟩
    have q:=h k hk
    simp only[AP.f,h1,Option.bind_some]
    rw[if_pos h2]
    simp only[g1,Option.bind_some]
    exact q
  · obtain⟨N,R,p',e',⟨K,h⟩,hN,hN3,hR,hc,hp'⟩:=madeR_j0 hs p1 e1 a 0 hp1
    refine⟨N,R,a,0,p',e',⟨K,fun k hk=>?_⟩,⟨hN,hc,by omega,by omega,by omega,by omega⟩,hN3,hR,hp'⟩
    have q:=h k hk
    simp only[AP.f,h1,Option.bind_some]
    rw[if_neg h2]
    exact q
/-- A drawn call is right. -/
def WideR (y:S52):Prop:=(0≤y.f0∧y.f0≤4294967295)∧(0≤y.f1∧y.f1≤4294967295)
theorem callR_l0 {s:List Int} (hs:s.length≤1048576) (a b:Int): ∀ (d i:Nat) (p e:Int) (w:List S52),i+d=3→0≤p→w.length=i→(∀ y ∈ w,WideR y)→∃ W p' e',Evt (fun k=>BA.l0 k (i:Int) s p e a b w) (a,b,W,p',e')∧W.length=3∧(∀ y ∈ W,WideR y)∧0≤p':=by
  intro d
  induction d with
  | zero=>
    intro i p e w hi hp hw hc
    refine⟨w,p,e,.succ (.const fun k=>?_),by omega,hc,hp⟩
    simp only[BA.l0]
    rw[if_neg (by omega)]
  | succ d ih=>
    intro i p e w hi hp hw hc
    obtain⟨x,y,p1,e1,h1,hx,hp1⟩:=wide hs p e hp
    obtain⟨W,p',e',⟨K,h⟩,hW⟩:=ih (i+1) p1 e1 (w ++ [⟨x,y⟩]) (by omega) hp1 (by simp;omega) (fun z hz=>by
      rcases List.mem_append.1 hz with hz|hz
      · exact hc z hz
      · rw[List.mem_singleton]at hz
        subst hz
        exact hx)
    refine⟨W,p',e',.succ ⟨K,fun k hk=>?_⟩,hW⟩
    have q:=h k hk
    simp only[BA.l0,h1,Option.bind_some]
    rw[if_pos (by omega),if_pos (by omega),wsucc (show i<3 by omega) (by omega)]
    exact q
theorem callR {s:List Int} (hs:s.length≤1048576) (p e:Int) (hp:0≤p): ∃ a b W p' e',Evt (fun k=>BA.f k s p e) (a,b,W,p',e')∧((0≤a∧a≤4294967295)∧(0≤b∧b≤4294967295)∧W.length=3∧∀ y ∈ W,WideR y)∧0≤p':=by
  obtain⟨a,p1,e1,h1,ha,hp1⟩:=pick hs p e hp [62,62,62,62,3] (by simp) (by simp)
  obtain⟨b,p2,e2,h2,hb,hp2⟩:=pick hs p1 e1 hp1 [0,1,2,3,4,6,9,11,4294967295,77] (by simp) (by simp)
  simp only[List.mem_cons,List.not_mem_nil,or_false]at ha hb
  obtain⟨W,p',e',⟨K,h⟩,hW3,hW,hp'⟩:=callR_l0 hs a b 3 0 p2 e2 [] (by omega) hp2 rfl (fun y hy=>by simp at hy)
  refine⟨a,b,W,p',e',⟨K,fun k hk=>?_⟩,⟨by omega,by omega,hW3,hW⟩,hp'⟩
  have q:=h k hk
  simp only[BA.f,h1,h2,Option.bind_some]
  exact q
theorem polR_l0 {s:List Int} (hs:s.length≤1048576) (a b c:Int): ∀ (d i:Nat) (p e:Int) (l:List S50),i+d=5→0≤p→l.length=i→i≤4→(∀ y ∈ l,RuleR y.f0 y.f1 y.f2 y.f3∧y.f0.length≤3∧y.f1.length≤2)→∃ L p' e',Evt (fun k=>AN.l0 k (i:Int) s p e a b c l) (a,b,c,L,p',e')∧L.length≤4∧(∀ y ∈ L,RuleR y.f0 y.f1 y.f2 y.f3∧y.f0.length≤3∧y.f1.length≤2)∧0≤p':=by
  intro d
  induction d with
  | zero=>
    intro i p e l hi hp hl hi2
    omega
  | succ d ih=>
    intro i p e l hi hp hl hi2 hc
    obtain⟨r,p1,e1,h1,hr,hp1⟩:=below hs p e hp 5 (by omega) (by omega)
    by_cases hlt:(i:Int)<r
    · obtain⟨N,R,x,y,p2,e2,⟨K2,h2⟩,hw,hw3,hw2,hp2⟩:=madeR hs p1 e1 hp1
      obtain⟨L,p',e',⟨K,h⟩,hL,hcL,hp'⟩:=ih (i+1) p2 e2 (l ++ [⟨N,R,x,y⟩]) (by omega) hp2 (by simp;omega) (by omega) (fun z hz=>by
        rcases List.mem_append.1 hz with hz|hz
        · exact hc z hz
        · rw[List.mem_singleton]at hz
          subst hz
          exact⟨hw,hw3,hw2⟩)
      refine⟨L,p',e',.succ ⟨K+K2,fun k hk=>?_⟩,hL,hcL,hp'⟩
      have q:=h k (by omega)
      have q2:=h2 k (by omega)
      simp only[AN.l0,h1,Option.bind_some]
      rw[if_pos hlt]
      simp only[q2,Option.bind_some]
      rw[if_pos (by omega),wsucc (show i<5 by omega) (by omega)]
      exact q
    · refine⟨l,p1,e1,.succ (.const fun k=>?_),by omega,hc,hp1⟩
      simp only[AN.l0,h1,Option.bind_some]
      rw[if_neg hlt]
/-- A drawn policy is right. -/
theorem polR {s:List Int} (hs:s.length≤1048576) (p e:Int) (hp:0≤p): ∃ b c L p' e',Evt (fun k=>AN.f k s p e) (62,b,c,L,p',e')∧((0≤b∧b≤5)∧(0≤c∧c≤65535))∧L.length≤4∧(∀ y ∈ L,RuleR y.f0 y.f1 y.f2 y.f3∧y.f0.length≤3∧y.f1.length≤2)∧0≤p':=by
  obtain⟨b,p1,e1,h1,hb,hp1⟩:=pick hs p e hp [5,4,0,2] (by simp) (by simp)
  simp only[List.mem_cons,List.not_mem_nil,or_false]at hb
  have J: ∀ c:Int,(0≤c∧c≤65535)→∃ L p' e',Evt (fun k=>AN.j0 k s p1 e1 62 b c) (62,b,c,L,p',e')∧L.length≤4∧(∀ y ∈ L,RuleR y.f0 y.f1 y.f2 y.f3∧y.f0.length≤3∧y.f1.length≤2)∧0≤p':=fun c hc=>by
    obtain⟨L,p',e',⟨K,h⟩,hL⟩:=polR_l0 hs 62 b c 5 0 p1 e1 [] (by omega) hp1 rfl (by omega) (fun y hy=>by simp at hy)
    refine⟨L,p',e',.succ ⟨K,fun k hk=>?_⟩,hL⟩
    have q:=h k hk
    simp only[AN.j0]
    exact q
  by_cases h2:b=2
  · obtain⟨L,p',e',⟨K,h⟩,hL,hc,hp'⟩:=J 1 (by omega)
    refine⟨b,1,L,p',e',⟨K,fun k hk=>?_⟩,by omega,hL,hc,hp'⟩
    have q:=h k hk
    simp only[AN.f,h1,Option.bind_some]
    rw[if_pos h2]
    exact q
  · obtain⟨L,p',e',⟨K,h⟩,hL,hc,hp'⟩:=J 0 (by omega)
    refine⟨b,0,L,p',e',⟨K,fun k hk=>?_⟩,by omega,hL,hc,hp'⟩
    have q:=h k hk
    simp only[AN.f,h1,Option.bind_some]
    rw[if_neg h2]
    exact q
/-- Rules of some length. -/
def Len (l:List S50):Prop:=l.length≤20∧∀ y ∈ l,y.f0.length≤10∧y.f1.length≤10
theorem copyP_l0 (a b c a' b' c':Int) (l:List S50) (hl:Len l): ∀ (d i:Nat) (m:List S50),i+d=l.length→m=l.take i→Evt (fun k=>Al.l0 k (i:Int) a b c l a' b' c' m) (a',b',c',l):=by
  intro d
  induction d with
  | zero=>
    intro i m hi hm
    rw[List.take_of_length_le (by omega)]at hm
    subst hm
    refine .succ (.const fun k=>?_)
    simp only[Al.l0]
    rw[if_neg (by omega)]
  | succ d ih=>
    intro i m hi hm
    have hlt:i<l.length:=by omega
    obtain⟨b1,b2⟩:=hl.2 l[i] (List.getElem_mem hlt)
    have hl20:=hl.1
    obtain⟨K,hK⟩:=ih (i+1) (m ++ [l[i]]) (by omega) (by rw[hm,List.take_succ_eq_append_getElem hlt])
    have hml:m.length≤20:=by rw[hm,List.length_take];omega
    have e1:(([] :List Int) ++ l[i].f0)=l[i].f0:=List.nil_append _
    have e2:(([] :List S54) ++ l[i].f1)=l[i].f1:=List.nil_append _
    refine .succ ⟨K,fun k hk=>?_⟩
    have q:=hK k hk
    simp only[Al.l0,nrd_T50 l i hlt,Option.bind_some,e1,e2,List.length_nil,Nat.zero_add]
    rw[if_pos (by omega),if_pos (by omega),if_pos (by omega),if_pos (by omega),if_pos (by omega),wsucc hlt (by omega)]
    exact q
theorem copyP (a b c:Int) (l:List S50) (hl:Len l):Evt (fun k=>Al.f k a b c l) (a,b,c,l):=by
  obtain⟨K,hK⟩:=copyP_l0 a b c a b c l hl l.length 0 [] (by omega) rfl
  exact⟨K,fun k hk=>hK k hk⟩
/-- A drawn policy, right or not. -/
theorem anyP {s:List Int} (hs:s.length≤1048576) (p e:Int) (hp:0≤p): ∃ a b c L p' e',Evt (fun k=>Au.f k s p e) (a,b,c,L,p',e')∧Len L∧0≤p':=by
  obtain⟨t,p1,e1,h1,ht,hp1⟩:=below hs p e hp 12 (by omega) (by omega)
  obtain⟨y,p2,e2,h2,hy,hp2⟩:=below hs p1 e1 hp1 60 (by omega) (by omega)
  obtain⟨b,c,L,p3,e3,⟨K3,h3⟩,_,hL,hR,hp3⟩:=polR hs p2 e2 hp2
  have hLen:Len L:=⟨by omega,fun z hz=>by have:=(hR z hz).2;omega⟩
  obtain⟨K4,h4⟩:=copyP 62 b c L hLen
  have ey: ∀ n,0<n→Int.tmod y n=y % n:=fun n hn=>Int.tmod_eq_emod_of_nonneg hy.1
  have key: ∀ v:Int×Int×Int×List S50×Int×Int,Len v.2.2.2.1→v.2.2.2.2.1=p3→(∀ k,K3+K4≤k→Au.f k s p e=some v)→∃ a b c L p' e',Evt (fun k=>Au.f k s p e) (a,b,c,L,p',e')∧Len L∧0≤p':=fun v hv hp h=>⟨v.1,v.2.1,v.2.2.1,v.2.2.2.1,v.2.2.2.2.1,v.2.2.2.2.2,⟨K3+K4,h⟩,hv,by omega⟩
  have more: ∀ z:S50,z.f0.length≤10∧z.f1.length≤10→Len (L ++ [z]):=fun z hz=>⟨by simp;omega,fun u hu=>by
    rcases List.mem_append.1 hu with hu|hu
    · exact hLen.2 u hu
    · rw[List.mem_singleton]at hu
      subst hu
      exact hz⟩
  have base: ∀ k,K3+K4≤k→AN.f k s p2 e2=some (62,b,c,L,p3,e3)∧Al.f k 62 b c L=some (62,b,c,L):=fun k hk=>⟨h3 k (by omega),h4 k (by omega)⟩
  by_cases c0:t=0
  · refine key (rd [(-1),4294967296,0] (y % 3),b,c,L,p3,e3) hLen rfl fun k hk=>?_
    obtain⟨g1,g2⟩:=base k hk
    simp only[Au.f,h1,h2,g1,g2,Option.bind_some,ey 3 (by omega)]
    rw[if_pos c0,if_pos (by omega),if_pos (by show _<((3:Nat):Int);omega)]
  by_cases c1:t=1
  · refine key (62,y % 8,c,L,p3,e3) hLen rfl fun k hk=>?_
    obtain⟨g1,g2⟩:=base k hk
    simp only[Au.f,h1,h2,g1,g2,Option.bind_some,ey 8 (by omega)]
    rw[if_neg c0,if_pos c1]
  by_cases c2:t=2
  · refine key (62,b,c,L ++ [⟨[3,2],[],0,0⟩],p3,e3) (more _ ⟨by simp,by simp⟩) rfl fun k hk=>?_
    obtain⟨g1,g2⟩:=base k hk
    simp only[Au.f,h1,h2,g1,g2,Option.bind_some]
    rw[if_neg c0,if_neg c1,if_pos c2,if_pos (by omega)]
  by_cases c3:t=3
  · refine key (62,b,c,L ++ [⟨[],[⟨y % 5,⟨0,0⟩,y % 8,⟨0,0⟩⟩],0,0⟩],p3,e3) (more _ ⟨by simp,by simp⟩) rfl fun k hk=>?_
    obtain⟨g1,g2⟩:=base k hk
    simp only[Au.f,h1,h2,g1,g2,Option.bind_some,ey 5 (by omega),ey 8 (by omega)]
    rw[if_neg c0,if_neg c1,if_neg c2,if_pos c3,if_pos (by omega)]
  by_cases c4:t=4
  · have ew:wrap64 (10+y % 2)=10+y % 2:=w64 (by omega) (by omega)
    refine key (62,b,c,List.replicate (10+y % 2).toNat z50,p3,e3) ⟨by rw[List.length_replicate];omega,fun u hu=>by
      obtain⟨_,rfl⟩:=List.mem_replicate.1 hu
      exact⟨by simp[z50],by simp[z50]⟩⟩ rfl fun k hk=>?_
    obtain⟨g1,g2⟩:=base k hk
    simp only[Au.f,h1,h2,g1,g2,Option.bind_some,ey 2 (by omega),ew]
    rw[if_neg c0,if_neg c1,if_neg c2,if_neg c3,if_pos c4,if_pos (by omega),if_pos (by omega)]
  by_cases c5:t=5
  · refine key (62,b,65536,L,p3,e3) hLen rfl fun k hk=>?_
    obtain⟨g1,g2⟩:=base k hk
    simp only[Au.f,h1,h2,g1,g2,Option.bind_some]
    rw[if_neg c0,if_neg c1,if_neg c2,if_neg c3,if_neg c4,if_pos c5]
  · refine key (62,b,c,L,p3,e3) hLen rfl fun k hk=>?_
    obtain⟨g1,g2⟩:=base k hk
    simp only[Au.f,h1,h2,g1,g2,Option.bind_some]
    rw[if_neg c0,if_neg c1,if_neg c2,if_neg c3,if_neg c4,if_neg c5]
/-- Two rows of numbers: both ask the same. -/
theorem same_n (x y:List Int) (hx:x.length≤4611686018427387904): ∃ b,Evt (fun k=>AW.f k x y) b∧Evt (fun k=>Ap.f k x y) b:=by
  by_cases hl:(x.length:Int)=(y.length:Int)
  · have key:=down (T:=fun i=> ∃ b,Evt (fun k=>AW.l0 k x y (i:Int)) b∧Evt (fun k=>Ap.l0 k x y (x.length:Int) (i:Int)) b) (n:=x.length) ?_ ?_ x.length 0 (by omega)
    · obtain⟨b,h1,h2⟩:=key
      exact⟨b,h1.congr fun k=>by simp only[AW.f];rw[if_pos hl];rfl,h2.congr fun k=>by simp only[Ap.f];rw[if_pos hl];rfl⟩
    · refine⟨true,.succ (.const fun k=>?_),.succ (.const fun k=>?_)⟩
      · simp only[AW.l0]
        rw[if_neg (by omega)]
      · simp only[Ap.l0]
        rw[if_neg (by omega)]
    · rintro i hi ⟨b,⟨K1,h1⟩,⟨K2,h2⟩⟩
      have hi2:i<y.length:=by omega
      dsimp only at h1 h2
      by_cases he:x[i]=y[i]
      · refine⟨b,.succ ⟨K1,fun k hk=>?_⟩,.succ ⟨K2,fun k hk=>?_⟩⟩
        · simp only[AW.l0]
          rw[if_pos (by omega),if_pos (by omega),if_pos (by omega),nrd x i hi,nrd y i hi2,if_pos he,wsucc hi (by omega)]
          exact h1 k hk
        · simp only[Ap.l0]
          rw[if_pos (by omega),if_pos (by omega),if_pos (by omega),if_pos (by omega),nrd x i hi,nrd y i hi2,if_pos he,wsucc hi (by omega)]
          exact h2 k hk
      · refine⟨false,.succ (.const fun k=>?_),.succ (.const fun k=>?_)⟩
        · simp only[AW.l0]
          rw[if_pos (by omega),if_pos (by omega),if_pos (by omega),nrd x i hi,nrd y i hi2,if_neg he]
        · simp only[Ap.l0]
          rw[if_pos (by omega),if_pos (by omega),if_pos (by omega),if_pos (by omega),nrd x i hi,nrd y i hi2,if_neg he]
  · exact⟨false,.const fun k=>by simp only[AW.f];rw[if_neg hl],.const fun k=>by simp only[Ap.f];rw[if_neg hl]⟩
/-- Two rows of conditions; the reference goes on with what follows. -/
theorem same_c (x y:List S54) (hx:x.length≤4611686018427387904) (hl:(x.length:Int)=(y.length:Int)) (j a b c:Int) (L:List S50) (a' b' c':Int) (M:List S50) (n:List Int) (p q:Int) (n':List Int) (p' q':Int) :
    ∃ t,Evt (fun k=>Av.f k x y) t∧(t=false→Evt (fun k=>AA.l1 k j 0 a b c L a' b' c' M n x p q n' y p' q') false)∧(t=true→∀ r,Evt (fun k=>AA.l0 k (wrap64 (j+1)) a b c L a' b' c' M) r→Evt (fun k=>AA.l1 k j 0 a b c L a' b' c' M n x p q n' y p' q') r):=by
  have key:=down (T:=fun i=> ∃ t,Evt (fun k=>Av.l0 k x y (x.length:Int) (i:Int)) t∧(t=false→Evt (fun k=>AA.l1 k j (i:Int) a b c L a' b' c' M n x p q n' y p' q') false)∧(t=true→∀ r,Evt (fun k=>AA.l0 k (wrap64 (j+1)) a b c L a' b' c' M) r→Evt (fun k=>AA.l1 k j (i:Int) a b c L a' b' c' M n x p q n' y p' q') r)) (n:=x.length) ?_ ?_ x.length 0 (by omega)
  · obtain⟨t,h1,h2⟩:=key
    exact⟨t,h1.congr fun k=>by simp only[Av.f];rw[if_pos hl];rfl,h2⟩
  · refine⟨true,.succ (.const fun k=>?_),fun h=>(by cases h),fun _ r ⟨K,h⟩=> .succ ⟨K,fun k hk=>?_⟩⟩
    · simp only[Av.l0]
      rw[if_neg (by omega)]
    · simp only[AA.l1]
      rw[if_neg (by omega)]
      exact h k hk
  · rintro i hi ⟨t,⟨K1,h1⟩,h2,h3⟩
    have hi2:i<y.length:=by omega
    dsimp only at h1
    cases he:(!(x[i].f0 == y[i].f0) || ((!(x[i].f1.f0 == y[i].f1.f0) || (!(x[i].f1.f1 == y[i].f1.f1))) || (!(x[i].f2 == y[i].f2) || ((!(x[i].f3.f0 == y[i].f3.f0) || (!(x[i].f3.f1 == y[i].f3.f1)))))))with
    | false=>
      refine⟨t,.succ ⟨K1,fun k hk=>?_⟩,fun ht=>?_,fun ht r hr=>?_⟩
      · simp only[Av.l0]
        rw[if_pos (by omega),if_pos (by omega),if_pos (by omega),if_pos (by omega),nrd_T54 x i hi,nrd_T54 y i hi2,he,if_neg (by decide),wsucc hi (by omega)]
        exact h1 k hk
      · obtain⟨K2,g⟩:=h2 ht
        refine .succ ⟨K2,fun k hk=>?_⟩
        simp only[AA.l1]
        rw[if_pos (by omega),if_pos (by omega),if_pos (by omega),nrd_T54 x i hi,nrd_T54 y i hi2,he,if_neg (by decide),wsucc hi (by omega)]
        exact g k hk
      · obtain⟨K2,g⟩:=h3 ht r hr
        refine .succ ⟨K2,fun k hk=>?_⟩
        simp only[AA.l1]
        rw[if_pos (by omega),if_pos (by omega),if_pos (by omega),nrd_T54 x i hi,nrd_T54 y i hi2,he,if_neg (by decide),wsucc hi (by omega)]
        exact g k hk
    | true=>
      refine⟨false,.succ (.const fun k=>?_),fun ht=> .succ (.const fun k=>?_),fun h=>(by cases h)⟩
      · simp only[Av.l0]
        rw[if_pos (by omega),if_pos (by omega),if_pos (by omega),if_pos (by omega),nrd_T54 x i hi,nrd_T54 y i hi2,he,if_pos rfl]
      · simp only[AA.l1]
        rw[if_pos (by omega),if_pos (by omega),if_pos (by omega),nrd_T54 x i hi,nrd_T54 y i hi2,he,if_pos rfl]
theorem samePolicy (a b c:Int) (L:List S50) (a' b' c':Int) (M:List S50) (hL:L.length≤4611686018427387904) (hB: ∀ y ∈ L,y.f0.length≤4611686018427387904∧y.f1.length≤4611686018427387904) :
    ∃ t,Evt (fun k=>AA.f k a b c L a' b' c' M) t∧Evt (fun k=>BE.f k a b c L a' b' c' M) t:=by
  by_cases h1:a=a'
  · by_cases h2:b=b'
    · by_cases h3:c=c'
      · by_cases hl:(L.length:Int)=(M.length:Int)
        · have key:=down (T:=fun i=> ∃ t,Evt (fun k=>AA.l0 k (i:Int) a b c L a' b' c' M) t∧Evt (fun k=>Am.l0 k M L (L.length:Int) (i:Int)) t) (n:=L.length) ?_ ?_ L.length 0 (by omega)
          · obtain⟨t,⟨K1,g1⟩,⟨K2,g2⟩⟩:=key
            have hne:((L.length:Int) !=(M.length:Int))=false:=by simp[hl]
            refine⟨t,⟨K1+1,fun k hk=>?_⟩,⟨K2,fun k hk=>?_⟩⟩
            · obtain⟨k,rfl⟩ : ∃ m,k=m+1:=⟨k - 1,by omega⟩
              simp only[AA.f]
              rw[if_pos h1,if_pos h2,if_pos h3,hne]
              simp only[AA.j0,Bool.false_eq_true,if_false]
              exact g1 k (by omega)
            · simp only[BE.f,Am.f]
              rw[if_pos h1,if_pos h2,if_pos h3,if_pos hl]
              rw[show Am.l0 k M L (L.length:Int) 0=some t from g2 k hk]
              rfl
          · refine⟨true,.succ (.const fun k=>?_),.succ (.const fun k=>?_)⟩
            · simp only[AA.l0]
              rw[if_neg (by omega)]
            · simp only[Am.l0]
              rw[if_neg (by omega)]
          · rintro i hi ⟨t,⟨K1,g1⟩,⟨K2,g2⟩⟩
            have hi2:i<M.length:=by omega
            have hb:=hB L[i] (List.getElem_mem hi)
            obtain⟨u,⟨K3,g3⟩,⟨K4,g4⟩⟩:=same_n L[i].f0 M[i].f0 hb.1
            dsimp only at g1 g2 g3 g4
            cases u with
            | false=>
              refine⟨false,.succ (.succ ⟨K3+1,fun k hk=>?_⟩),.succ ⟨K4,fun k hk=>?_⟩⟩
              · simp only[AA.l0]
                rw[if_pos (by omega),if_pos (by omega),if_pos (by omega),nrd_T50 L i hi,nrd_T50 M i hi2,g3 (k+1) (by omega)]
                simp only[Option.bind_some,Bool.false_eq_true,if_false,AA.j2,if_true]
              · simp only[Am.l0]
                rw[if_pos (by omega),if_pos (by omega),if_pos (by omega),if_pos (by omega),nrd_T50 L i hi,nrd_T50 M i hi2]
                simp only[BQ.f,g4 k (by omega),Option.bind_some,Bool.false_eq_true,if_false]
            | true=>
              by_cases hc:((L[i].f1.length:Int)=(M[i].f1.length:Int))
              · obtain⟨v,⟨K5,g5⟩,hF,hT⟩:=same_c L[i].f1 M[i].f1 hb.2 hc (i:Int) a b c L a' b' c' M L[i].f0 L[i].f2 L[i].f3 M[i].f0 M[i].f2 M[i].f3
                dsimp only at g5
                by_cases e2:L[i].f2=M[i].f2
                · by_cases e3:L[i].f3=M[i].f3
                  · cases v with
                    | false=>
                      obtain⟨K6,g6⟩:=hF rfl
                      dsimp only at g6
                      refine⟨false,.succ (.succ ⟨K3+K6,fun k hk=>?_⟩),.succ ⟨K4+K5,fun k hk=>?_⟩⟩
                      · simp only[AA.l0]
                        rw[if_pos (by omega),if_pos (by omega),if_pos (by omega),nrd_T50 L i hi,nrd_T50 M i hi2,g3 (k+1) (by omega)]
                        simp only[Option.bind_some,if_true,if_pos e2,if_pos e3,AA.j2]
                        rw[if_neg (by simp[hc])]
                        exact g6 k (by omega)
                      · simp only[Am.l0]
                        rw[if_pos (by omega),if_pos (by omega),if_pos (by omega),if_pos (by omega),nrd_T50 L i hi,nrd_T50 M i hi2]
                        simp only[BQ.f,g4 k (by omega),g5 k (by omega),Option.bind_some,Bool.false_eq_true,if_false,if_true]
                    | true=>
                      obtain⟨K6,g6⟩:=hT rfl t (by rw[wsucc hi (by omega)];exact⟨K1,g1⟩)
                      dsimp only at g6
                      refine⟨t,.succ (.succ ⟨K3+K6,fun k hk=>?_⟩),.succ ⟨K2+K4+K5,fun k hk=>?_⟩⟩
                      · simp only[AA.l0]
                        rw[if_pos (by omega),if_pos (by omega),if_pos (by omega),nrd_T50 L i hi,nrd_T50 M i hi2,g3 (k+1) (by omega)]
                        simp only[Option.bind_some,if_true,if_pos e2,if_pos e3,AA.j2]
                        rw[if_neg (by simp[hc])]
                        exact g6 k (by omega)
                      · simp only[Am.l0]
                        rw[if_pos (by omega),if_pos (by omega),if_pos (by omega),if_pos (by omega),nrd_T50 L i hi,nrd_T50 M i hi2]
                        simp only[BQ.f,g4 k (by omega),g5 k (by omega),Option.bind_some,if_true,if_pos e2]
                        rw[beq_iff_eq.2 e3,if_pos rfl,wsucc hi (by omega)]
                        exact g2 k (by omega)
                  · refine⟨false,.succ (.succ ⟨K3,fun k hk=>?_⟩),.succ ⟨K4+K5,fun k hk=>?_⟩⟩
                    · simp only[AA.l0]
                      rw[if_pos (by omega),if_pos (by omega),if_pos (by omega),nrd_T50 L i hi,nrd_T50 M i hi2,g3 (k+1) (by omega)]
                      simp only[Option.bind_some,if_true,if_pos e2,if_neg e3,AA.j2]
                    · simp only[Am.l0]
                      rw[if_pos (by omega),if_pos (by omega),if_pos (by omega),if_pos (by omega),nrd_T50 L i hi,nrd_T50 M i hi2]
                      simp only[BQ.f,g4 k (by omega),g5 k (by omega),Option.bind_some,if_true,if_pos e2]
                      rw[beq_eq_false_iff_ne.2 e3]
                      cases v <;> rfl
                · refine⟨false,.succ (.succ ⟨K3,fun k hk=>?_⟩),.succ ⟨K4+K5,fun k hk=>?_⟩⟩
                  · simp only[AA.l0]
                    rw[if_pos (by omega),if_pos (by omega),if_pos (by omega),nrd_T50 L i hi,nrd_T50 M i hi2,g3 (k+1) (by omega)]
                    simp only[Option.bind_some,if_true,if_neg e2,AA.j2]
                  · simp only[Am.l0]
                    rw[if_pos (by omega),if_pos (by omega),if_pos (by omega),if_pos (by omega),nrd_T50 L i hi,nrd_T50 M i hi2]
                    simp only[BQ.f,g4 k (by omega),g5 k (by omega),Option.bind_some,if_true,if_neg e2]
                    cases v <;> rfl
              · have hne:((L[i].f1.length:Int) !=(M[i].f1.length:Int))=true:=by simpa using hc
                refine⟨false,.succ (.succ ⟨K3,fun k hk=>?_⟩),.succ ⟨K4,fun k hk=>?_⟩⟩
                · simp only[AA.l0]
                  rw[if_pos (by omega),if_pos (by omega),if_pos (by omega),nrd_T50 L i hi,nrd_T50 M i hi2,g3 (k+1) (by omega)]
                  simp only[Option.bind_some,if_true,hne,AA.j2]
                  repeat' split
                  all_goals rfl
                · simp only[Am.l0]
                  rw[if_pos (by omega),if_pos (by omega),if_pos (by omega),if_pos (by omega),nrd_T50 L i hi,nrd_T50 M i hi2]
                  simp only[BQ.f,g4 k (by omega),Av.f,if_neg hc,Option.bind_some,if_true,Bool.false_eq_true,if_false]
        · have hne:((L.length:Int) !=(M.length:Int))=true:=by simpa using hl
          refine⟨false,.succ (.const fun k=>?_),.const fun k=>?_⟩
          · simp only[AA.f]
            rw[if_pos h1,if_pos h2,if_pos h3,hne]
            simp only[AA.j0,if_true]
          · simp only[BE.f,Am.f]
            rw[if_pos h1,if_pos h2,if_pos h3,if_neg hl]
            rfl
      · refine⟨false,.succ (.const fun k=>?_),.const fun k=>?_⟩
        · simp only[AA.f]
          rw[if_pos h1,if_pos h2,if_neg h3]
          simp only[AA.j0,if_true]
        · simp only[BE.f]
          rw[if_pos h1,if_pos h2,if_neg h3]
    · refine⟨false,.succ (.const fun k=>?_),.const fun k=>?_⟩
      · simp only[AA.f]
        rw[if_pos h1,if_neg h2]
        simp only[AA.j0,if_true]
      · simp only[BE.f]
        rw[if_pos h1,if_neg h2]
  · refine⟨false,.succ (.const fun k=>?_),.const fun k=>?_⟩
    · simp only[AA.f]
      rw[if_neg h1]
      simp only[AA.j0,if_true]
    · simp only[BE.f]
      rw[if_neg h1]
/-! A policy is the same as itself. -/
theorem sameN (x:List Int) (hx:x.length≤4611686018427387904):Evt (fun k=>AW.f k x x) true:=by
  have key:=down (T:=fun i=>Evt (fun k=>AW.l0 k x x (i:Int)) true) (n:=x.length) ?_ ?_ x.length 0 (by omega)
  · exact key.congr fun k=>by simp only[AW.f,if_true];rfl
  · refine .succ (.const fun k=>?_)
    simp only[AW.l0]
    rw[if_neg (by omega)]
  · rintro i hi ⟨K,h⟩
    refine .succ ⟨K,fun k hk=>?_⟩
    simp only[AW.l0]
    rw[if_pos (by omega),if_pos (by omega),if_pos (by omega),if_pos trivial,wsucc hi (by omega)]
    exact h k hk
theorem sameSelf (a b c:Int) (L:List S50) (hL:L.length≤4611686018427387904) (hB: ∀ y ∈ L,y.f0.length≤4611686018427387904∧y.f1.length≤4611686018427387904):Evt (fun k=>AA.f k a b c L a b c L) true:=by
  have key:=down (T:=fun i=>Evt (fun k=>AA.l0 k (i:Int) a b c L a b c L) true) (n:=L.length) ?_ ?_ L.length 0 (by omega)
  · obtain⟨K,h⟩:=key
    refine⟨K+1,fun k hk=>?_⟩
    obtain⟨k,rfl⟩ : ∃ m,k=m+1:=⟨k - 1,by omega⟩
    simp only[AA.f,bne_self_eq_false]
    rw[if_pos trivial,if_pos trivial,if_pos trivial]
    simp only[AA.j0,Bool.false_eq_true,if_false]
    exact h k (by omega)
  · refine .succ (.const fun k=>?_)
    simp only[AA.l0]
    rw[if_neg (by omega)]
  · rintro i hi ⟨K,h⟩
    have hb:=hB L[i] (List.getElem_mem hi)
    obtain⟨K2,h2⟩:=sameN L[i].f0 hb.1
    dsimp only at h h2
    have hc:=down (T:=fun m=>Evt (fun k=>AA.l1 k (i:Int) (m:Int) a b c L a b c L L[i].f0 L[i].f1 L[i].f2 L[i].f3 L[i].f0 L[i].f1 L[i].f2 L[i].f3) true) (n:=L[i].f1.length) ?_ ?_ L[i].f1.length 0 (by omega)
    · obtain⟨K3,h3⟩:=hc
      refine .succ (.succ ⟨K2+K3,fun k hk=>?_⟩)
      simp only[AA.l0]
      rw[if_pos (by omega),if_pos (by omega),if_pos (by omega),nrd_T50 L i hi,h2 (k+1) (by omega),Option.bind_some,if_pos rfl,if_pos trivial,if_pos trivial]
      simp only[bne_self_eq_false,AA.j2,Bool.false_eq_true,if_false]
      exact h3 k (by omega)
    · refine .succ ⟨K,fun k hk=>?_⟩
      simp only[AA.l1]
      rw[if_neg (by omega),wsucc hi (by omega)]
      exact h k hk
    · rintro m hm ⟨K3,h3⟩
      refine .succ ⟨K3,fun k hk=>?_⟩
      simp only[AA.l1]
      rw[if_pos (by omega),if_pos (by omega),if_pos (by omega),nrd_T54 _ m hm,if_neg (by simp),wsucc hm (by omega)]
      exact h3 k hk
/-! What is drawn. -/
theorem belowB {s:List Int} (hs:s.length≤1048576) (p e:Int) (hp:0≤p) (n:Int) (h1:1≤n) (h2:n≤1000000): ∃ r p' e',AG.f s p e n=some (r,p',e')∧(0≤r∧r<n)∧0≤p':=by
  by_cases h:n≤256
  · exact below hs p e hp n h1 h
  obtain⟨b1,p1,e1,g1,r1,hp1⟩:=byte hs p e hp
  obtain⟨b2,p2,e2,g2,r2,hp2⟩:=byte hs p1 e1 hp1
  obtain⟨b3,p3,e3,g3,r3,hp3⟩:=byte hs p2 e2 hp2
  obtain⟨b4,p4,e4,g4,r4,hp4⟩:=byte hs p3 e3 hp3
  have w: ∀ x:Int,0≤x→x≤5000000000→wrap64 x=x:=fun x a b=>w64 (by omega) (by omega)
  unfold AG.f
  rw[if_neg (by omega),if_neg h,g1]
  simp only[Option.bind_some]
  rw[g2]
  simp only[Option.bind_some]
  rw[g3]
  simp only[Option.bind_some]
  rw[g4]
  simp only[Option.bind_some]
  rw[if_neg (by omega),w (b1*16777216) (by omega) (by omega),w (b2*65536) (by omega) (by omega),w (b1*16777216+b2*65536) (by omega) (by omega),w (b3*256) (by omega) (by omega),w (b1*16777216+b2*65536+b3*256) (by omega) (by omega),w (b1*16777216+b2*65536+b3*256+b4) (by omega) (by omega)]
  refine⟨_,_,_,rfl,?_,hp4⟩
  rw[Int.tmod_eq_emod_of_nonneg (by omega)]
  exact⟨Int.emod_nonneg _ (by omega),Int.emod_lt_of_pos _ (by omega)⟩
theorem pickT {s:List Int} (hs:s.length≤1048576) (p e:Int) (hp:0≤p) (l:List ByteArray) (h1:1≤(l.length:Int)) (h2:(l.length:Int)≤256): ∃ v p' e',Bc.f s p e l=some (v,p',e')∧v ∈ l∧0≤p':=by
  obtain⟨r,p',e',h,hr,hp'⟩:=below hs p e hp _ h1 h2
  refine⟨rdOf ByteArray.empty l r,p',e',by unfold Bc.f;rw[h];simp only[Option.bind_some];rw[if_pos hr.1,if_pos hr.2],?_,hp'⟩
  obtain⟨i,rfl⟩:=Int.eq_ofNat_of_zero_le hr.1
  have hi:i<l.length:=by omega
  have e:rdOf ByteArray.empty l (i:Int)=l[i]:=getD_lt _ hi
  rw[e]
  exact List.getElem_mem hi
theorem text1 {s:List Int} (hs:s.length≤1048576) (p e:Int) (hp:0≤p): ∃ v p' e',Evt (fun k=>Ag.f k s p e 1) (v,p',e')∧v.size=1∧0≤p':=by
  obtain⟨b,p',e',hb,_,hp'⟩:=byte hs p e hp
  refine⟨strOfNums [b % 256],p',e',⟨3,fun k hk=>?_⟩,rfl,hp'⟩
  obtain⟨k,rfl⟩ : ∃ m,k=m+3:=⟨k - 3,by omega⟩
  simp only[Ag.f]
  rw[if_neg (by omega)]
  simp only[Ag.j0,Ag.l0]
  rw[if_pos (by omega),hb]
  simp only[Option.bind_some]
  rw[if_pos (by decide),if_neg (by rw[w64 (by omega) (by omega)];omega)]
  rfl
theorem spoilt {s:List Int} (hs:s.length≤1048576) (p e:Int) (hp:0≤p) (t:ByteArray) (ht:t.size≤10000): ∃ v p' e',Evt (fun k=>Ad.f k s p e t) (v,p',e'):=by
  obtain⟨r,p1,e1,h1,hr,hp1⟩:=below hs p e hp 12 (by omega) (by omega)
  obtain⟨u,p2,e2,⟨K2,h2⟩,zu,hp2⟩:=text1 hs p1 e1 hp1
  have sub: ∀ b:Bool,∃ v p' e',Evt (fun k=>Ad.j0 k t b s p1 e1) (v,p',e'):=fun b=>by
    cases b with
    | false=>exact⟨t,p1,e1,.succ (.const fun k=>by simp only[Ad.j0,Bool.false_eq_true,if_false])⟩
    | true=>
      by_cases hz:(t.size:Int)>0
      · obtain⟨i,p3,e3,h3,hi,hp3⟩:=belowB hs p1 e1 hp1 (t.size:Int) (by omega) (by omega)
        obtain⟨w,p4,e4,⟨K4,h4⟩,zw,hp4⟩:=text1 hs p3 e3 hp3
        have ew:Aside0 (wrap64 (i+1)=i+1):=⟨w64 (by omega) (by omega)⟩
        have z1:(t.extract 0 i.toNat).size≤10000:=by rw[ByteArray.size_extract];omega
        have z2:(t.extract (i+1).toNat t.size).size≤10000:=by rw[ByteArray.size_extract];omega
        refine⟨((t.extract 0 i.toNat) ++ w) ++ (t.extract (i+1).toNat t.size),p4,e4,.succ ⟨K4,fun k hk=>?_⟩⟩
        simp only[Ad.j0,if_true]
        rw[if_pos hz,h3]
        simp only[Option.bind_some]
        rw[if_pos hi.1,if_pos (by omega),show Ag.f k s p3 e3 1=_ from h4 k hk]
        simp only[Option.bind_some,ew.out]
        rw[if_pos (by omega),if_pos (by omega),if_pos (by omega),if_pos (by rw[ByteArray.size_append];omega)]
      · exact⟨t,p1,e1,.succ (.const fun k=>by
          simp only[Ad.j0,if_true]
          rw[if_neg hz])⟩
  by_cases h0:r=0
  · refine⟨t ++ u,p2,e2,K2,fun k hk=>?_⟩
    simp only[Ad.f,h1,Option.bind_some]
    rw[if_pos h0,show Ag.f k s p1 e1 1=_ from h2 k hk]
    simp only[Option.bind_some]
    rw[if_pos (by omega)]
  by_cases h9:r=1
  · have ew:wrap64 ((t.size:Int)+1)=(t.size:Int)+1:=w64 (by omega) (by omega)
    obtain⟨i,p3,e3,h3,hi,hp3⟩:=belowB hs p1 e1 hp1 ((t.size:Int)+1) (by omega) (by omega)
    refine⟨t.extract 0 i.toNat,p3,e3,.const fun k=>?_⟩
    simp only[Ad.f,h1,Option.bind_some]
    rw[if_neg h0,if_pos h9,ew,h3]
    simp only[Option.bind_some]
    rw[if_pos hi.1,if_pos (by omega)]
  by_cases h8:r=2
  · obtain⟨v,p',e',K,g⟩:=sub (r == 2)
    refine⟨v,p',e',K,fun k hk=>?_⟩
    simp only[Ad.f,h1,Option.bind_some]
    rw[if_neg h0,if_neg h9,if_pos h8]
    exact g k hk
  · obtain⟨v,p',e',K,g⟩:=sub (r == 3)
    refine⟨v,p',e',K,fun k hk=>?_⟩
    simp only[Ad.f,h1,Option.bind_some]
    rw[if_neg h0,if_neg h9,if_neg h8]
    exact g k hk
theorem text_ {s:List Int} (hs:s.length≤1048576) (p e:Int) (hp:0≤p): ∃ v p' e',Evt (fun k=>BH.f k s p e) (v,p',e')∧v.size≤2000∧0≤p':=by
  obtain⟨t,p1,e1,h1,hp1⟩:=once hs p e hp 3 (by omega) (by omega)
  cases t with
  | true=>
    have all: ∀ l:List ByteArray,(1≤(l.length:Int)∧(l.length:Int)≤256∧∀ v ∈ l,v.size≤2000)→∃ v p' e',(Bc.f s p1 e1 l).bind (fun b=>some (b.1,b.2.1,b.2.2))=some (v,p',e')∧v.size≤2000∧0≤p':=fun l ⟨a,b,c⟩=>by
      obtain⟨v,p2,e2,h2,hv,hp2⟩:=pickT hs p1 e1 hp1 l a b
      exact⟨v,p2,e2,by rw[h2];rfl,c v hv,hp2⟩
    have h0: ∀ k,BH.f k s p e=BH.f 0 s p e:=fun k=>by
      rw[BH.f,BH.f,h1,Option.bind_some,Option.bind_some,if_pos rfl,if_pos rfl]
    have key: ∃ v p' e',BH.f 0 s p e=some (v,p',e')∧v.size≤2000∧0≤p':=by
      rw[BH.f,h1,Option.bind_some,if_pos rfl]
      refine all _ ?_
      decide
    obtain⟨v,p',e',h2,h3⟩:=key
    exact⟨v,p',e',.const fun k=>(h0 k).trans h2,h3⟩
  | false=>
    obtain⟨b,c,L,p2,e2,⟨K2,h2⟩,_,hL,hR,hp2⟩:=polR hs p1 e1 hp1
    obtain⟨r,⟨K3,h3⟩,_,hz,_⟩:=show_ 62 b c L (by omega) (fun y hy=>⟨by have:=(hR y hy).2.1;omega,by have:=(hR y hy).2.2;omega⟩)
    dsimp only at h2 h3
    refine⟨r.1,p2,e2,⟨K2+K3,fun k hk=>?_⟩,by omega,hp2⟩
    simp only[BH.f,h1,Option.bind_some,Bool.false_eq_true,if_false,h2 k (by omega),h3 k (by omega)]
theorem drawRead (l:List Int) (hs:l.length≤1048576): ∃ v,Evt (fun k=>Be.f k l) v:=by
  obtain⟨e0,K0,h0⟩:=newC l hs
  obtain⟨r,p1,e1,h1,_,hp1⟩:=below hs 0 e0 (by omega) 6 (by omega) (by omega)
  obtain⟨v,p2,e2,⟨K2,h2⟩,hz,hp2⟩:=text_ hs p1 e1 hp1
  obtain⟨u,p3,e3,K3,h3⟩:=spoilt hs p2 e2 hp2 v (by omega)
  dsimp only at h0 h2 h3
  by_cases h:r=0
  · refine⟨u,K0+K2+K3,fun k hk=>?_⟩
    simp only[Be.f,h0 k (by omega),h1,h2 k (by omega),h3 k (by omega),Option.bind_some]
    rw[if_pos h]
  · refine⟨v,K0+K2+K3,fun k hk=>?_⟩
    simp only[Be.f,h0 k (by omega),h1,h2 k (by omega),Option.bind_some]
    rw[if_neg h]
theorem drawPol (l:List Int) (hs:l.length≤1048576): ∃ b c L d e W,Evt (fun k=>Bi.f k l) (62,b,c,L,d,e,W)∧Len L:=by
  obtain⟨e0,K0,h0⟩:=newC l hs
  obtain⟨b,c,L,p1,e1,⟨K1,h1⟩,_,hL,hR,hp1⟩:=polR hs 0 e0 (by omega)
  obtain⟨d,e,W,p2,e2,⟨K2,h2⟩,_,hp2⟩:=callR hs p1 e1 hp1
  dsimp only at h0 h1 h2
  refine⟨b,c,L,d,e,W,⟨K0+K1+K2,fun k hk=>?_⟩,by omega,fun y hy=>⟨by have:=(hR y hy).2.1;omega,by have:=(hR y hy).2.2;omega⟩⟩
  simp only[Bi.f,h0 k (by omega),h1 k (by omega),h2 k (by omega),Option.bind_some]
theorem drawShow (l:List Int) (hs:l.length≤1048576): ∃ a b c L,Evt (fun k=>Bq.f k l) (a,b,c,L)∧Len L:=by
  obtain⟨e0,K0,h0⟩:=newC l hs
  obtain⟨a,b,c,L,p1,e1,⟨K1,h1⟩,hL,_⟩:=anyP hs 0 e0 (by omega)
  dsimp only at h0 h1
  refine⟨a,b,c,L,⟨K0+K1,fun k hk=>?_⟩,hL⟩
  simp only[Bq.f,h0 k (by omega),h1 k (by omega),Option.bind_some]
theorem drawSame (l:List Int) (hs:l.length≤1048576): ∃ a b c L a' b' c' L',Evt (fun k=>Bf.f k l) (a,b,c,L,a',b',c',L')∧Len L∧Len L':=by
  obtain⟨e0,K0,h0⟩:=newC l hs
  obtain⟨a,b,c,L,p1,e1,⟨K1,h1⟩,hL,hp1⟩:=anyP hs 0 e0 (by omega)
  obtain⟨t,p2,e2,h2,hp2⟩:=once hs p1 e1 hp1 2 (by omega) (by omega)
  obtain⟨K3,h3⟩:=copyP a b c L hL
  obtain⟨a',b',c',L',p4,e4,⟨K4,h4⟩,hL',_⟩:=anyP hs p2 e2 hp2
  dsimp only at h0 h1 h3 h4
  cases t with
  | true=>
    refine⟨a,b,c,L,a,b,c,L,⟨K0+K1+K3,fun k hk=>?_⟩,hL,hL⟩
    simp only[Bf.f,h0 k (by omega),h1 k (by omega),h2,h3 k (by omega),Option.bind_some,if_true]
  | false=>
    refine⟨a,b,c,L,a',b',c',L',⟨K0+K1+K4,fun k hk=>?_⟩,hL,hL'⟩
    simp only[Bf.f,h0 k (by omega),h1 k (by omega),h2,h4 k (by omega),Option.bind_some,Bool.false_eq_true,if_false]
theorem Len.big {l:List S50} (h:Len l):l.length≤4611686018427387904∧∀ y ∈ l,y.f0.length≤4611686018427387904∧y.f1.length≤4611686018427387904:=⟨by have:=h.1;omega,fun y hy=>by have:=h.2 y hy;omega⟩
/-- What is shown is read again, and is the same. -/
theorem again (a b c:Int) (L:List S50) (hL:Len L) (r:ByteArray×Bool) (hr:r.1.size≤1200∧(r.2=true→Tx (poT a b c L) r.1∧Evt (fun k=>AZ.f k a b c L) true)): ∃ R,Evt (fun k=>AY.f k r.1) R∧(r.2=true→R=(a,b,c,L,true)):=by
  obtain⟨R,_,h2,_⟩:=readB r.1
  refine⟨R,h2,fun h=>?_⟩
  obtain⟨h3,h4⟩:=hr.2 h
  exact Evt.uniq h2 (readBack a b c L hL.big.1 hL.big.2 r.1 hr.1 h3 h4)
theorem main (l:List Int): ∃ k,AK.f k l=some true:=by
  by_cases hb:(l.length:Int)>1048576
  · refine⟨0,?_⟩
    simp only[AK.f,Bg.f,Option.bind_some,decide_eq_true hb,if_true]
  have hs:l.length≤1048576:=by omega
  -- the drawn right policy
  obtain⟨b,c,L,d,e,W,⟨K1,h1⟩,hL⟩:=drawPol l hs
  obtain⟨r1,_,⟨K2,h2⟩,hr1⟩:=show_ 62 b c L hL.big.1 hL.big.2
  obtain⟨X,⟨K3,h3⟩,hX⟩:=again 62 b c L hL r1 hr1
  -- the drawn text
  obtain⟨u,K4,h4⟩:=drawRead l hs
  obtain⟨Y,⟨K5,h5⟩,⟨K6,h6⟩,hF⟩:=readB u
  have hY:Len Y.2.2.2.1:=⟨by have:=hF.small.1;omega,fun y hy=>by have:=hF.small.2 y hy;omega⟩
  obtain⟨r2,_,⟨K7,h7⟩,hr2⟩:=show_ Y.1 Y.2.1 Y.2.2.1 Y.2.2.2.1 hY.big.1 hY.big.2
  obtain⟨Z,⟨K8,h8⟩,hZ⟩:=again Y.1 Y.2.1 Y.2.2.1 Y.2.2.2.1 hY r2 hr2
  -- two drawn ones, and one to show
  obtain⟨a1,b1,c1,L1,a2,b2,c2,L2,⟨K9,h9⟩,hL1,hL2⟩:=drawSame l hs
  obtain⟨a3,b3,c3,L3,⟨K10,h10⟩,hL3⟩:=drawShow l hs
  obtain⟨r3,⟨K11,h11⟩,⟨K12,h12⟩,_⟩:=show_ a3 b3 c3 L3 hL3.big.1 hL3.big.2
  -- what is the same
  obtain⟨K13,h13⟩:=sameSelf 62 b c L hL.big.1 hL.big.2
  obtain⟨K14,h14⟩:=sameSelf Y.1 Y.2.1 Y.2.2.1 Y.2.2.2.1 hY.big.1 hY.big.2
  obtain⟨t5,⟨K15,h15⟩,⟨K16,h16⟩⟩:=samePolicy a1 b1 c1 L1 a2 b2 c2 L2 hL1.big.1 hL1.big.2
  obtain⟨t6,h17,⟨K18,h18⟩⟩:=samePolicy 62 b c L 62 b c L hL.big.1 hL.big.2
  have:t6=true:=Evt.uniq h17 ⟨K13,h13⟩
  subst this
  dsimp only at h1 h2 h3 h4 h5 h6 h7 h8 h9 h10 h11 h12 h13 h14 h15 h16 h18
  obtain⟨k,hk⟩ : ∃ k,k=K1+K2+K3+K4+K5+K6+K7+K8+K9+K10+K11+K12+K13+K14+K15+K16+K18:=⟨_,rfl⟩
  have fin:AK.j0 (k+1) Y.2.2.2.2 Y.2.2.2.2 r3.1 r3.2 r3.1 r3.2 false 62 b c L Y.1 Y.2.1 Y.2.2.1 Y.2.2.2.1 Y.1 Y.2.1 Y.2.2.1 Y.2.2.2.1 a1 b1 c1 L1 a2 b2 c2 L2=some true:=by
    simp only[AK.j0,Bool.false_eq_true,if_false,beq_self_eq_true,if_true]
    rw[h14 k (by omega),Option.bind_some,if_pos rfl,h16 k (by omega),Option.bind_some,h15 k (by omega),Option.bind_some]
    simp only[beq_self_eq_true,if_true]
    rw[h18 k (by omega)]
    rfl
  have mid:(if Y.2.2.2.2=true then(if r2.2=true then(if Z.2.2.2.2=true then((AA.f (k+1) Z.1 Z.2.1 Z.2.2.1 Z.2.2.2.1 Y.1 Y.2.1 Y.2.2.1 Y.2.2.2.1).bind fun t=>(AK.j0 (k+1) Y.2.2.2.2 Y.2.2.2.2 r3.1 r3.2 r3.1 r3.2 (!t) 62 b c L Y.1 Y.2.1 Y.2.2.1 Y.2.2.2.1 Y.1 Y.2.1 Y.2.2.1 Y.2.2.2.1 a1 b1 c1 L1 a2 b2 c2 L2))else(AK.j0 (k+1) Y.2.2.2.2 Y.2.2.2.2 r3.1 r3.2 r3.1 r3.2 true 62 b c L Y.1 Y.2.1 Y.2.2.1 Y.2.2.2.1 Y.1 Y.2.1 Y.2.2.1 Y.2.2.2.1 a1 b1 c1 L1 a2 b2 c2 L2))else(AK.j0 (k+1) Y.2.2.2.2 Y.2.2.2.2 r3.1 r3.2 r3.1 r3.2 false 62 b c L Y.1 Y.2.1 Y.2.2.1 Y.2.2.2.1 Y.1 Y.2.1 Y.2.2.1 Y.2.2.2.1 a1 b1 c1 L1 a2 b2 c2 L2))else(AK.j0 (k+1) Y.2.2.2.2 Y.2.2.2.2 r3.1 r3.2 r3.1 r3.2 false 62 b c L Y.1 Y.2.1 Y.2.2.1 Y.2.2.2.1 Y.1 Y.2.1 Y.2.2.1 Y.2.2.2.1 a1 b1 c1 L1 a2 b2 c2 L2))=some true:=by
    by_cases q1:Y.2.2.2.2=true
    · rw[if_pos q1]
      by_cases q2:r2.2=true
      · rw[if_pos q2,hZ q2]
        dsimp only
        rw[if_pos rfl,h14 (k+1) (by omega),Option.bind_some]
        exact fin
      · rw[if_neg q2]
        exact fin
    · rw[if_neg q1]
      exact fin
  refine⟨k+1,?_⟩
  simp only[AK.f,Bg.f,Option.bind_some,decide_eq_false hb,Bool.false_eq_true,if_false]
  rw[h1 (k+1) (by omega),Option.bind_some,h2 (k+1) (by omega),Option.bind_some,h3 (k+1) (by omega),Option.bind_some,h4 (k+1) (by omega),Option.bind_some,h6 (k+1) (by omega),Option.bind_some,h5 (k+1) (by omega),Option.bind_some,h7 (k+1) (by omega),Option.bind_some,h8 (k+1) (by omega),Option.bind_some,h9 (k+1) (by omega),Option.bind_some,h10 (k+1) (by omega),Option.bind_some,h12 (k+1) (by omega),Option.bind_some,h11 (k+1) (by omega),Option.bind_some]
  by_cases q1:r1.2=true
  · rw[if_pos q1,hX q1]
    dsimp only
    rw[if_pos rfl,h13 (k+1) (by omega),Option.bind_some,if_pos rfl]
    exact mid
  · rw[if_neg q1]
    exact mid
end Go.Proofs.YtfhjjfibblcklaaGreat.PFnPolicies
end
