/- FnRingsTold: what a drawn ring, right or not, does is what the document tells. No conditions. -/
import Derived.Test.YtlgndgjbfjefpaaVWMore
import Derived.Test.YtlgndgjbfjefpaaPFnRingsToldy0
import Derived.Test.YtlgndgjbfjefpaaPFnRingsToldy1
import Derived.Test.YtlgndgjbfjefpaaPFnRingsToldy2
import Derived.Test.YtlgndgjbfjefpaaPFnRingsToldy3
import Derived.Test.YtlgndgjbfjefpaaPFnRingsToldy4
import Derived.Test.YtlgndgjbfjefpaaPFnRingsToldy5
import Derived.Test.YtlgndgjbfjefpaaPFnRingsToldy6
import Derived.Test.YtlgndgjbfjefpaaPFnRingsToldy7
import Derived.Test.YtlgndgjbfjefpaaPFnRingsToldy8
import Derived.Test.YtlgndgjbfjefpaaPFnRingsToldy9
import Derived.Test.YtlgndgjbfjefpaaPFnRingsToldy10
import Derived.Test.YtlgndgjbfjefpaaRows
import Derived.WalkKit
import Derived.ProofKit
import Derived.OpenShut
import Derived.ShutString
import Derived.ChangeOld
import Derived.Below
import Derived.SizedLaws
import Derived.Test.YtlgndgjbfjefpaaVWSized
section
/- Plain lemmas on numbers and lists for the pure statements: no program, no memory. -/
namespace Go.Proofs.YtlgndgjbfjefpaaW.PK
open Go Go.RowKit Go.Proofs.YtlgndgjbfjefpaaW.PrintWords
theorem w64 {x : Int} (h1 : -9223372036854775808 ≤ x) (h2 : x ≤ 9223372036854775807) : wrap64 x = x := by unfold wrap64; omega
theorem wsucc {i n : Nat} (h : i < n) (hn : n ≤ 9223372036854775807) : wrap64 ((i : Int) + 1) = ((i + 1 : Nat) : Int) := by unfold wrap64; omega
theorem getD_lt {α : Type} {xs : List α} {i : Nat} (z : α) (h : i < xs.length) : xs.getD ((i : Int)).toNat z = xs[i] := by
 rw [Int.toNat_natCast, List.getD_eq_getElem?_getD, List.getElem?_eq_getElem h]
 rfl
theorem take_succ_eq {α : Type} {xs ys : List α} {i : Nat} (hx : i < xs.length) (hy : i < ys.length) (h : xs.take i = ys.take i) (e : xs[i] = ys[i]) : xs.take (i + 1) = ys.take (i + 1) := by
 rw [List.take_succ_eq_append_getElem hx, List.take_succ_eq_append_getElem hy, h, e]
theorem take_set {α : Type} {xs : List α} {i : Nat} (v : α) : (xs.set i v).take i = xs.take i := by
 rw [List.take_set_of_le (Nat.le_refl _)]
/-- Rounds: a thing that is so from K rounds on. -/
theorem ev_of {α : Type} {g : Nat → Option α} {r : α} (K : Nat) (h : ∀ k, K ≤ k → g k = some r) : ∃ K, ∀ k, K ≤ k → g k = some r := ⟨K, h⟩
end Go.Proofs.YtlgndgjbfjefpaaW.PK
end
section
/- Values that a function comes to from some number of rounds on, and the loops over lists: plain lemmas. -/
namespace Go.Proofs.YtlgndgjbfjefpaaW.PK
open Go Go.RowKit Go.Proofs.YtlgndgjbfjefpaaW.PrintWords
def Evt {α : Type} (g : Nat → Option α) (v : α) : Prop := ∃ K, ∀ k, K ≤ k → g k = some v
theorem Evt.const {α : Type} {g : Nat → Option α} {v : α} (h : ∀ k, g k = some v) : Evt g v := ⟨0, fun k _ => h k⟩
theorem Evt.succ {α : Type} {g : Nat → Option α} {v : α} (h : Evt (fun k => g (k + 1)) v) : Evt g v := by
  obtain ⟨K, h⟩ := h
  refine ⟨K + 1, fun k hk => ?_⟩
  obtain ⟨k, rfl⟩ : ∃ m, k = m + 1 := ⟨k - 1, by omega⟩
  exact h k (by omega)
theorem Evt.bind {α β : Type} {g : Nat → Option α} {h : α → Nat → Option β} {a : α} {b : β} (h1 : Evt g a) (h2 : Evt (h a) b) : Evt (fun k => (g k).bind fun x => h x k) b := by
  obtain ⟨K1, h1⟩ := h1
  obtain ⟨K2, h2⟩ := h2
  refine ⟨K1 + K2, fun k hk => ?_⟩
  show (g k).bind _ = _
  rw [h1 k (by omega)]
  exact h2 k (by omega)
theorem Evt.congr {α : Type} {g g' : Nat → Option α} {v : α} (h : Evt g v) (e : ∀ k, g' k = g k) : Evt g' v := by
  obtain ⟨K, h⟩ := h
  exact ⟨K, fun k hk => (e k).trans (h k hk)⟩
theorem Evt.uniq {α : Type} {g : Nat → Option α} {v u : α} (h : Evt g v) (h' : Evt g u) : v = u := by
  obtain ⟨K, h⟩ := h
  obtain ⟨K', h'⟩ := h'
  exact Option.some.inj ((h (K + K') (by omega)).symm.trans (h' (K + K') (by omega)))
/-- There is a value. -/
def Tot {α : Type} (g : Nat → Option α) : Prop := ∃ v, Evt g v
theorem Tot.const {α : Type} {g : Nat → Option α} {v : α} (h : ∀ k, g k = some v) : Tot g := ⟨v, .const h⟩
theorem Tot.some {α : Type} {v : α} : Tot (fun _ => some v) := ⟨v, .const fun _ => rfl⟩
theorem Tot.succ {α : Type} {g : Nat → Option α} (h : Tot (fun k => g (k + 1))) : Tot g := by
  obtain ⟨v, h⟩ := h
  exact ⟨v, h.succ⟩
theorem Tot.bind {α β : Type} {g : Nat → Option α} {h : α → Nat → Option β} (h1 : Tot g) (h2 : ∀ a, Evt g a → Tot (h a)) : Tot (fun k => (g k).bind fun x => h x k) := by
  obtain ⟨a, h1⟩ := h1
  obtain ⟨b, h2⟩ := h2 a h1
  exact ⟨b, h1.bind h2⟩
theorem Tot.ite {α : Type} {c : Prop} [Decidable c] {g h : Nat → Option α} (h1 : c → Tot g) (h2 : ¬ c → Tot h) : Tot (fun k => if c then g k else h k) := by
  by_cases hc : c
  · simp only [if_pos hc]
    exact h1 hc
  · simp only [if_neg hc]
    exact h2 hc
theorem Tot.congr {α : Type} {g g' : Nat → Option α} (h : Tot g) (e : ∀ k, g' k = g k) : Tot g' := by
  obtain ⟨v, h⟩ := h
  exact ⟨v, h.congr e⟩
/-- Down from a list's end. -/
theorem down {T : Nat → Prop} {n : Nat} (h0 : T n) (h1 : ∀ i, i < n → T (i + 1) → T i) : ∀ d i, i + d = n → T i
  | 0, i, h => by
    have : i = n := by omega
    subst this
    exact h0
  | d + 1, i, h => h1 i (by omega) (down h0 h1 d (i + 1) (by omega))
/-- A loop that goes through. -/
theorem Evt.pass {β : Type} {F : Nat → Int → Option β} {n : Nat} {r : β} (h0 : Evt (fun k => F (k + 1) (n : Int)) r) (h1 : ∀ i : Nat, i < n → ∃ K, ∀ k, K ≤ k → F (k + 1) (i : Int) = F k ((i + 1 : Nat) : Int)) : Evt (fun k => F k 0) r :=
  down (T := fun i => Evt (fun k => F k (i : Int)) r) (n := n) (.succ h0) (fun i hi ih => by
    obtain ⟨K1, h1⟩ := h1 i hi
    obtain ⟨K2, h2⟩ := ih
    refine Evt.succ ⟨K1 + K2, fun k hk => ?_⟩
    show F (k + 1) (i : Int) = _
    rw [h1 k (by omega)]
    exact h2 k (by omega)) n 0 (by omega)
/-- A list copied, member by member. -/
theorem Evt.to {A B : Type} {F : Nat → List B → Int → Option (List B)} {x : List A} {conv : A → B} (h0 : ∀ k y, F (k + 1) y (x.length : Int) = some y)
    (h1 : ∀ (i : Nat) (h : i < x.length), ∃ K, ∀ k, K ≤ k → ∀ y : List B, y.length = x.length → F (k + 1) y (i : Int) = F k (y.set i (conv x[i])) ((i + 1 : Nat) : Int)) (y0 : List B) (hy0 : y0.length = x.length) : Evt (fun k => F k y0 0) (x.map conv) := by
  have key : ∀ y : List B, y.length = x.length → (∀ j, j < 0 → y[j]? = (x.map conv)[j]?) → Evt (fun k => F k y ((0 : Nat) : Int)) (x.map conv) := by
    have h := down (T := fun i => ∀ y : List B, y.length = x.length → (∀ j, j < i → y[j]? = (x.map conv)[j]?) → Evt (fun k => F k y (i : Int)) (x.map conv)) (n := x.length) ?_ ?_
    · exact h x.length 0 (by omega)
    · intro y hy hj
      refine .succ (.const fun k => (h0 k y).trans (congrArg some (List.ext_getElem? fun j => ?_)))
      rcases Nat.lt_or_ge j x.length with h | h
      · exact hj j h
      · rw [List.getElem?_eq_none (by omega), List.getElem?_eq_none (by rw [List.length_map]; omega)]
    · intro i hi ih y hy hj
      obtain ⟨K1, h1⟩ := h1 i hi
      obtain ⟨K2, h2⟩ := ih (y.set i (conv x[i])) (by rw [List.length_set]; exact hy) (fun j h => by
        rcases Nat.lt_or_ge j i with h3 | h3
        · rw [List.getElem?_set_ne (by omega)]
          exact hj j h3
        · have : j = i := by omega
          subst this
          rw [List.getElem?_set_self (by omega), List.getElem?_map, List.getElem?_eq_getElem hi]
          rfl)
      refine .succ ⟨K1 + K2, fun k hk => ?_⟩
      show F (k + 1) y (i : Int) = _
      rw [h1 k (by omega) y hy]
      exact h2 k (by omega)
  exact key y0 hy0 (fun j h => by omega)
/-- A measure that goes down a list. -/
theorem Evt.sz {F : Nat → Int → Int → Option Int} {n : Nat} {P : Nat → Prop} (h0 : ∀ k q, F (k + 1) q (n : Int) = some q)
    (h1 : ∀ i : Nat, i < n → ∀ q : Int, 0 ≤ q → q ≤ 1048576 → ∃ s : Int, s ≤ q ∧ (0 ≤ s → P i) ∧ ∃ K, ∀ k, K ≤ k → F (k + 1) q (i : Int) = if s < 0 then some (-1) else F k s ((i + 1 : Nat) : Int)) (q : Int) (hq : 0 ≤ q) (hq' : q ≤ 1048576) :
    ∃ s : Int, s ≤ q ∧ (0 ≤ s → ∀ i, i < n → P i) ∧ Evt (fun k => F k q 0) s := by
  have h := down (T := fun i => ∀ q : Int, 0 ≤ q → q ≤ 1048576 → ∃ s : Int, s ≤ q ∧ (0 ≤ s → ∀ j, i ≤ j → j < n → P j) ∧ Evt (fun k => F k q (i : Int)) s) (n := n) ?_ ?_ n 0 (by omega) q hq hq'
  · obtain ⟨s, a, b, c⟩ := h
    exact ⟨s, a, fun hs i hi => b hs i (by omega) hi, c⟩
  · intro q _ _
    exact ⟨q, Int.le_refl _, fun _ j h2 h3 => by omega, .succ (.const fun k => h0 k q)⟩
  · intro i hi ih q hq hq'
    obtain ⟨s, hs, hP, K, hK⟩ := h1 i hi q hq hq'
    by_cases hn : s < 0
    · refine ⟨-1, by omega, fun h => by omega, .succ ⟨K, fun k hk => ?_⟩⟩
      show F (k + 1) q (i : Int) = _
      rw [hK k hk, if_pos hn]
    · obtain ⟨u, hu, hU, K2, hK2⟩ := ih s (by omega) (by omega)
      refine ⟨u, by omega, fun h j h2 h3 => ?_, .succ ⟨K + K2, fun k hk => ?_⟩⟩
      · rcases Nat.lt_or_ge i j with h4 | h4
        · exact hU h j (by omega) h3
        · have : i = j := by omega
          subst this
          exact hP (by omega)
      · show F (k + 1) q (i : Int) = _
        rw [hK k (by omega), if_neg hn]
        exact hK2 k (by omega)
end Go.Proofs.YtlgndgjbfjefpaaW.PK
end
section
namespace Go.Proofs.Ytlgndgjbfjefpaa.PFnRingsTold
open Go.RowKit Go.Proofs.YtlgndgjbfjefpaaW.PrintWords Go.Proofs.YtlgndgjbfjefpaaW.PrintLast Go.Proofs.YtlgndgjbfjefpaaW.PrintMore Go.Proofs.YtlgndgjbfjefpaaW.Z
open Kd
theorem field28 (x:Option Addr) (n m:Nat) (b c d:Int) (w:World):Sem.run Try.prog (Instr.field 28 (.agg #[.slice x n m,.int .i64 b,.int .i64 c,.int .i64 d]) 1) w= .ok (.int .i64 b) w:=by
  have h:=Try.underlying28
  simp only[Instr.field,Go.underlying]
  go_simp
  rfl
attribute [local go_sem] field28 isS max2_int min2_int max_two min_two max_three min_three max_four min_four
set_option linter.unusedVariables false
set_option linter.unusedSimpArgs false
attribute [local go_sem high] eqA33
theorem qh11x0 {P:Prop} (h:P:=by exact⟨(blk_cell j.out 0).trans rfl,(blk_cell j.out 1).trans rfl,(blk_cell j.out 2).trans rfl,(blk_cell j.out 3).trans rfl,(blk_cell l.out 0).trans rfl,(blk_cell l.out 1).trans rfl,(blk_cell l.out 2).trans rfl,(blk_cell l.out 3).trans rfl,(blk_cell s.out 0).trans rfl,(blk_cell s.out 1).trans rfl,(blk_cell s.out 2).trans rfl,(blk_cell s.out 3).trans rfl,(blk_cell z.out 0).trans rfl,(blk_cell z.out 1).trans rfl,(blk_cell z.out 2).trans rfl,(blk_cell z.out 3).trans rfl,(blk_cell D.out 0).trans rfl,(blk_cell D.out 1).trans rfl,(blk_cell D.out 2).trans rfl,(blk_cell D.out 3).trans rfl,(blk_cell A.out 0).trans rfl,(blk_cell A.out 1).trans rfl,(blk_cell A.out 2).trans rfl,(blk_cell A.out 3).trans rfl,(blk_cell J.out 0).trans rfl,(blk_cell J.out 1).trans rfl,(blk_cell J.out 2).trans rfl,(blk_cell J.out 3).trans rfl,(blk_cell U.out 0).trans rfl,(blk_cell U.out 1).trans rfl,(blk_cell U.out 2).trans rfl,(blk_cell U.out 3).trans rfl,(blk_cell W.out 0).trans rfl,(blk_cell W.out 1).trans rfl,(blk_cell W.out 2).trans rfl,(blk_cell W.out 3).trans rfl⟩):P:=h
theorem qh11x1 {P:Prop} (h:P:=by exact⟨(blk_cell j.out 0).trans rfl,(blk_cell j.out 1).trans rfl,(blk_cell j.out 2).trans rfl,(blk_cell j.out 3).trans rfl,(blk_cell l.out 0).trans rfl,(blk_cell l.out 1).trans rfl,(blk_cell l.out 2).trans rfl,(blk_cell l.out 3).trans rfl,(blk_cell s.out 0).trans rfl,(blk_cell s.out 1).trans rfl,(blk_cell s.out 2).trans rfl,(blk_cell s.out 3).trans rfl,(blk_cell z.out 0).trans rfl,(blk_cell z.out 1).trans rfl,(blk_cell z.out 2).trans rfl,(blk_cell z.out 3).trans rfl,(blk_cell D.out 0).trans rfl,(blk_cell D.out 1).trans rfl,(blk_cell D.out 2).trans rfl,(blk_cell D.out 3).trans rfl,(blk_cell A.out 0).trans rfl,(blk_cell A.out 1).trans rfl,(blk_cell A.out 2).trans rfl,(blk_cell A.out 3).trans rfl,(blk_cell J.out 0).trans rfl,(blk_cell J.out 1).trans rfl,(blk_cell J.out 2).trans rfl,(blk_cell J.out 3).trans rfl,(blk_cell U.out 0).trans rfl,(blk_cell U.out 1).trans rfl,(blk_cell U.out 2).trans rfl,(blk_cell U.out 3).trans rfl⟩):P:=h
theorem qh11x2 {P:Prop} (h:P:=by exact⟨(blk_cell j.out 0).trans rfl,(blk_cell j.out 1).trans rfl,(blk_cell j.out 2).trans rfl,(blk_cell j.out 3).trans rfl,(blk_cell l.out 0).trans rfl,(blk_cell l.out 1).trans rfl,(blk_cell l.out 2).trans rfl,(blk_cell l.out 3).trans rfl,(blk_cell s.out 0).trans rfl,(blk_cell s.out 1).trans rfl,(blk_cell s.out 2).trans rfl,(blk_cell s.out 3).trans rfl,(blk_cell z.out 0).trans rfl,(blk_cell z.out 1).trans rfl,(blk_cell z.out 2).trans rfl,(blk_cell z.out 3).trans rfl,(blk_cell D.out 0).trans rfl,(blk_cell D.out 1).trans rfl,(blk_cell D.out 2).trans rfl,(blk_cell D.out 3).trans rfl,(blk_cell A.out 0).trans rfl,(blk_cell A.out 1).trans rfl,(blk_cell A.out 2).trans rfl,(blk_cell A.out 3).trans rfl,(blk_cell J.out 0).trans rfl,(blk_cell J.out 1).trans rfl,(blk_cell J.out 2).trans rfl,(blk_cell J.out 3).trans rfl⟩):P:=h
theorem qh11x3 {P:Prop} (h:P:=by exact⟨(blk_cell j.out 0).trans rfl,(blk_cell j.out 1).trans rfl,(blk_cell j.out 2).trans rfl,(blk_cell j.out 3).trans rfl,(blk_cell l.out 0).trans rfl,(blk_cell l.out 1).trans rfl,(blk_cell l.out 2).trans rfl,(blk_cell l.out 3).trans rfl,(blk_cell s.out 0).trans rfl,(blk_cell s.out 1).trans rfl,(blk_cell s.out 2).trans rfl,(blk_cell s.out 3).trans rfl,(blk_cell z.out 0).trans rfl,(blk_cell z.out 1).trans rfl,(blk_cell z.out 2).trans rfl,(blk_cell z.out 3).trans rfl,(blk_cell D.out 0).trans rfl,(blk_cell D.out 1).trans rfl,(blk_cell D.out 2).trans rfl,(blk_cell D.out 3).trans rfl⟩):P:=h
theorem qh11x4 {P:Prop} (h:P:=by exact⟨(blk_cell j.out 0).trans rfl,(blk_cell j.out 1).trans rfl,(blk_cell j.out 2).trans rfl,(blk_cell j.out 3).trans rfl,(blk_cell l.out 0).trans rfl,(blk_cell l.out 1).trans rfl,(blk_cell l.out 2).trans rfl,(blk_cell l.out 3).trans rfl,(blk_cell s.out 0).trans rfl,(blk_cell s.out 1).trans rfl,(blk_cell s.out 2).trans rfl,(blk_cell s.out 3).trans rfl⟩):P:=h
def laws_FnRingsTold.f (k:Nat) (aq:List Int):Option (Bool):=(laws_big.f aq).bind fun bM=>(if bM=true then(some true)else((spec_DrawOffered.f k aq).bind fun ar=>((impl_Offered.f k ar.1 ar.2.1 ar.2.2.1 ar.2.2.2.1 ar.2.2.2.2.1 ar.2.2.2.2.2).bind fun a7=>((spec_Offered.f k ar.1 ar.2.1 ar.2.2.1 ar.2.2.2.1 ar.2.2.2.2.1 ar.2.2.2.2.2).bind fun a8=>((spec_DrawRefilled.f k aq).bind fun av=>((spec_DrawDrained.f k aq).bind fun aK=>((impl_Drained.f aK.1 aK.2.1 aK.2.2.1 aK.2.2.2).bind fun aB=>((spec_Drained.f aK.1 aK.2.1 aK.2.2.1 aK.2.2.2).bind fun aC=>((spec_DrawRingOk.f k aq).bind fun aL=>((spec_DrawItemOk.f k aq).bind fun aN=>(if(a7.2.2.2.2 == a8.2.2.2.2)=true then((laws_sameRing.f k a7.1 a7.2.1 a7.2.2.1 a7.2.2.2.1 a8.1 a8.2.1 a8.2.2.1 a8.2.2.2.1).bind fun bN=>(if bN=true then((impl_Refilled.f av.1 av.2.1 av.2.2.1 av.2.2.2.1 av.2.2.2.2).bind fun bg=>((spec_Refilled.f av.1 av.2.1 av.2.2.1 av.2.2.2.1 av.2.2.2.2).bind fun bh=>((laws_sameRing.f k bg.1 bg.2.1 bg.2.2.1 bg.2.2.2 bh.1 bh.2.1 bh.2.2.1 bh.2.2.2).bind fun bO=>(if bO=true then(if(aB.2.2.2.2.2.2.2.2 == aC.2.2.2.2.2.2.2.2)=true then((laws_sameRing.f k aB.1 aB.2.1 aB.2.2.1 aB.2.2.2.1 aC.1 aC.2.1 aC.2.2.1 aC.2.2.2.1).bind fun bP=>(if bP=true then(if(aB.2.2.2.2.1 == aC.2.2.2.2.1 && (aB.2.2.2.2.2.1 == aC.2.2.2.2.2.1 && (aB.2.2.2.2.2.2.1 == aC.2.2.2.2.2.2.1 && (aB.2.2.2.2.2.2.2.1 == aC.2.2.2.2.2.2.2.1))))=true then((impl_RingOk.f k aL.1 aL.2.1 aL.2.2.1 aL.2.2.2).bind fun aY=>((spec_RingOk.f k aL.1 aL.2.1 aL.2.2.1 aL.2.2.2).bind fun aZ=>(if(aY == aZ)=true then((impl_ItemOk.f aN.1 aN.2.1 aN.2.2.1 aN.2.2.2).bind fun a0=>((spec_ItemOk.f aN.1 aN.2.1 aN.2.2.1 aN.2.2.2).bind fun a1=>(if(a0 == a1)=true then((impl_RingNew.f).bind fun bi=>((impl_RingOk.f k bi.1 bi.2.1 bi.2.2.1 bi.2.2.2).bind fun bQ=>(if bQ=true then((impl_RingNew.f).bind fun b9=>(some (b9.2.1 == 5)))else(some false))))else(some false))))else(some false))))else(some false))else(some false)))else(some false))else(some false)))))else(some false)))else(some false))))))))))))
def laws_FnRingsTold.T12:Bool×List (List Nat×List Nat):=(true,[([],[]),([],[]),([0,1],[0,1]),([2],[2]),([3],[3]),([3],[3]),([4,5,3,3],[3,4,5]),([3,6],[3,6]),([7,6],[7]),([8],[8]),([8],[8]),([9,10,8,8],[8,9,10]),([8],[8]),([8],[8]),([12,13,11,8],[8,12,13]),([11,14,14,8],[8,11,14]),([8,15],[8,15]),([16,15],[16]),([17],[17]),([17],[17]),([18,19,17],[17,18,19]),([17,20],[17,20]),([21,17],[21]),([22],[22]),([22],[22]),([23,24,22,22],[22,23,24]),([22,25],[22,25]),([26,25],[26]),([27],[27]),([27],[27]),([28,29,27],[27,28,29]),([27,30],[27,30]),([31,27],[31]),([32],[32]),([33,32,32],[32,33]),([32],[32]),([35,34,32],[32,35]),([34,36,32],[32,34,36]),([32,37],[32,37]),([38,36],[38]),([39],[39]),([40,39,39],[39,40]),([39],[39]),([42,41,39],[39,42]),([41,43,39],[39,41,43]),([39,44],[39,44]),([45,43],[45]),([46,46],[46]),([47,47,46],[46,47]),([46,48],[46,48]),([49,48],[49]),([50,50],[50]),([51,50],[50,51]),([52,50],[50,52]),([50,53],[50,53]),([54,51,0,1,2,3,4,5,6,7,8,9,10,11,12,13,14,15,16,17,18,19,20,21,22,23,24,25,26,27,28,29,30,31,32,33,34,35,36,37,38,39,40,41,42,43,44,45,46,47,48,49,50,51,52,53,54],[54])])
def laws_FnRingsTold.B12:List Nat:=[0,0,3,7,15,15,63,127,255,511,511,2047,511,511,16383,32767,65535,131071,262143,262143,1048575,2097151,4194303,8388607,8388607,33554431,67108863,134217727,268435455,268435455,1073741823,2147483647,4294967295,8589934591,17179869183,8589934591,68719476735,137438953471,274877906943,549755813887,1099511627775,2199023255551,1099511627775,8796093022207,17592186044415,35184372088831,70368744177663,140737488355327,281474976710655,562949953421311,1125899906842623,2251799813685247,4503599627370495,9007199254740991,18014398509481983,36028797018963967]
theorem laws_FnRingsTold.tab12:rtab .any (opsOf Try.f4 12)=laws_FnRingsTold.T12:=by kernel_rfl
theorem laws_FnRingsTold.bits12:waitsOk laws_FnRingsTold.T12.2 laws_FnRingsTold.B12=true:=by kernel_rfl
theorem q11x0 {P:Prop} (h:P:=by
 rintro w' ⟨s0,s1,s2,s3,s4,s5,s6,s7,s8,s9,s10,s11,s12,s13,s14,s15,s16,s17,s18,s19,s20,s21,s22,s23,s24,s25,s26,s27,s28,s29,s30,s31,s32,s33,s34,s35⟩
 go_simp
 with_reducible rfl):P:=h
theorem q11x1 {P:Prop} (h:P:=by
 rintro w' ⟨s0,s1,s2,s3,s4,s5,s6,s7,s8,s9,s10,s11,s12,s13,s14,s15,s16,s17,s18,s19,s20,s21,s22,s23,s24,s25,s26,s27,s28,s29,s30,s31⟩
 go_simp
 with_reducible rfl):P:=h
theorem q11x2 {P:Prop} (h:P:=by
 rintro w' ⟨s0,s1,s2,s3,s4,s5,s6,s7,s8,s9,s10,s11,s12,s13,s14,s15,s16,s17,s18,s19,s20,s21,s22,s23,s24,s25,s26,s27⟩
 go_simp
 with_reducible rfl):P:=h
theorem q11x3 {P:Prop} (h:P:=by
 rintro w' ⟨s0,s1,s2,s3,s4,s5,s6,s7,s8,s9,s10,s11,s12,s13,s14,s15,s16,s17,s18,s19⟩
 go_simp
 with_reducible rfl):P:=h
theorem q11x4 {P:Prop} (h:P:=by
 rintro w' ⟨s0,s1,s2,s3,s4,s5,s6,s7,s8,s9,s10,s11⟩
 go_simp
 with_reducible rfl):P:=h
theorem q11x5 {P:Prop} (h:P:=by
 rintro w' ⟨s0,s1,s2,s3,s4,s5,s6,s7⟩
 go_simp
 with_reducible rfl):P:=h
set_option maxHeartbeats 8000000 in
set_option maxRecDepth 100000 in
theorem laws_FnRingsTold.calls {k:Nat}{ce:Option Addr}{cf:Nat}{aq:List Int}{r:Bool}{w:World}(h:laws_FnRingsTold.f k aq=some r)(bT:Kd.C (Kd.int .u8) w ce aq.length aq)(bU:aq.length≤cf) :
 Calls Try.prog 4 #[.slice ce aq.length cf] w fun e w'=>e= .returned (.bool r)∧Below w.heap.size w w':=by
 have hu28:=Try.underlying28;have hu33:=Try.underlying33;have HR0:=aM bT;have HC0:=aM bU;clear bT bU;have HB:=rW w;have H:((laws_big.f aq).bind fun bM=>(if bM=true then(some true)else((spec_DrawOffered.f k aq).bind fun ar=>((impl_Offered.f k ar.1 ar.2.1 ar.2.2.1 ar.2.2.2.1 ar.2.2.2.2.1 ar.2.2.2.2.2).bind fun a7=>((spec_Offered.f k ar.1 ar.2.1 ar.2.2.1 ar.2.2.2.1 ar.2.2.2.2.1 ar.2.2.2.2.2).bind fun a8=>((spec_DrawRefilled.f k aq).bind fun av=>((spec_DrawDrained.f k aq).bind fun aK=>((impl_Drained.f aK.1 aK.2.1 aK.2.2.1 aK.2.2.2).bind fun aB=>((spec_Drained.f aK.1 aK.2.1 aK.2.2.1 aK.2.2.2).bind fun aC=>((spec_DrawRingOk.f k aq).bind fun aL=>((spec_DrawItemOk.f k aq).bind fun aN=>(if(a7.2.2.2.2 == a8.2.2.2.2)=true then((laws_sameRing.f k a7.1 a7.2.1 a7.2.2.1 a7.2.2.2.1 a8.1 a8.2.1 a8.2.2.1 a8.2.2.2.1).bind fun bN=>(if bN=true then((impl_Refilled.f av.1 av.2.1 av.2.2.1 av.2.2.2.1 av.2.2.2.2).bind fun bg=>((spec_Refilled.f av.1 av.2.1 av.2.2.1 av.2.2.2.1 av.2.2.2.2).bind fun bh=>((laws_sameRing.f k bg.1 bg.2.1 bg.2.2.1 bg.2.2.2 bh.1 bh.2.1 bh.2.2.1 bh.2.2.2).bind fun bO=>(if bO=true then(if(aB.2.2.2.2.2.2.2.2 == aC.2.2.2.2.2.2.2.2)=true then((laws_sameRing.f k aB.1 aB.2.1 aB.2.2.1 aB.2.2.2.1 aC.1 aC.2.1 aC.2.2.1 aC.2.2.2.1).bind fun bP=>(if bP=true then(if(aB.2.2.2.2.1 == aC.2.2.2.2.1 && (aB.2.2.2.2.2.1 == aC.2.2.2.2.2.1 && (aB.2.2.2.2.2.2.1 == aC.2.2.2.2.2.2.1 && (aB.2.2.2.2.2.2.2.1 == aC.2.2.2.2.2.2.2.1))))=true then((impl_RingOk.f k aL.1 aL.2.1 aL.2.2.1 aL.2.2.2).bind fun aY=>((spec_RingOk.f k aL.1 aL.2.1 aL.2.2.1 aL.2.2.2).bind fun aZ=>(if(aY == aZ)=true then((impl_ItemOk.f aN.1 aN.2.1 aN.2.2.1 aN.2.2.2).bind fun a0=>((spec_ItemOk.f aN.1 aN.2.1 aN.2.2.1 aN.2.2.2).bind fun a1=>(if(a0 == a1)=true then((impl_RingNew.f).bind fun bi=>((impl_RingOk.f k bi.1 bi.2.1 bi.2.2.1 bi.2.2.2).bind fun bQ=>(if bQ=true then((impl_RingNew.f).bind fun b9=>(some (b9.2.1 == 5)))else(some false))))else(some false))))else(some false))))else(some false))else(some false)))else(some false))else(some false)))))else(some false)))else(some false)))))))))))))=some r:=h;clear h;replace H:=bE H;obtain⟨bM,cg,H⟩:=H
 go_enter Try.func4,Try.ntmps4;by_cases bV:bM=true
 ·subst bV;replace H:=iT H;obtain rfl:=Option.some.inj H
  go_wp2_with (first|((with_reducible refine gF 12 ?_);refine gX (some 22) Try.func12 (laws_big.calls cg.out (cC HR0.out) HC0.out) ?_;rintro w' ⟨nd,rfl⟩))
  go_ret;exact⟨rE,cB⟩
 ·replace bV:=Bool.eq_false_iff.mpr bV;subst bV;replace H:=iF H;replace H:=bE H;obtain⟨⟨aP,ch,ci,cj,fy,fz⟩,cG,H⟩:=H
  (try dsimp only at H);replace H:=bE H;obtain⟨⟨aw,bj,bk,bl,bq⟩,cI,H⟩:=H
  (try dsimp only at H);replace H:=bE H;obtain⟨⟨ay,bm,bn,bo,br⟩,cJ,H⟩:=H
  (try dsimp only at H);replace H:=bE H;obtain⟨⟨aD,bs,bu,bv,fA⟩,cL,H⟩:=H
  (try dsimp only at H);replace H:=bE H;obtain⟨⟨aW,ck,cl,cm⟩,cM,H⟩:=H
  (try dsimp only at H);replace H:=bE H;obtain⟨⟨aO,bB,bC,bD,ag,ah,ai,aj,bw⟩,cN,H⟩:=H
  (try dsimp only at H);replace H:=bE H;obtain⟨⟨aQ,bF,bG,bH,am,an,ao,ap,bx⟩,cO,H⟩:=H
  (try dsimp only at H);replace H:=bE H;obtain⟨⟨aX,bW,bX,bY⟩,cP,H⟩:=H
  (try dsimp only at H);replace H:=bE H;obtain⟨⟨ac,ad,ae,af⟩,cQ,H⟩:=H
  (try dsimp only at H)
  try go_wp2_with (first|((with_reducible refine gF 12 ?_);refine gX (some 22) Try.func12 (laws_big.calls cg.out (cC HR0.out) HC0.out) ?_;rintro w' ⟨nd,rfl⟩)|((with_reducible refine gF 19 ?_);refine gY (some 25) Try.func19 (spec_DrawOffered.calls cG.out (cC HR0.out) HC0.out) ?_;rintro fB fC ⟨a,hb⟩;have t:=rL a;replace HB:=sB hb;(try clear hb);(try clear a))|((with_reducible refine gN 3 ?_);refine boxZ 3 #[.slice none 0 0,.int .i64 0,.int .i64 0,.int .i64 0] 28 ?_;intro cR hg fD hbox hb;replace t:=rB t hb;have v:=aM hbox;have GW487:=gS hg;have GE487:=gS hg;replace HB:=sB hb;clear hb hbox hg;obtain⟨a2,aT,cS⟩:=R_slice t.out;subst cS;obtain⟨fE,fF,fG,fH,fI,fJ,fK,fL⟩:=cz4 v)|((with_reducible refine gF 17 ?_);refine gY (some 33) Try.func17 (impl_Offered.calls cI.out ?side1 ((rY t))) ?_;(case side1=>refine(R_reads' (e:=33) (base:=w.heap.size) (ok:=fun k_=>True) (n:=aP.length) (c:=aT) ?_).2.2;exact(by(with_reducible repeat(first|apply R_alloc|apply R_drewN|apply R_drew));exact(fR (R_types t.out v.out (by decide)) (fun _ h_=>h_.1))));rintro fM fN ⟨a,hb⟩;have p:=aM (R_lower (R_new' a (R_lt (by(with_reducible repeat(first|apply R_alloc|apply R_drewN|apply R_drew));exact(fR (R_types t.out v.out (by decide)) (fun _ h_=>h_.1))))) (below_size cB));replace t:=aM (R_elder' (by(with_reducible repeat(first|apply R_alloc|apply R_drewN|apply R_drew));exact(fR (R_types t.out v.out (by decide)) (fun _ h_=>h_.1))) (R_base a) hb);replace v:=kP v hb (.cells #[.slice a2 aP.length aT,.int .i64 ch,.int .i64 ci,.int .i64 cj] 28 (0,0));replace HB:=sB hb;(try clear hb);(try clear a))|((with_reducible refine gN 6 ?_);refine boxZ 6 #[.slice none 0 0,.int .i64 0,.int .i64 0,.int .i64 0] 28 ?_;intro ak hg fO hbox hb;replace t:=rB t hb;replace p:=rB p hb;have j:=aM hbox;have GW495:=gS hg;have GE495:=gS hg;replace HB:=sB hb;have cT:=nL hg v;have cU:=nG hg v;replace v:=kB v hb;clear hb hbox hg;obtain⟨az,aA,cV⟩:=R_slice p.out;subst cV;have hnb41:=cU.out;have hnc41:=cT.out;obtain⟨fP,fS,fT,fU,fV,fW,fX,fY⟩:=cz4 j;obtain⟨fZ,f0,f1,f2,f3,f5,f6,f7⟩:=cz4 v)|((with_reducible refine gF 20 ?_);refine gY (some 40) Try.func20 (spec_Offered.calls cJ.out ?side1 ((rY t))) ?_;(case side1=>refine(R_reads' (e:=33) (base:=w.heap.size) (ok:=fun k_=>(True∧some k_≠(.slice az aw.length aA:Value).ownBlock)) (n:=aP.length) (c:=aT) ?_).2.2;exact(by(with_reducible repeat(first|apply R_alloc|apply R_drewN|apply R_drew));exact(fR (R_types t.out j.out (by decide)) (fun _ h_=>h_.1))));rintro f8 f9 ⟨a,hb⟩;have u:=aM (R_lower (R_new' (R_new' a (R_lt (by(with_reducible repeat(first|apply R_alloc|apply R_drewN|apply R_drew));exact(fR (R_types t.out j.out (by decide)) (fun _ h_=>h_.1))))) (R_lt (by(with_reducible repeat(first|apply R_alloc|apply R_drewN|apply R_drew));exact(fR (R_types p.out j.out (by decide)) (fun _ h_=>h_.1))))) (below_size cB));replace t:=aM (R_elder' (by(with_reducible repeat(first|apply R_alloc|apply R_drewN|apply R_drew));exact(fR (R_types t.out j.out (by decide)) (fun _ h_=>h_.1))) (R_base a) hb);replace p:=aM (R_elder' (by(with_reducible repeat(first|apply R_alloc|apply R_drewN|apply R_drew));exact(fR (R_types p.out j.out (by decide)) (fun _ h_=>h_.1))) (R_base a) hb);replace v:=kB v hb;replace j:=kP j hb (.cells #[.slice az aw.length aA,.int .i64 bj,.int .i64 bk,.int .i64 bl] 28 (0,0));replace HB:=sB hb;(try clear hb);(try clear a))|((with_reducible refine gN 8 ?_);refine boxZ 8 #[.slice none 0 0,.int .i64 0,.int .i64 0,.int .i64 0] 28 ?_;intro al hg ga hbox hb;replace t:=rB t hb;replace p:=rB p hb;replace u:=rB u hb;have l:=aM hbox;have GW503:=gS hg;have GE503:=gS hg;replace HB:=sB hb;have cW:=nL hg v;have cX:=nG hg v;replace v:=kB v hb;have cY:=nL hg j;have cZ:=nG hg j;replace j:=kB j hb;clear hb hbox hg;obtain⟨aE,aF,c0⟩:=R_slice u.out;subst c0;have hnb47:=cX.out;have hnc47:=cW.out;have hnb48:=cZ.out;have hnc48:=cY.out;obtain⟨gb,gc,ge,gf,gg,gh,gi,gj⟩:=cz4 l)|((with_reducible refine gF 21 ?_);refine gY (some 45) Try.func21 (spec_DrawRefilled.calls cL.out (C_below HR0.out cB) HC0.out) ?_;rintro gk gl ⟨a,hb⟩;have q:=aM (R_lower (R_new' (R_new' (R_new' a (R_lt (by(with_reducible repeat(first|apply R_alloc|apply R_drewN|apply R_drew));exact(fR (R_types t.out l.out (by decide)) (fun _ h_=>h_.1))))) (R_lt (by(with_reducible repeat(first|apply R_alloc|apply R_drewN|apply R_drew));exact(fR (R_types p.out l.out (by decide)) (fun _ h_=>h_.1))))) (R_lt (by(with_reducible repeat(first|apply R_alloc|apply R_drewN|apply R_drew));exact(fR (R_types u.out l.out (by decide)) (fun _ h_=>h_.1))))) (below_size cB));replace t:=aM (R_elder' (by(with_reducible repeat(first|apply R_alloc|apply R_drewN|apply R_drew));exact(fR (R_types t.out l.out (by decide)) (fun _ h_=>h_.1))) (R_base a) hb);replace p:=aM (R_elder' (by(with_reducible repeat(first|apply R_alloc|apply R_drewN|apply R_drew));exact(fR (R_types p.out l.out (by decide)) (fun _ h_=>h_.1))) (R_base a) hb);replace u:=aM (R_elder' (by(with_reducible repeat(first|apply R_alloc|apply R_drewN|apply R_drew));exact(fR (R_types u.out l.out (by decide)) (fun _ h_=>h_.1))) (R_base a) hb);replace v:=kB v hb;replace j:=kB j hb;replace l:=kP l hb (.cells #[.slice aE ay.length aF,.int .i64 bm,.int .i64 bn,.int .i64 bo] 28 (0,0));replace HB:=sB hb;(try clear hb);(try clear a))|((with_reducible refine gN 10 ?_);refine boxZ 10 #[.slice none 0 0,.int .i64 0,.int .i64 0,.int .i64 0] 28 ?_;intro au hg gm hbox hb;replace t:=rB t hb;replace p:=rB p hb;replace u:=rB u hb;replace q:=rB q hb;have s:=aM hbox;have GW511:=gS hg;have GE511:=gS hg;replace HB:=sB hb;have c1:=nL hg v;have c3:=nG hg v;replace v:=kB v hb;have da:=nL hg j;have db:=nG hg j;replace j:=kB j hb;have dc:=nL hg l;have dd:=nG hg l;replace l:=kB l hb;clear hb hbox hg;obtain⟨aG,aH,de⟩:=R_slice q.out;subst de;have hnb53:=c3.out;have hnc53:=c1.out;have hnb54:=db.out;have hnc54:=da.out;have hnb55:=dd.out;have hnc55:=dc.out;obtain⟨gn,go,gp,gq,gr,gs,gt,gu⟩:=cz4 s)|((with_reducible refine gF 22 ?_);refine gY (some 49) Try.func22 (spec_DrawDrained.calls cM.out (C_below HR0.out cB) HC0.out) ?_;rintro gv gw ⟨a,hb⟩;have G:=aM (R_lower (R_new' (R_new' (R_new' (R_new' a (R_lt (by(with_reducible repeat(first|apply R_alloc|apply R_drewN|apply R_drew));exact(fR (R_types t.out s.out (by decide)) (fun _ h_=>h_.1))))) (R_lt (by(with_reducible repeat(first|apply R_alloc|apply R_drewN|apply R_drew));exact(fR (R_types p.out s.out (by decide)) (fun _ h_=>h_.1))))) (R_lt (by(with_reducible repeat(first|apply R_alloc|apply R_drewN|apply R_drew));exact(fR (R_types u.out s.out (by decide)) (fun _ h_=>h_.1))))) (R_lt (by(with_reducible repeat(first|apply R_alloc|apply R_drewN|apply R_drew));exact(fR (R_types q.out s.out (by decide)) (fun _ h_=>h_.1))))) (below_size cB));replace t:=aM (R_elder' (by(with_reducible repeat(first|apply R_alloc|apply R_drewN|apply R_drew));exact(fR (R_types t.out s.out (by decide)) (fun _ h_=>h_.1))) (R_base a) hb);replace p:=aM (R_elder' (by(with_reducible repeat(first|apply R_alloc|apply R_drewN|apply R_drew));exact(fR (R_types p.out s.out (by decide)) (fun _ h_=>h_.1))) (R_base a) hb);replace u:=aM (R_elder' (by(with_reducible repeat(first|apply R_alloc|apply R_drewN|apply R_drew));exact(fR (R_types u.out s.out (by decide)) (fun _ h_=>h_.1))) (R_base a) hb);replace q:=aM (R_elder' (by(with_reducible repeat(first|apply R_alloc|apply R_drewN|apply R_drew));exact(fR (R_types q.out s.out (by decide)) (fun _ h_=>h_.1))) (R_base a) hb);replace v:=kB v hb;replace j:=kB j hb;replace l:=kB l hb;replace s:=kP s hb (.cells #[.slice aG aD.length aH,.int .i64 bs,.int .i64 bu,.int .i64 bv] 28 (0,0));replace HB:=sB hb;(try clear hb);(try clear a))|((with_reducible refine gN 12 ?_);refine boxZ 12 #[.slice none 0 0,.int .i64 0,.int .i64 0,.int .i64 0] 28 ?_;intro df hg gx hbox hb;replace t:=rB t hb;replace p:=rB p hb;replace u:=rB u hb;replace q:=rB q hb;replace G:=rB G hb;have E:=aM hbox;have GW518:=gS hg;have GE518:=gS hg;replace HB:=sB hb;have dg:=nL hg v;have dh:=nG hg v;replace v:=kB v hb;have di:=nL hg j;have dj:=nG hg j;replace j:=kB j hb;have dk:=nL hg l;have dl:=nG hg l;replace l:=kB l hb;have dm:=nL hg s;have dn:=nG hg s;replace s:=kB s hb;clear hb hbox hg;obtain⟨bf,a3,dp⟩:=R_slice G.out;subst dp;have hnb60:=dh.out;have hnc60:=dg.out;have hnb61:=dj.out;have hnc61:=di.out;have hnb62:=dl.out;have hnc62:=dk.out;have hnb63:=dn.out;have hnc63:=dm.out;obtain⟨gy,gz,gB,gE,gG,gH,gI,gJ⟩:=cz4 E)|((with_reducible refine gF 16 ?_);refine gY (some 52) Try.func16 (impl_Drained.calls cN.out ?side1 ((rY G))) ?_;(case side1=>refine(R_reads' (e:=33) (base:=w.heap.size) (ok:=fun k_=>((((True∧some k_≠(.slice a2 aP.length aT:Value).ownBlock)∧some k_≠(.slice az aw.length aA:Value).ownBlock)∧some k_≠(.slice aE ay.length aF:Value).ownBlock)∧some k_≠(.slice aG aD.length aH:Value).ownBlock)) (n:=aW.length) (c:=a3) ?_).2.2;exact(by(with_reducible repeat(first|apply R_alloc|apply R_drewN|apply R_drew));exact(fR (R_types G.out E.out (by decide)) (fun _ h_=>h_.1))));rintro gL gM ⟨a,hb⟩;have I:=aM (R_lower (R_new' (R_new' (R_new' (R_new' (R_new' a (R_lt (by(with_reducible repeat(first|apply R_alloc|apply R_drewN|apply R_drew));exact(fR (R_types t.out E.out (by decide)) (fun _ h_=>h_.1))))) (R_lt (by(with_reducible repeat(first|apply R_alloc|apply R_drewN|apply R_drew));exact(fR (R_types p.out E.out (by decide)) (fun _ h_=>h_.1))))) (R_lt (by(with_reducible repeat(first|apply R_alloc|apply R_drewN|apply R_drew));exact(fR (R_types u.out E.out (by decide)) (fun _ h_=>h_.1))))) (R_lt (by(with_reducible repeat(first|apply R_alloc|apply R_drewN|apply R_drew));exact(fR (R_types q.out E.out (by decide)) (fun _ h_=>h_.1))))) (R_lt (by(with_reducible repeat(first|apply R_alloc|apply R_drewN|apply R_drew));exact(fR (R_types G.out E.out (by decide)) (fun _ h_=>h_.1))))) (below_size cB));replace t:=aM (R_elder' (by(with_reducible repeat(first|apply R_alloc|apply R_drewN|apply R_drew));exact(fR (R_types t.out E.out (by decide)) (fun _ h_=>h_.1))) (R_base a) hb);replace p:=aM (R_elder' (by(with_reducible repeat(first|apply R_alloc|apply R_drewN|apply R_drew));exact(fR (R_types p.out E.out (by decide)) (fun _ h_=>h_.1))) (R_base a) hb);replace u:=aM (R_elder' (by(with_reducible repeat(first|apply R_alloc|apply R_drewN|apply R_drew));exact(fR (R_types u.out E.out (by decide)) (fun _ h_=>h_.1))) (R_base a) hb);replace q:=aM (R_elder' (by(with_reducible repeat(first|apply R_alloc|apply R_drewN|apply R_drew));exact(fR (R_types q.out E.out (by decide)) (fun _ h_=>h_.1))) (R_base a) hb);replace G:=aM (R_elder' (by(with_reducible repeat(first|apply R_alloc|apply R_drewN|apply R_drew));exact(fR (R_types G.out E.out (by decide)) (fun _ h_=>h_.1))) (R_base a) hb);replace v:=kB v hb;replace j:=kB j hb;replace l:=kB l hb;replace s:=kB s hb;replace E:=kP E hb (.cells #[.slice bf aW.length a3,.int .i64 ck,.int .i64 cl,.int .i64 cm] 28 (0,0));replace HB:=sB hb;(try clear hb);(try clear a))|((with_reducible refine gN 13 ?_);refine boxZ 13 #[.slice none 0 0,.int .i64 0,.int .i64 0,.int .i64 0] 28 ?_;intro aI hg gO hbox hb;replace t:=rB t hb;replace p:=rB p hb;replace u:=rB u hb;replace q:=rB q hb;replace G:=rB G hb;replace I:=rB I hb;have z:=aM hbox;have GW530:=gS hg;have GE530:=gS hg;replace HB:=sB hb;have dq:=nL hg v;have dr:=nG hg v;replace v:=kB v hb;have ds:=nL hg j;have dt:=nG hg j;replace j:=kB j hb;have du:=nL hg l;have dv:=nG hg l;replace l:=kB l hb;have dw:=nL hg s;have dx:=nG hg s;replace s:=kB s hb;have dy:=nL hg E;have dz:=nG hg E;replace E:=kB E hb;clear hb hbox hg)|((with_reducible refine gN 14 ?_);refine boxZ 14 #[.int .i64 0,.int .i64 0,.int .i64 0,.int .i64 0] 33 ?_;intro aa hg gP hbox hb;replace t:=aM (R_below (R_elderB (mR t) aa (Nat.le_of_eq hg.symm)) hb);replace p:=aM (R_below (R_elderB (mR p) aa (Nat.le_of_eq hg.symm)) hb);replace u:=aM (R_below (R_elderB (mR u) aa (Nat.le_of_eq hg.symm)) hb);replace q:=aM (R_below (R_elderB (mR q) aa (Nat.le_of_eq hg.symm)) hb);replace G:=aM (R_below (R_elderB (mR G) aa (Nat.le_of_eq hg.symm)) hb);replace I:=aM (R_below (R_elderB (mR I) aa (Nat.le_of_eq hg.symm)) hb);have A:=aM hbox;have GW531:=gS hg;have GE531:=gS hg;replace HB:=sB hb;have dC:=nL hg v;have dD:=nG hg v;replace v:=kB v hb;have dE:=nL hg j;have dF:=nG hg j;replace j:=kB j hb;have dG:=nL hg l;have dH:=nG hg l;replace l:=kB l hb;have dI:=nL hg s;have dJ:=nG hg s;replace s:=kB s hb;have dK:=nL hg E;have dL:=nG hg E;replace E:=kB E hb;have dM:=nL hg z;have dN:=nG hg z;replace z:=kB z hb;clear hb hbox hg;obtain⟨aR,aS,dO⟩:=R_slice I.out;subst dO;have hnb69:=dr.out;have hnc69:=dq.out;have hnb70:=dt.out;have hnc70:=ds.out;have hnb71:=dv.out;have hnc71:=du.out;have hnb72:=dx.out;have hnc72:=dw.out;have hnb73:=dz.out;have hnc73:=dy.out;have hnb74:=dM.out;have hnc74:=dN.out;obtain⟨gQ,gR,gT,gU,gZ,g0,g1,g2⟩:=cz4 z;have hnb76:=dD.out;have hnc76:=dC.out;have hnb77:=dF.out;have hnc77:=dE.out;have hnb78:=dH.out;have hnc78:=dG.out;have hnb79:=dJ.out;have hnc79:=dI.out;have hnb80:=dL.out;have hnc80:=dK.out;obtain⟨g3,g4,g5,g6,g7,g8,g9,ha⟩:=cz4 A;obtain⟨hc,he,hf,hh,hi,hj,hl,hm⟩:=cz4 E)|((with_reducible refine gF 23 ?_);refine gY (some 58) Try.func23 (spec_Drained.calls cO.out ?side1 ((rY G))) ?_;(case side1=>refine(R_reads' (e:=33) (base:=w.heap.size) (ok:=fun k_=>((((((True∧some k_≠(.slice a2 aP.length aT:Value).ownBlock)∧some k_≠(.slice az aw.length aA:Value).ownBlock)∧some k_≠(.slice aE ay.length aF:Value).ownBlock)∧some k_≠(.slice aG aD.length aH:Value).ownBlock)∧some k_≠(.slice aR aO.length aS:Value).ownBlock)∧k_≠aa)) (n:=aW.length) (c:=a3) ?_).2.2;exact(by(with_reducible repeat(first|apply R_alloc|apply R_drewN|apply R_drew));exact(R_mono (fR (R_mono (R_types G.out z.out (by decide)) (fun k_ hk=>(⟨hk,hk.1.2⟩ :_∧k_≠aa))) (fun _ h_=>h_.1)) (fun _ h_=>h_.1))));rintro hn ho ⟨a,hb⟩;have L:=aM (R_lower (R_newB (R_new' (R_new' (R_new' (R_new' (R_new' (R_new' a (R_lt (by(with_reducible repeat(first|apply R_alloc|apply R_drewN|apply R_drew));exact(R_mono (fR (R_mono (R_types t.out z.out (by decide)) (fun k_ hk=>(⟨hk,hk.1.2⟩ :_∧k_≠aa))) (fun _ h_=>h_.1)) (fun _ h_=>h_.1))))) (R_lt (by(with_reducible repeat(first|apply R_alloc|apply R_drewN|apply R_drew));exact(R_mono (fR (R_mono (R_types p.out z.out (by decide)) (fun k_ hk=>(⟨hk,hk.1.2⟩ :_∧k_≠aa))) (fun _ h_=>h_.1)) (fun _ h_=>h_.1))))) (R_lt (by(with_reducible repeat(first|apply R_alloc|apply R_drewN|apply R_drew));exact(R_mono (fR (R_mono (R_types u.out z.out (by decide)) (fun k_ hk=>(⟨hk,hk.1.2⟩ :_∧k_≠aa))) (fun _ h_=>h_.1)) (fun _ h_=>h_.1))))) (R_lt (by(with_reducible repeat(first|apply R_alloc|apply R_drewN|apply R_drew));exact(R_mono (fR (R_mono (R_types q.out z.out (by decide)) (fun k_ hk=>(⟨hk,hk.1.2⟩ :_∧k_≠aa))) (fun _ h_=>h_.1)) (fun _ h_=>h_.1))))) (R_lt (by(with_reducible repeat(first|apply R_alloc|apply R_drewN|apply R_drew));exact(R_mono (fR (R_mono (R_types G.out z.out (by decide)) (fun k_ hk=>(⟨hk,hk.1.2⟩ :_∧k_≠aa))) (fun _ h_=>h_.1)) (fun _ h_=>h_.1))))) (R_lt (by(with_reducible repeat(first|apply R_alloc|apply R_drewN|apply R_drew));exact(R_mono (fR (R_mono (R_types I.out z.out (by decide)) (fun k_ hk=>(⟨hk,hk.1.2⟩ :_∧k_≠aa))) (fun _ h_=>h_.1)) (fun _ h_=>h_.1))))) (g:=aa) (o:= .cells #[.int .i64 ag,.int .i64 ah,.int .i64 ai,.int .i64 aj] 33 (0,0)) (kS A _)) (below_size cB));replace t:=aM (R_elder' (by(with_reducible repeat(first|apply R_alloc|apply R_drewN|apply R_drew));exact(R_mono (fR (R_mono (R_types t.out z.out (by decide)) (fun k_ hk=>(⟨hk,hk.1.2⟩ :_∧k_≠aa))) (fun _ h_=>h_.1)) (fun _ h_=>h_.1))) (R_base a) hb);replace p:=aM (R_elder' (by(with_reducible repeat(first|apply R_alloc|apply R_drewN|apply R_drew));exact(R_mono (fR (R_mono (R_types p.out z.out (by decide)) (fun k_ hk=>(⟨hk,hk.1.2⟩ :_∧k_≠aa))) (fun _ h_=>h_.1)) (fun _ h_=>h_.1))) (R_base a) hb);replace u:=aM (R_elder' (by(with_reducible repeat(first|apply R_alloc|apply R_drewN|apply R_drew));exact(R_mono (fR (R_mono (R_types u.out z.out (by decide)) (fun k_ hk=>(⟨hk,hk.1.2⟩ :_∧k_≠aa))) (fun _ h_=>h_.1)) (fun _ h_=>h_.1))) (R_base a) hb);replace q:=aM (R_elder' (by(with_reducible repeat(first|apply R_alloc|apply R_drewN|apply R_drew));exact(R_mono (fR (R_mono (R_types q.out z.out (by decide)) (fun k_ hk=>(⟨hk,hk.1.2⟩ :_∧k_≠aa))) (fun _ h_=>h_.1)) (fun _ h_=>h_.1))) (R_base a) hb);replace G:=aM (R_elder' (by(with_reducible repeat(first|apply R_alloc|apply R_drewN|apply R_drew));exact(R_mono (fR (R_mono (R_types G.out z.out (by decide)) (fun k_ hk=>(⟨hk,hk.1.2⟩ :_∧k_≠aa))) (fun _ h_=>h_.1)) (fun _ h_=>h_.1))) (R_base a) hb);replace I:=aM (R_elder' (by(with_reducible repeat(first|apply R_alloc|apply R_drewN|apply R_drew));exact(R_mono (fR (R_mono (R_types I.out z.out (by decide)) (fun k_ hk=>(⟨hk,hk.1.2⟩ :_∧k_≠aa))) (fun _ h_=>h_.1)) (fun _ h_=>h_.1))) (R_base a) hb);replace v:=kB v hb;replace j:=kB j hb;replace l:=kB l hb;replace s:=kB s hb;replace E:=kB E hb;replace z:=aM (blk_below (g:=aI) (o:= .cells #[.slice aR aO.length aS,.int .i64 bB,.int .i64 bC,.int .i64 bD] 28 (0,0)) (kS z _) hb);replace A:=aM (blk_below (g:=aa) (o:= .cells #[.int .i64 ag,.int .i64 ah,.int .i64 ai,.int .i64 aj] 33 (0,0)) (kS A _) hb);replace HB:=sB hb;(try clear hb);(try clear a))|((with_reducible refine gN 16 ?_);refine boxZ 16 #[.slice none 0 0,.int .i64 0,.int .i64 0,.int .i64 0] 28 ?_;intro aJ hg hp hbox hb;replace t:=rB t hb;replace p:=rB p hb;replace u:=rB u hb;replace q:=rB q hb;replace G:=rB G hb;replace I:=rB I hb;replace L:=rB L hb;have D:=aM hbox;have GW543:=gS hg;have GE543:=gS hg;replace HB:=sB hb;have dP:=nL hg v;have dQ:=nG hg v;replace v:=kB v hb;have dS:=nL hg j;have dT:=nG hg j;replace j:=kB j hb;have dU:=nL hg l;have dV:=nG hg l;replace l:=kB l hb;have dX:=nL hg s;have dY:=nG hg s;replace s:=kB s hb;have dZ:=nL hg E;have d0:=nG hg E;replace E:=kB E hb;have d1:=nL hg z;have d2:=nG hg z;replace z:=kB z hb;have d3:=nL hg A;have d4:=nG hg A;replace A:=kB A hb;clear hb hbox hg)|((with_reducible refine gN 17 ?_);refine boxZ 17 #[.int .i64 0,.int .i64 0,.int .i64 0,.int .i64 0] 33 ?_;intro ab hg hq hbox hb;replace t:=aM (R_below (R_elderB (mR t) ab (Nat.le_of_eq hg.symm)) hb);replace p:=aM (R_below (R_elderB (mR p) ab (Nat.le_of_eq hg.symm)) hb);replace u:=aM (R_below (R_elderB (mR u) ab (Nat.le_of_eq hg.symm)) hb);replace q:=aM (R_below (R_elderB (mR q) ab (Nat.le_of_eq hg.symm)) hb);replace G:=aM (R_below (R_elderB (mR G) ab (Nat.le_of_eq hg.symm)) hb);replace I:=aM (R_below (R_elderB (mR I) ab (Nat.le_of_eq hg.symm)) hb);replace L:=aM (R_below (R_elderB (mR L) ab (Nat.le_of_eq hg.symm)) hb);have J:=aM hbox;have GW544:=gS hg;have GE544:=gS hg;replace HB:=sB hb;have d5:=nL hg v;have d6:=nG hg v;replace v:=kB v hb;have d7:=nL hg j;have d8:=nG hg j;replace j:=kB j hb;have d9:=nL hg l;have ea:=nG hg l;replace l:=kB l hb;have eb:=nL hg s;have ec:=nG hg s;replace s:=kB s hb;have ed:=nL hg E;have ee:=nG hg E;replace E:=kB E hb;have ef:=nL hg z;have eg:=nG hg z;replace z:=kB z hb;have eh:=nL hg A;have ei:=nG hg A;replace A:=kB A hb;have ej:=nL hg D;have ek:=nG hg D;replace D:=kB D hb;clear hb hbox hg;obtain⟨aU,aV,el⟩:=R_slice L.out;subst el;have hnb87:=dQ.out;have hnc87:=dP.out;have hnb88:=dT.out;have hnc88:=dS.out;have hnb89:=dV.out;have hnc89:=dU.out;have hnb90:=dY.out;have hnc90:=dX.out;have hnb91:=d0.out;have hnc91:=dZ.out;have hnb92:=d2.out;have hnc92:=d1.out;have hnb93:=d4.out;have hnc93:=d3.out;have hnb94:=ej.out;have hnc94:=ek.out;obtain⟨hr,hs,ht,hu,hv,hw,hx,hy⟩:=cz4 D;have hnb96:=d6.out;have hnc96:=d5.out;have hnb97:=d8.out;have hnc97:=d7.out;have hnb98:=ea.out;have hnc98:=d9.out;have hnb99:=ec.out;have hnc99:=eb.out;have hnb100:=ee.out;have hnc100:=ed.out;have hnb101:=eg.out;have hnc101:=ef.out;have hnb102:=ei.out;have hnc102:=eh.out;obtain⟨hz,hA,hC,hD,hE,hF,hG,hH⟩:=cz4 J)|((with_reducible refine gF 24 ?_);refine gY (some 63) Try.func24 (spec_DrawRingOk.calls cP.out (C_below HR0.out cB) HC0.out) ?_;rintro hI hJ ⟨a,hb⟩;have O:=aM (R_lower (R_newB (R_newB (R_new' (R_new' (R_new' (R_new' (R_new' (R_new' (R_new' a (R_lt (by(with_reducible repeat(first|apply R_alloc|apply R_drewN|apply R_drew));exact(R_mono (fR (R_mono (R_types t.out D.out (by decide)) (fun k_ hk=>(⟨hk,hk.1.2⟩ :_∧k_≠ab))) (fun _ h_=>h_.1)) (fun _ h_=>h_.1))))) (R_lt (by(with_reducible repeat(first|apply R_alloc|apply R_drewN|apply R_drew));exact(R_mono (fR (R_mono (R_types p.out D.out (by decide)) (fun k_ hk=>(⟨hk,hk.1.2⟩ :_∧k_≠ab))) (fun _ h_=>h_.1)) (fun _ h_=>h_.1))))) (R_lt (by(with_reducible repeat(first|apply R_alloc|apply R_drewN|apply R_drew));exact(R_mono (fR (R_mono (R_types u.out D.out (by decide)) (fun k_ hk=>(⟨hk,hk.1.2⟩ :_∧k_≠ab))) (fun _ h_=>h_.1)) (fun _ h_=>h_.1))))) (R_lt (by(with_reducible repeat(first|apply R_alloc|apply R_drewN|apply R_drew));exact(R_mono (fR (R_mono (R_types q.out D.out (by decide)) (fun k_ hk=>(⟨hk,hk.1.2⟩ :_∧k_≠ab))) (fun _ h_=>h_.1)) (fun _ h_=>h_.1))))) (R_lt (by(with_reducible repeat(first|apply R_alloc|apply R_drewN|apply R_drew));exact(R_mono (fR (R_mono (R_types G.out D.out (by decide)) (fun k_ hk=>(⟨hk,hk.1.2⟩ :_∧k_≠ab))) (fun _ h_=>h_.1)) (fun _ h_=>h_.1))))) (R_lt (by(with_reducible repeat(first|apply R_alloc|apply R_drewN|apply R_drew));exact(R_mono (fR (R_mono (R_types I.out D.out (by decide)) (fun k_ hk=>(⟨hk,hk.1.2⟩ :_∧k_≠ab))) (fun _ h_=>h_.1)) (fun _ h_=>h_.1))))) (R_lt (by(with_reducible repeat(first|apply R_alloc|apply R_drewN|apply R_drew));exact(R_mono (fR (R_mono (R_types L.out D.out (by decide)) (fun k_ hk=>(⟨hk,hk.1.2⟩ :_∧k_≠ab))) (fun _ h_=>h_.1)) (fun _ h_=>h_.1))))) (g:=aa) (o:= .cells #[.int .i64 ag,.int .i64 ah,.int .i64 ai,.int .i64 aj] 33 (0,0)) (mK A)) (g:=ab) (o:= .cells #[.int .i64 am,.int .i64 an,.int .i64 ao,.int .i64 ap] 33 (0,0)) (kS J _)) (below_size cB));replace t:=aM (R_elder' (by(with_reducible repeat(first|apply R_alloc|apply R_drewN|apply R_drew));exact(R_mono (fR (R_mono (R_types t.out D.out (by decide)) (fun k_ hk=>(⟨hk,hk.1.2⟩ :_∧k_≠ab))) (fun _ h_=>h_.1)) (fun _ h_=>h_.1))) (R_base a) hb);replace p:=aM (R_elder' (by(with_reducible repeat(first|apply R_alloc|apply R_drewN|apply R_drew));exact(R_mono (fR (R_mono (R_types p.out D.out (by decide)) (fun k_ hk=>(⟨hk,hk.1.2⟩ :_∧k_≠ab))) (fun _ h_=>h_.1)) (fun _ h_=>h_.1))) (R_base a) hb);replace u:=aM (R_elder' (by(with_reducible repeat(first|apply R_alloc|apply R_drewN|apply R_drew));exact(R_mono (fR (R_mono (R_types u.out D.out (by decide)) (fun k_ hk=>(⟨hk,hk.1.2⟩ :_∧k_≠ab))) (fun _ h_=>h_.1)) (fun _ h_=>h_.1))) (R_base a) hb);replace q:=aM (R_elder' (by(with_reducible repeat(first|apply R_alloc|apply R_drewN|apply R_drew));exact(R_mono (fR (R_mono (R_types q.out D.out (by decide)) (fun k_ hk=>(⟨hk,hk.1.2⟩ :_∧k_≠ab))) (fun _ h_=>h_.1)) (fun _ h_=>h_.1))) (R_base a) hb);replace G:=aM (R_elder' (by(with_reducible repeat(first|apply R_alloc|apply R_drewN|apply R_drew));exact(R_mono (fR (R_mono (R_types G.out D.out (by decide)) (fun k_ hk=>(⟨hk,hk.1.2⟩ :_∧k_≠ab))) (fun _ h_=>h_.1)) (fun _ h_=>h_.1))) (R_base a) hb);replace I:=aM (R_elder' (by(with_reducible repeat(first|apply R_alloc|apply R_drewN|apply R_drew));exact(R_mono (fR (R_mono (R_types I.out D.out (by decide)) (fun k_ hk=>(⟨hk,hk.1.2⟩ :_∧k_≠ab))) (fun _ h_=>h_.1)) (fun _ h_=>h_.1))) (R_base a) hb);replace L:=aM (R_elder' (by(with_reducible repeat(first|apply R_alloc|apply R_drewN|apply R_drew));exact(R_mono (fR (R_mono (R_types L.out D.out (by decide)) (fun k_ hk=>(⟨hk,hk.1.2⟩ :_∧k_≠ab))) (fun _ h_=>h_.1)) (fun _ h_=>h_.1))) (R_base a) hb);replace v:=kB v hb;replace j:=kB j hb;replace l:=kB l hb;replace s:=kB s hb;replace E:=kB E hb;replace z:=kB z hb;replace A:=kB A hb;replace D:=aM (blk_below (g:=aJ) (o:= .cells #[.slice aU aQ.length aV,.int .i64 bF,.int .i64 bG,.int .i64 bH] 28 (0,0)) (kS D _) hb);replace J:=aM (blk_below (g:=ab) (o:= .cells #[.int .i64 am,.int .i64 an,.int .i64 ao,.int .i64 ap] 33 (0,0)) (kS J _) hb);replace HB:=sB hb;(try clear hb);(try clear a))|((with_reducible refine gN 19 ?_);refine boxZ 19 #[.slice none 0 0,.int .i64 0,.int .i64 0,.int .i64 0] 28 ?_;intro bp hg hL hbox hb;replace t:=rB t hb;replace p:=rB p hb;replace u:=rB u hb;replace q:=rB q hb;replace G:=rB G hb;replace I:=rB I hb;replace L:=rB L hb;replace O:=rB O hb;have U:=aM hbox;have GW551:=gS hg;have GE551:=gS hg;replace HB:=sB hb;have em:=nL hg v;have en:=nG hg v;replace v:=kB v hb;have eo:=nL hg j;have ep:=nG hg j;replace j:=kB j hb;have eq:=nL hg l;have er:=nG hg l;replace l:=kB l hb;have es:=nL hg s;have et:=nG hg s;replace s:=kB s hb;have eu:=nL hg E;have ev:=nG hg E;replace E:=kB E hb;have ew:=nL hg z;have ex:=nG hg z;replace z:=kB z hb;have ey:=nL hg A;have ez:=nG hg A;replace A:=kB A hb;have eA:=nL hg D;have eC:=nG hg D;replace D:=kB D hb;have eD:=nL hg J;have eE:=nG hg J;replace J:=kB J hb;clear hb hbox hg;obtain⟨a4,a5,eG⟩:=R_slice O.out;subst eG;have hnb107:=en.out;have hnc107:=em.out;have hnb108:=ep.out;have hnc108:=eo.out;have hnb109:=er.out;have hnc109:=eq.out;have hnb110:=et.out;have hnc110:=es.out;have hnb111:=ev.out;have hnc111:=eu.out;have hnb112:=ex.out;have hnc112:=ew.out;have hnb113:=ez.out;have hnc113:=ey.out;have hnb114:=eC.out;have hnc114:=eA.out;have hnb115:=eE.out;have hnc115:=eD.out;obtain⟨hM,hN,hO,hP,hQ,hR,hS,hT⟩:=cz4 U)|((with_reducible refine gF 25 ?_);refine gX (some 65) Try.func25 (spec_DrawItemOk.calls cQ.out (C_below HR0.out cB) HC0.out) ?_;intro hU hb;replace t:=aM (R_below (by(with_reducible repeat(first|apply R_alloc|apply R_drewN|apply R_drew));exact(fR (R_types t.out U.out (by decide)) (fun _ h_=>h_.1))) hb);replace p:=aM (R_below (by(with_reducible repeat(first|apply R_alloc|apply R_drewN|apply R_drew));exact(fR (R_types p.out U.out (by decide)) (fun _ h_=>h_.1))) hb);replace u:=aM (R_below (by(with_reducible repeat(first|apply R_alloc|apply R_drewN|apply R_drew));exact(fR (R_types u.out U.out (by decide)) (fun _ h_=>h_.1))) hb);replace q:=aM (R_below (by(with_reducible repeat(first|apply R_alloc|apply R_drewN|apply R_drew));exact(fR (R_types q.out U.out (by decide)) (fun _ h_=>h_.1))) hb);replace G:=aM (R_below (by(with_reducible repeat(first|apply R_alloc|apply R_drewN|apply R_drew));exact(fR (R_types G.out U.out (by decide)) (fun _ h_=>h_.1))) hb);replace I:=aM (R_below (by(with_reducible repeat(first|apply R_alloc|apply R_drewN|apply R_drew));exact(fR (R_types I.out U.out (by decide)) (fun _ h_=>h_.1))) hb);replace L:=aM (R_below (by(with_reducible repeat(first|apply R_alloc|apply R_drewN|apply R_drew));exact(fR (R_types L.out U.out (by decide)) (fun _ h_=>h_.1))) hb);replace O:=aM (R_below (by(with_reducible repeat(first|apply R_alloc|apply R_drewN|apply R_drew));exact(fR (R_types O.out U.out (by decide)) (fun _ h_=>h_.1))) hb);replace v:=kB v hb;replace j:=kB j hb;replace l:=kB l hb;replace s:=kB s hb;replace E:=kB E hb;replace z:=kB z hb;replace A:=kB A hb;replace D:=kB D hb;replace J:=kB J hb;replace U:=kP U hb (.cells #[.slice a4 aX.length a5,.int .i64 bW,.int .i64 bX,.int .i64 bY] 28 (0,0));replace HB:=sB hb;(try clear hb))|((with_reducible refine gN 20 ?_);refine boxZ 20 #[.int .i64 0,.int .i64 0,.int .i64 0,.int .i64 0] 33 ?_;intro M hg ax hbox hb;replace t:=aM (R_below (R_elderB (mR t) M (Nat.le_of_eq hg.symm)) hb);replace p:=aM (R_below (R_elderB (mR p) M (Nat.le_of_eq hg.symm)) hb);replace u:=aM (R_below (R_elderB (mR u) M (Nat.le_of_eq hg.symm)) hb);replace q:=aM (R_below (R_elderB (mR q) M (Nat.le_of_eq hg.symm)) hb);replace G:=aM (R_below (R_elderB (mR G) M (Nat.le_of_eq hg.symm)) hb);replace I:=aM (R_below (R_elderB (mR I) M (Nat.le_of_eq hg.symm)) hb);replace L:=aM (R_below (R_elderB (mR L) M (Nat.le_of_eq hg.symm)) hb);replace O:=aM (R_below (R_elderB (mR O) M (Nat.le_of_eq hg.symm)) hb);have W:=aM hbox;have GW556:=gS hg;have GE556:=gS hg;replace HB:=sB hb;have eH:=nL hg v;have eI:=nG hg v;replace v:=kB v hb;have eJ:=nL hg j;have eK:=nG hg j;replace j:=kB j hb;have eL:=nL hg l;have eM:=nG hg l;replace l:=kB l hb;have eN:=nL hg s;have eO:=nG hg s;replace s:=kB s hb;have eP:=nL hg E;have eQ:=nG hg E;replace E:=kB E hb;have eR:=nL hg z;have eS:=nG hg z;replace z:=kB z hb;have eU:=nL hg A;have eW:=nG hg A;replace A:=kB A hb;have eZ:=nL hg D;have e0:=nG hg D;replace D:=kB D hb;have e1:=nL hg J;have e2:=nG hg J;replace J:=kB J hb;have e3:=nL hg U;have e4:=nG hg U;replace U:=kB U hb;clear hb hbox hg;have hnb119:=eI.out;have hnc119:=eH.out;have hnb120:=eK.out;have hnc120:=eJ.out;have hnb121:=eM.out;have hnc121:=eL.out;have hnb122:=eO.out;have hnc122:=eN.out;have hnb123:=eQ.out;have hnc123:=eP.out;have hnb124:=eS.out;have hnc124:=eR.out;have hnb125:=eW.out;have hnc125:=eU.out;have hnb126:=e0.out;have hnc126:=eZ.out;have hnb127:=e2.out;have hnc127:=e1.out;have hnb128:=e4.out;have hnc128:=e3.out;obtain⟨hV,hW,hX,hY,hZ,h0,h2,h3⟩:=cz4 W));have n0_:Aside0 (Kd.R k33 33 ((((ax.setCell ⟨M,0,none⟩ (.int .i64 ac)).setCell ⟨M,1,none⟩ (.int .i64 ad)).setCell ⟨M,2,none⟩ (.int .i64 ae)).setCell ⟨M,3,none⟩ (.int .i64 af)) w.heap.size (fun k_=>some k_≠(.slice az aw.length aA:Value).ownBlock∧some k_≠(.slice aE ay.length aF:Value).ownBlock∧some k_≠(.slice aG aD.length aH:Value).ownBlock∧some k_≠(.slice bf aW.length a3:Value).ownBlock∧some k_≠(.slice aR aO.length aS:Value).ownBlock∧some k_≠(.slice aU aQ.length aV:Value).ownBlock∧some k_≠(.slice a4 aX.length a5:Value).ownBlock∧k_≠aa∧k_≠ab∧k_≠M) (.slice a2 aP.length aT) aP):=⟨fR (R_mono t.out (fun k_ hk=>(⟨hk,hk.2⟩ :_∧k_≠M))) (fun _ hk=>⟨hk.1.1.1.1.1.1.1.1.1.1.2,⟨hk.1.1.1.1.1.1.1.1.1.2,⟨hk.1.1.1.1.1.1.1.1.2,⟨hk.1.1.1.1.1.1.1.2,⟨hk.1.1.1.1.1.1.2,⟨hk.1.1.1.1.2,⟨hk.1.1.2,⟨hk.1.1.1.1.1.2,⟨hk.1.1.1.2,hk.1.2⟩⟩⟩⟩⟩⟩⟩⟩⟩)⟩;have n1_:Aside0 (Kd.R k33 33 ((((ax.setCell ⟨M,0,none⟩ (.int .i64 ac)).setCell ⟨M,1,none⟩ (.int .i64 ad)).setCell ⟨M,2,none⟩ (.int .i64 ae)).setCell ⟨M,3,none⟩ (.int .i64 af)) w.heap.size (fun k_=>some k_≠(.slice a2 aP.length aT:Value).ownBlock∧some k_≠(.slice aE ay.length aF:Value).ownBlock∧some k_≠(.slice aG aD.length aH:Value).ownBlock∧some k_≠(.slice bf aW.length a3:Value).ownBlock∧some k_≠(.slice aR aO.length aS:Value).ownBlock∧some k_≠(.slice aU aQ.length aV:Value).ownBlock∧some k_≠(.slice a4 aX.length a5:Value).ownBlock∧k_≠aa∧k_≠ab∧k_≠M) (.slice az aw.length aA) aw):=⟨fR (R_mono p.out (fun k_ hk=>(⟨hk,hk.2⟩ :_∧k_≠M))) (fun _ hk=>⟨hk.1.1.1.1.1.1.1.1.1.1.2,⟨hk.1.1.1.1.1.1.1.1.1.2,⟨hk.1.1.1.1.1.1.1.1.2,⟨hk.1.1.1.1.1.1.1.2,⟨hk.1.1.1.1.1.1.2,⟨hk.1.1.1.1.2,⟨hk.1.1.2,⟨hk.1.1.1.1.1.2,⟨hk.1.1.1.2,hk.1.2⟩⟩⟩⟩⟩⟩⟩⟩⟩)⟩;have n2_:Aside0 (Kd.R k33 33 ((((ax.setCell ⟨M,0,none⟩ (.int .i64 ac)).setCell ⟨M,1,none⟩ (.int .i64 ad)).setCell ⟨M,2,none⟩ (.int .i64 ae)).setCell ⟨M,3,none⟩ (.int .i64 af)) w.heap.size (fun k_=>some k_≠(.slice a2 aP.length aT:Value).ownBlock∧some k_≠(.slice az aw.length aA:Value).ownBlock∧some k_≠(.slice aG aD.length aH:Value).ownBlock∧some k_≠(.slice bf aW.length a3:Value).ownBlock∧some k_≠(.slice aR aO.length aS:Value).ownBlock∧some k_≠(.slice aU aQ.length aV:Value).ownBlock∧some k_≠(.slice a4 aX.length a5:Value).ownBlock∧k_≠aa∧k_≠ab∧k_≠M) (.slice aE ay.length aF) ay):=⟨fR (R_mono u.out (fun k_ hk=>(⟨hk,hk.2⟩ :_∧k_≠M))) (fun _ hk=>⟨hk.1.1.1.1.1.1.1.1.1.1.2,⟨hk.1.1.1.1.1.1.1.1.1.2,⟨hk.1.1.1.1.1.1.1.1.2,⟨hk.1.1.1.1.1.1.1.2,⟨hk.1.1.1.1.1.1.2,⟨hk.1.1.1.1.2,⟨hk.1.1.2,⟨hk.1.1.1.1.1.2,⟨hk.1.1.1.2,hk.1.2⟩⟩⟩⟩⟩⟩⟩⟩⟩)⟩;have n3_:Aside0 (Kd.R k33 33 ((((ax.setCell ⟨M,0,none⟩ (.int .i64 ac)).setCell ⟨M,1,none⟩ (.int .i64 ad)).setCell ⟨M,2,none⟩ (.int .i64 ae)).setCell ⟨M,3,none⟩ (.int .i64 af)) w.heap.size (fun k_=>some k_≠(.slice a2 aP.length aT:Value).ownBlock∧some k_≠(.slice az aw.length aA:Value).ownBlock∧some k_≠(.slice aE ay.length aF:Value).ownBlock∧some k_≠(.slice bf aW.length a3:Value).ownBlock∧some k_≠(.slice aR aO.length aS:Value).ownBlock∧some k_≠(.slice aU aQ.length aV:Value).ownBlock∧some k_≠(.slice a4 aX.length a5:Value).ownBlock∧k_≠aa∧k_≠ab∧k_≠M) (.slice aG aD.length aH) aD):=⟨fR (R_mono q.out (fun k_ hk=>(⟨hk,hk.2⟩ :_∧k_≠M))) (fun _ hk=>⟨hk.1.1.1.1.1.1.1.1.1.1.2,⟨hk.1.1.1.1.1.1.1.1.1.2,⟨hk.1.1.1.1.1.1.1.1.2,⟨hk.1.1.1.1.1.1.1.2,⟨hk.1.1.1.1.1.1.2,⟨hk.1.1.1.1.2,⟨hk.1.1.2,⟨hk.1.1.1.1.1.2,⟨hk.1.1.1.2,hk.1.2⟩⟩⟩⟩⟩⟩⟩⟩⟩)⟩;have n4_:Aside0 (Kd.R k33 33 ((((ax.setCell ⟨M,0,none⟩ (.int .i64 ac)).setCell ⟨M,1,none⟩ (.int .i64 ad)).setCell ⟨M,2,none⟩ (.int .i64 ae)).setCell ⟨M,3,none⟩ (.int .i64 af)) w.heap.size (fun k_=>some k_≠(.slice a2 aP.length aT:Value).ownBlock∧some k_≠(.slice az aw.length aA:Value).ownBlock∧some k_≠(.slice aE ay.length aF:Value).ownBlock∧some k_≠(.slice aG aD.length aH:Value).ownBlock∧some k_≠(.slice aR aO.length aS:Value).ownBlock∧some k_≠(.slice aU aQ.length aV:Value).ownBlock∧some k_≠(.slice a4 aX.length a5:Value).ownBlock∧k_≠aa∧k_≠ab∧k_≠M) (.slice bf aW.length a3) aW):=⟨fR (R_mono G.out (fun k_ hk=>(⟨hk,hk.2⟩ :_∧k_≠M))) (fun _ hk=>⟨hk.1.1.1.1.1.1.1.1.1.1.2,⟨hk.1.1.1.1.1.1.1.1.1.2,⟨hk.1.1.1.1.1.1.1.1.2,⟨hk.1.1.1.1.1.1.1.2,⟨hk.1.1.1.1.1.1.2,⟨hk.1.1.1.1.2,⟨hk.1.1.2,⟨hk.1.1.1.1.1.2,⟨hk.1.1.1.2,hk.1.2⟩⟩⟩⟩⟩⟩⟩⟩⟩)⟩;have n5_:Aside0 (Kd.R k33 33 ((((ax.setCell ⟨M,0,none⟩ (.int .i64 ac)).setCell ⟨M,1,none⟩ (.int .i64 ad)).setCell ⟨M,2,none⟩ (.int .i64 ae)).setCell ⟨M,3,none⟩ (.int .i64 af)) w.heap.size (fun k_=>some k_≠(.slice a2 aP.length aT:Value).ownBlock∧some k_≠(.slice az aw.length aA:Value).ownBlock∧some k_≠(.slice aE ay.length aF:Value).ownBlock∧some k_≠(.slice aG aD.length aH:Value).ownBlock∧some k_≠(.slice bf aW.length a3:Value).ownBlock∧some k_≠(.slice aU aQ.length aV:Value).ownBlock∧some k_≠(.slice a4 aX.length a5:Value).ownBlock∧k_≠aa∧k_≠ab∧k_≠M) (.slice aR aO.length aS) aO):=⟨fR (R_mono I.out (fun k_ hk=>(⟨hk,hk.2⟩ :_∧k_≠M))) (fun _ hk=>⟨hk.1.1.1.1.1.1.1.1.1.1.2,⟨hk.1.1.1.1.1.1.1.1.1.2,⟨hk.1.1.1.1.1.1.1.1.2,⟨hk.1.1.1.1.1.1.1.2,⟨hk.1.1.1.1.1.1.2,⟨hk.1.1.1.1.2,⟨hk.1.1.2,⟨hk.1.1.1.1.1.2,⟨hk.1.1.1.2,hk.1.2⟩⟩⟩⟩⟩⟩⟩⟩⟩)⟩;have n6_:Aside0 (Kd.R k33 33 ((((ax.setCell ⟨M,0,none⟩ (.int .i64 ac)).setCell ⟨M,1,none⟩ (.int .i64 ad)).setCell ⟨M,2,none⟩ (.int .i64 ae)).setCell ⟨M,3,none⟩ (.int .i64 af)) w.heap.size (fun k_=>some k_≠(.slice a2 aP.length aT:Value).ownBlock∧some k_≠(.slice az aw.length aA:Value).ownBlock∧some k_≠(.slice aE ay.length aF:Value).ownBlock∧some k_≠(.slice aG aD.length aH:Value).ownBlock∧some k_≠(.slice bf aW.length a3:Value).ownBlock∧some k_≠(.slice aR aO.length aS:Value).ownBlock∧some k_≠(.slice a4 aX.length a5:Value).ownBlock∧k_≠aa∧k_≠ab∧k_≠M) (.slice aU aQ.length aV) aQ):=⟨fR (R_mono L.out (fun k_ hk=>(⟨hk,hk.2⟩ :_∧k_≠M))) (fun _ hk=>⟨hk.1.1.1.1.1.1.1.1.1.1.2,⟨hk.1.1.1.1.1.1.1.1.1.2,⟨hk.1.1.1.1.1.1.1.1.2,⟨hk.1.1.1.1.1.1.1.2,⟨hk.1.1.1.1.1.1.2,⟨hk.1.1.1.1.1.2,⟨hk.1.1.2,⟨hk.1.1.1.1.2,⟨hk.1.1.1.2,hk.1.2⟩⟩⟩⟩⟩⟩⟩⟩⟩)⟩;have n7_:Aside0 (Kd.R k33 33 ((((ax.setCell ⟨M,0,none⟩ (.int .i64 ac)).setCell ⟨M,1,none⟩ (.int .i64 ad)).setCell ⟨M,2,none⟩ (.int .i64 ae)).setCell ⟨M,3,none⟩ (.int .i64 af)) w.heap.size (fun k_=>some k_≠(.slice a2 aP.length aT:Value).ownBlock∧some k_≠(.slice az aw.length aA:Value).ownBlock∧some k_≠(.slice aE ay.length aF:Value).ownBlock∧some k_≠(.slice aG aD.length aH:Value).ownBlock∧some k_≠(.slice bf aW.length a3:Value).ownBlock∧some k_≠(.slice aR aO.length aS:Value).ownBlock∧some k_≠(.slice aU aQ.length aV:Value).ownBlock∧k_≠aa∧k_≠ab∧k_≠M) (.slice a4 aX.length a5) aX):=⟨fR (R_mono O.out (fun k_ hk=>(⟨hk,hk.2⟩ :_∧k_≠M))) (fun _ hk=>⟨hk.1.1.1.1.1.1.1.1.1.1.2,⟨hk.1.1.1.1.1.1.1.1.1.2,⟨hk.1.1.1.1.1.1.1.1.2,⟨hk.1.1.1.1.1.1.1.2,⟨hk.1.1.1.1.1.1.2,⟨hk.1.1.1.1.1.2,⟨hk.1.1.1.1.2,⟨hk.1.1.1.2,⟨hk.1.1.2,hk.1.2⟩⟩⟩⟩⟩⟩⟩⟩⟩)⟩;have n8_:Aside0 (((((ax.setCell ⟨M,0,none⟩ (.int .i64 ac)).setCell ⟨M,1,none⟩ (.int .i64 ad)).setCell ⟨M,2,none⟩ (.int .i64 ae)).setCell ⟨M,3,none⟩ (.int .i64 af)).heap[cR]?=some (.cells #[.slice a2 aP.length aT,.int .i64 ch,.int .i64 ci,.int .i64 cj] 28 (0,0))):=⟨mK v⟩;have n9_:Aside0 (((((ax.setCell ⟨M,0,none⟩ (.int .i64 ac)).setCell ⟨M,1,none⟩ (.int .i64 ad)).setCell ⟨M,2,none⟩ (.int .i64 ae)).setCell ⟨M,3,none⟩ (.int .i64 af)).heap[ak]?=some (.cells #[.slice az aw.length aA,.int .i64 bj,.int .i64 bk,.int .i64 bl] 28 (0,0))):=⟨mK j⟩;have n10_:Aside0 (((((ax.setCell ⟨M,0,none⟩ (.int .i64 ac)).setCell ⟨M,1,none⟩ (.int .i64 ad)).setCell ⟨M,2,none⟩ (.int .i64 ae)).setCell ⟨M,3,none⟩ (.int .i64 af)).heap[al]?=some (.cells #[.slice aE ay.length aF,.int .i64 bm,.int .i64 bn,.int .i64 bo] 28 (0,0))):=⟨mK l⟩;have n11_:Aside0 (((((ax.setCell ⟨M,0,none⟩ (.int .i64 ac)).setCell ⟨M,1,none⟩ (.int .i64 ad)).setCell ⟨M,2,none⟩ (.int .i64 ae)).setCell ⟨M,3,none⟩ (.int .i64 af)).heap[au]?=some (.cells #[.slice aG aD.length aH,.int .i64 bs,.int .i64 bu,.int .i64 bv] 28 (0,0))):=⟨mK s⟩;have n12_:Aside0 (((((ax.setCell ⟨M,0,none⟩ (.int .i64 ac)).setCell ⟨M,1,none⟩ (.int .i64 ad)).setCell ⟨M,2,none⟩ (.int .i64 ae)).setCell ⟨M,3,none⟩ (.int .i64 af)).heap[df]?=some (.cells #[.slice bf aW.length a3,.int .i64 ck,.int .i64 cl,.int .i64 cm] 28 (0,0))):=⟨mK E⟩;have n13_:Aside0 (((((ax.setCell ⟨M,0,none⟩ (.int .i64 ac)).setCell ⟨M,1,none⟩ (.int .i64 ad)).setCell ⟨M,2,none⟩ (.int .i64 ae)).setCell ⟨M,3,none⟩ (.int .i64 af)).heap[aI]?=some (.cells #[.slice aR aO.length aS,.int .i64 bB,.int .i64 bC,.int .i64 bD] 28 (0,0))):=⟨mK z⟩;have n14_:Aside0 (((((ax.setCell ⟨M,0,none⟩ (.int .i64 ac)).setCell ⟨M,1,none⟩ (.int .i64 ad)).setCell ⟨M,2,none⟩ (.int .i64 ae)).setCell ⟨M,3,none⟩ (.int .i64 af)).heap[aa]?=some (.cells #[.int .i64 ag,.int .i64 ah,.int .i64 ai,.int .i64 aj] 33 (0,0))):=⟨mK A⟩;have n15_:Aside0 (((((ax.setCell ⟨M,0,none⟩ (.int .i64 ac)).setCell ⟨M,1,none⟩ (.int .i64 ad)).setCell ⟨M,2,none⟩ (.int .i64 ae)).setCell ⟨M,3,none⟩ (.int .i64 af)).heap[aJ]?=some (.cells #[.slice aU aQ.length aV,.int .i64 bF,.int .i64 bG,.int .i64 bH] 28 (0,0))):=⟨mK D⟩;have n16_:Aside0 (((((ax.setCell ⟨M,0,none⟩ (.int .i64 ac)).setCell ⟨M,1,none⟩ (.int .i64 ad)).setCell ⟨M,2,none⟩ (.int .i64 ae)).setCell ⟨M,3,none⟩ (.int .i64 af)).heap[ab]?=some (.cells #[.int .i64 am,.int .i64 an,.int .i64 ao,.int .i64 ap] 33 (0,0))):=⟨mK J⟩;have n17_:Aside0 (((((ax.setCell ⟨M,0,none⟩ (.int .i64 ac)).setCell ⟨M,1,none⟩ (.int .i64 ad)).setCell ⟨M,2,none⟩ (.int .i64 ae)).setCell ⟨M,3,none⟩ (.int .i64 af)).heap[bp]?=some (.cells #[.slice a4 aX.length a5,.int .i64 bW,.int .i64 bX,.int .i64 bY] 28 (0,0))):=⟨mK U⟩;have n18_:Aside0 (((((ax.setCell ⟨M,0,none⟩ (.int .i64 ac)).setCell ⟨M,1,none⟩ (.int .i64 ad)).setCell ⟨M,2,none⟩ (.int .i64 ae)).setCell ⟨M,3,none⟩ (.int .i64 af)).heap[M]?=some (.cells #[.int .i64 ac,.int .i64 ad,.int .i64 ae,.int .i64 af] 33 (0,0))):=⟨kS W _⟩;have n19_:Aside0 (Below w.heap.size w ((((ax.setCell ⟨M,0,none⟩ (.int .i64 ac)).setCell ⟨M,1,none⟩ (.int .i64 ad)).setCell ⟨M,2,none⟩ (.int .i64 ae)).setCell ⟨M,3,none⟩ (.int .i64 af))):=⟨cB⟩
  (try clear t)
  (try clear p)
  (try clear u)
  (try clear q)
  (try clear G)
  (try clear I)
  (try clear L)
  (try clear O)
  (try clear v)
  (try clear j)
  (try clear l)
  (try clear s)
  (try clear E)
  (try clear z)
  (try clear A)
  (try clear D)
  (try clear J)
  (try clear U)
  (try clear W)
  (try clear HB);generalize ((((ax.setCell ⟨M,0,none⟩ (.int .i64 ac)).setCell ⟨M,1,none⟩ (.int .i64 ad)).setCell ⟨M,2,none⟩ (.int .i64 ae)).setCell ⟨M,3,none⟩ (.int .i64 af))=bz at n0_ n1_ n2_ n3_ n4_ n5_ n6_ n7_ n8_ n9_ n10_ n11_ n12_ n13_ n14_ n15_ n16_ n17_ n18_ n19_ ⊢;have t:=n0_;have p:=n1_;have u:=n2_;have q:=n3_;have G:=n4_;have I:=n5_;have L:=n6_;have O:=n7_;have v:=n8_;have j:=n9_;have l:=n10_;have s:=n11_;have E:=n12_;have z:=n13_;have A:=n14_;have D:=n15_;have J:=n16_;have U:=n17_;have W:=n18_;have HB:=n19_;clear n0_ n1_ n2_ n3_ n4_ n5_ n6_ n7_ n8_ n9_ n10_ n11_ n12_ n13_ n14_ n15_ n16_ n17_ n18_ n19_;replace t:=dR t;replace p:=dR p;replace u:=dR u;replace q:=dR q;replace G:=dR G;replace I:=dR I;replace L:=dR L;replace O:=dR O;replace v:=dB v;replace j:=dB j;replace l:=dB l;replace s:=dB s;replace E:=dB E;replace z:=dB z;replace A:=dB A;replace D:=dB D;replace J:=dB J;replace U:=dB U;replace W:=dB W;replace HB:=dW HB;by_cases a9:(bq == br)=true
  ·rw[if_pos a9]at H;have e5:(bq == br)=true:=a9
   (try(have e6:decide (bq=br)=true:=by simpa using a9))
   (try(have e7:(bq == br)=true:=by simpa using a9));clear a9;replace H:=bE H;obtain⟨bN,bA,H⟩:=H;by_cases bZ:bN=true
   ·subst bZ;replace H:=iT H;replace H:=bE H;obtain⟨⟨h4,h5,h6,h7⟩,bI,H⟩:=H
    (try dsimp only at H);replace H:=bE H;obtain⟨⟨h8,h9,ia,ib⟩,bJ,H⟩:=H
    (try dsimp only at H);replace H:=bE H;obtain⟨bO,bL,H⟩:=H;by_cases b0:bO=true
    ·subst b0;replace H:=iT H;by_cases ba:(bw == bx)=true
     ·rw[if_pos ba]at H;have e8:(bw == bx)=true:=ba
      (try(have e9:decide (bw=bx)=true:=by simpa using ba))
      (try(have fa:(bw == bx)=true:=by simpa using ba));clear ba;replace H:=bE H;obtain⟨bP,b1,H⟩:=H;by_cases b5:bP=true
      ·subst b5;replace H:=iT H;by_cases bb:(ag == am && (ah == an && (ai == ao && (aj == ap))))=true
       ·rw[if_pos bb]at H;have fb:(ag == am && (ah == an && (ai == ao && (aj == ap))))=true:=bb
        (try(have fc:decide (ag=am && (ah == an && (ai == ao && (aj == ap))))=true:=by simpa using bb))
        (try(have fd:(ag == am && (ah == an && (ai == ao && (aj == ap))))=true:=by simpa using bb));clear bb;replace H:=bE H;obtain⟨aY,cn,H⟩:=H;replace H:=bE H;obtain⟨aZ,co,H⟩:=H;by_cases bd:(aY == aZ)=true
        ·rw[if_pos bd]at H;have fe:(aY == aZ)=true:=bd
         (try(have ff:decide (aY=aZ)=true:=by simpa using bd))
         (try(have fg:(aY == aZ)=true:=by simpa using bd));clear bd;replace H:=bE H;obtain⟨a0,fh,H⟩:=H;replace H:=bE H;obtain⟨a1,fi,H⟩:=H;refine sZ 56 (fun w'=>w'.cell? ⟨ak,0,none⟩=some (.slice az aw.length aA)∧w'.cell? ⟨ak,1,none⟩=some (.int .i64 bj)∧w'.cell? ⟨ak,2,none⟩=some (.int .i64 bk)∧w'.cell? ⟨ak,3,none⟩=some (.int .i64 bl)∧w'.cell? ⟨al,0,none⟩=some (.slice aE ay.length aF)∧w'.cell? ⟨al,1,none⟩=some (.int .i64 bm)∧w'.cell? ⟨al,2,none⟩=some (.int .i64 bn)∧w'.cell? ⟨al,3,none⟩=some (.int .i64 bo)∧w'.cell? ⟨au,0,none⟩=some (.slice aG aD.length aH)∧w'.cell? ⟨au,1,none⟩=some (.int .i64 bs)∧w'.cell? ⟨au,2,none⟩=some (.int .i64 bu)∧w'.cell? ⟨au,3,none⟩=some (.int .i64 bv)∧w'.cell? ⟨aI,0,none⟩=some (.slice aR aO.length aS)∧w'.cell? ⟨aI,1,none⟩=some (.int .i64 bB)∧w'.cell? ⟨aI,2,none⟩=some (.int .i64 bC)∧w'.cell? ⟨aI,3,none⟩=some (.int .i64 bD)∧w'.cell? ⟨aJ,0,none⟩=some (.slice aU aQ.length aV)∧w'.cell? ⟨aJ,1,none⟩=some (.int .i64 bF)∧w'.cell? ⟨aJ,2,none⟩=some (.int .i64 bG)∧w'.cell? ⟨aJ,3,none⟩=some (.int .i64 bH)∧w'.cell? ⟨aa,0,none⟩=some (.int .i64 ag)∧w'.cell? ⟨aa,1,none⟩=some (.int .i64 ah)∧w'.cell? ⟨aa,2,none⟩=some (.int .i64 ai)∧w'.cell? ⟨aa,3,none⟩=some (.int .i64 aj)∧w'.cell? ⟨ab,0,none⟩=some (.int .i64 am)∧w'.cell? ⟨ab,1,none⟩=some (.int .i64 an)∧w'.cell? ⟨ab,2,none⟩=some (.int .i64 ao)∧w'.cell? ⟨ab,3,none⟩=some (.int .i64 ap)∧w'.cell? ⟨bp,0,none⟩=some (.slice a4 aX.length a5)∧w'.cell? ⟨bp,1,none⟩=some (.int .i64 bW)∧w'.cell? ⟨bp,2,none⟩=some (.int .i64 bX)∧w'.cell? ⟨bp,3,none⟩=some (.int .i64 bY)∧w'.cell? ⟨M,0,none⟩=some (.int .i64 ac)∧w'.cell? ⟨M,1,none⟩=some (.int .i64 ad)∧w'.cell? ⟨M,2,none⟩=some (.int .i64 ae)∧w'.cell? ⟨M,3,none⟩=some (.int .i64 af)) laws_FnRingsTold.tab12 laws_FnRingsTold.bits12 qh11x0 fun HT_ HW_ hHeld=>?_;generalize bz.drew=ic at t p u q G I L O v j l s E z A D J U W HB hHeld ⊢;refine pZ 0 66 1 ?_;refine pZ 1 67 3 ?_;refine pZ 2 68 7 ?_;refine pZ 3 69 15 ?_;refine tZ 4 70 31 (y:=q11x0) (h:=?_);refine tZ 5 71 63 (y:=q11x0) (h:=?_);refine oZ 6 72 127 fun K hK=>?_;refine eX Try.func26 (laws_sameRing.calls bA.out (rX p) ((rY p)) (rX u) ((rY u))) ?_;intro ie hb;replace t:=rB t hb;replace p:=rB p hb;replace u:=rB u hb;replace q:=rB q hb;replace G:=rB G hb;replace I:=rB I hb;replace L:=rB L hb;replace O:=rB O hb;replace v:=kB v hb;replace j:=kB j hb;replace l:=kB l hb;replace s:=kB s hb;replace E:=kB E hb;replace z:=kB z hb;replace A:=kB A hb;replace D:=kB D hb;replace J:=kB J hb;replace U:=kB U hb;replace W:=kB W hb;replace HB:=sB hb
         (try clear hb);refine hK.out _ _ qh11x0 (fun hHeld=>?_);clear hK K;refine normZ (some 72) ?_;refine pZ 7 73 255 ?_;refine pZ 8 74 511 ?_;refine pZ 10 76 1535 ?_;refine pZ 13 79 9727 ?_;refine tZ 9 75 10239 (y:=q11x0) (h:=?_);refine tZ 12 78 14335 (y:=q11x0) (h:=?_);refine oZ 11 77 16383 fun K hK=>?_;refine eY Try.func15 (impl_Refilled.calls bI.out (rX q) ((rY q))) ?_;rintro bR ig ⟨a,hb⟩;have X:=aM (R_lower (R_newB (R_newB (R_newB (R_new' (R_new' (R_new' (R_new' (R_new' (R_new' (R_new' (R_new' a (R_lt (mR t))) (R_lt (mR p))) (R_lt (mR u))) (R_lt (mR q))) (R_lt (mR G))) (R_lt (mR I))) (R_lt (mR L))) (R_lt (mR O))) (g:=aa) (o:= .cells #[.int .i64 ag,.int .i64 ah,.int .i64 ai,.int .i64 aj] 33 (0,0)) (mK A)) (g:=ab) (o:= .cells #[.int .i64 am,.int .i64 an,.int .i64 ao,.int .i64 ap] 33 (0,0)) (mK J)) (g:=M) (o:= .cells #[.int .i64 ac,.int .i64 ad,.int .i64 ae,.int .i64 af] 33 (0,0)) (mK W)) (below_size cB));replace t:=eB t (R_base a) hb;replace p:=eB p (R_base a) hb;replace u:=eB u (R_base a) hb;replace q:=eB q (R_base a) hb;replace G:=eB G (R_base a) hb;replace I:=eB I (R_base a) hb;replace L:=eB L (R_base a) hb;replace O:=eB O (R_base a) hb;replace v:=kB v hb;replace j:=kB j hb;replace l:=kB l hb;replace s:=kB s hb;replace E:=kB E hb;replace z:=kB z hb;replace A:=kB A hb;replace D:=kB D hb;replace J:=kB J hb;replace U:=kB U hb;replace W:=kB W hb;replace HB:=sB hb
         (try clear hb)
         (try clear a);refine hK.out _ _ qh11x0 (fun hHeld=>?_);clear hK K;refine normZ (some 77) ?_;refine oZ 14 80 32767 fun K hK=>?_;refine eY Try.func27 (spec_Refilled.calls bJ.out (rX q) ((rY q))) ?_;rintro bS ii ⟨a,hb⟩;have Y:=aM (R_lower (R_newB (R_newB (R_newB (R_new' (R_new' (R_new' (R_new' (R_new' (R_new' (R_new' (R_new' (R_new' a (R_lt (mR t))) (R_lt (mR p))) (R_lt (mR u))) (R_lt (mR q))) (R_lt (mR G))) (R_lt (mR I))) (R_lt (mR L))) (R_lt (mR O))) (R_lt (mR X))) (g:=aa) (o:= .cells #[.int .i64 ag,.int .i64 ah,.int .i64 ai,.int .i64 aj] 33 (0,0)) (mK A)) (g:=ab) (o:= .cells #[.int .i64 am,.int .i64 an,.int .i64 ao,.int .i64 ap] 33 (0,0)) (mK J)) (g:=M) (o:= .cells #[.int .i64 ac,.int .i64 ad,.int .i64 ae,.int .i64 af] 33 (0,0)) (mK W)) (below_size cB));replace t:=eB t (R_base a) hb;replace p:=eB p (R_base a) hb;replace u:=eB u (R_base a) hb;replace q:=eB q (R_base a) hb;replace G:=eB G (R_base a) hb;replace I:=eB I (R_base a) hb;replace L:=eB L (R_base a) hb;replace O:=eB O (R_base a) hb;replace X:=eB X (R_base a) hb;replace v:=kB v hb;replace j:=kB j hb;replace l:=kB l hb;replace s:=kB s hb;replace E:=kB E hb;replace z:=kB z hb;replace A:=kB A hb;replace D:=kB D hb;replace J:=kB J hb;replace U:=kB U hb;replace W:=kB W hb;replace HB:=sB hb
         (try clear hb)
         (try clear a);obtain⟨ij,ik,cp⟩:=R_slice X.out
         (first|subst cp|(injection cp with f1_ f2_ f3_;have f4_:=f1_.symm;have f5_:=f3_.symm;clear f1_ f2_ f3_;subst f4_;subst f5_));obtain⟨il,im,cq⟩:=R_slice Y.out
         (first|subst cq|(injection cq with f1_ f2_ f3_;have f4_:=f1_.symm;have f5_:=f3_.symm;clear f1_ f2_ f3_;subst f4_;subst f5_));refine hK.out _ _ qh11x0 (fun hHeld=>?_);clear hK K;refine normZ (some 80) ?_;refine oZ 15 81 65535 fun K hK=>?_;refine eX Try.func26 (laws_sameRing.calls bL.out (rX X) ((rY X)) (rX Y) ((rY Y))) ?_;intro io hb;replace t:=rB t hb;replace p:=rB p hb;replace u:=rB u hb;replace q:=rB q hb;replace G:=rB G hb;replace I:=rB I hb;replace L:=rB L hb;replace O:=rB O hb;replace X:=rB X hb;replace Y:=rB Y hb;replace v:=kB v hb;replace j:=kB j hb;replace l:=kB l hb;replace s:=kB s hb;replace E:=kB E hb;replace z:=kB z hb;replace A:=kB A hb;replace D:=kB D hb;replace J:=kB J hb;replace U:=kB U hb;replace W:=kB W hb;replace HB:=sB hb
         (try clear hb);refine hK.out _ _ qh11x0 (fun hHeld=>?_);clear hK K;refine normZ (some 81) ?_;refine pZ 16 82 131071 ?_;refine pZ 17 83 262143 ?_;refine pZ 18 84 524287 ?_;refine pZ 19 85 1048575 ?_;refine pZ 20 86 2097151 ?_;refine pZ 21 87 4194303 ?_;refine pZ 22 88 8388607 ?_;refine tZ 23 89 16777215 (y:=q11x0) (h:=?_);refine tZ 24 90 33554431 (y:=q11x0) (h:=?_);refine oZ 25 91 67108863 fun K hK=>?_;refine eX Try.func26 (laws_sameRing.calls b1.out (rX I) ((rY I)) (rX L) ((rY L))) ?_;intro ip hb;replace t:=rB t hb;replace p:=rB p hb;replace u:=rB u hb;replace q:=rB q hb;replace G:=rB G hb;replace I:=rB I hb;replace L:=rB L hb;replace O:=rB O hb;replace X:=rB X hb;replace Y:=rB Y hb;replace v:=kB v hb;replace j:=kB j hb;replace l:=kB l hb;replace s:=kB s hb;replace E:=kB E hb;replace z:=kB z hb;replace A:=kB A hb;replace D:=kB D hb;replace J:=kB J hb;replace U:=kB U hb;replace W:=kB W hb;replace HB:=sB hb
         (try clear hb);refine hK.out _ _ qh11x0 (fun hHeld=>?_);clear hK K;refine normZ (some 91) ?_;refine pZ 26 92 134217727 ?_;refine pZ 27 93 268435455 ?_;refine tZ 28 94 536870911 (y:=q11x0) (h:=?_);refine tZ 29 95 1073741823 (y:=q11x0) (h:=?_);refine pZ 30 96 2147483647 ?_;refine pZ 31 97 4294967295 ?_;refine pZ 32 98 8589934591 ?_;refine tZ 33 99 17179869183 (y:=q11x0) (h:=?_);refine tZ 35 101 51539607551 (y:=q11x0) (h:=?_);refine oZ 34 100 68719476735 fun K hK=>?_;refine eX Try.func18 (impl_RingOk.calls cn.out (rX O) ((rY O))) ?_;intro iq hb;replace t:=rB t hb;replace p:=rB p hb;replace u:=rB u hb;replace q:=rB q hb;replace G:=rB G hb;replace I:=rB I hb;replace L:=rB L hb;replace O:=rB O hb;replace X:=rB X hb;replace Y:=rB Y hb;replace v:=kB v hb;replace j:=kB j hb;replace l:=kB l hb;replace s:=kB s hb;replace E:=kB E hb;replace z:=kB z hb;replace A:=kB A hb;replace D:=kB D hb;replace J:=kB J hb;replace U:=kB U hb;replace W:=kB W hb;replace HB:=sB hb
         (try clear hb);refine hK.out _ _ qh11x0 (fun hHeld=>?_);clear hK K;refine normZ (some 100) ?_;refine oZ 36 102 137438953471 fun K hK=>?_;refine eX Try.func28 (spec_RingOk.calls co.out (rX O) ((rY O))) ?_;intro ir hb;replace t:=rB t hb;replace p:=rB p hb;replace u:=rB u hb;replace q:=rB q hb;replace G:=rB G hb;replace I:=rB I hb;replace L:=rB L hb;replace O:=rB O hb;replace X:=rB X hb;replace Y:=rB Y hb;replace v:=kB v hb;replace j:=kB j hb;replace l:=kB l hb;replace s:=kB s hb;replace E:=kB E hb;replace z:=kB z hb;replace A:=kB A hb;replace D:=kB D hb;replace J:=kB J hb;replace U:=kB U hb;replace W:=kB W hb;replace HB:=sB hb
         (try clear hb);refine hK.out _ _ qh11x0 (fun hHeld=>?_);clear hK K;refine normZ (some 102) ?_;refine pZ 37 103 274877906943 ?_;refine pZ 38 104 549755813887 ?_;refine pZ 39 105 1099511627775 ?_;refine tZ 40 106 2199023255551 (y:=q11x0) (h:=?_);refine tZ 42 108 6597069766655 (y:=q11x0) (h:=?_);refine oZ 41 107 8796093022207 fun K hK=>?_;refine eX Try.func29 (impl_ItemOk.calls fh.out) ?_;intro it hb;replace t:=rB t hb;replace p:=rB p hb;replace u:=rB u hb;replace q:=rB q hb;replace G:=rB G hb;replace I:=rB I hb;replace L:=rB L hb;replace O:=rB O hb;replace X:=rB X hb;replace Y:=rB Y hb;replace v:=kB v hb;replace j:=kB j hb;replace l:=kB l hb;replace s:=kB s hb;replace E:=kB E hb;replace z:=kB z hb;replace A:=kB A hb;replace D:=kB D hb;replace J:=kB J hb;replace U:=kB U hb;replace W:=kB W hb;replace HB:=sB hb
         (try clear hb);refine hK.out _ _ qh11x0 (fun hHeld=>?_);clear hK K;refine normZ (some 107) ?_;refine oZ 43 109 17592186044415 fun K hK=>?_;refine eX Try.func30 (spec_ItemOk.calls fi.out) ?_;intro iu hb;replace t:=rB t hb;replace p:=rB p hb;replace u:=rB u hb;replace q:=rB q hb;replace G:=rB G hb;replace I:=rB I hb;replace L:=rB L hb;replace O:=rB O hb;replace X:=rB X hb;replace Y:=rB Y hb;replace v:=kB v hb;replace j:=kB j hb;replace l:=kB l hb;replace s:=kB s hb;replace E:=kB E hb;replace z:=kB z hb;replace A:=kB A hb;replace D:=kB D hb;replace J:=kB J hb;replace U:=kB U hb;replace W:=kB W hb;replace HB:=sB hb
         (try clear hb);refine hK.out _ _ qh11x0 (fun hHeld=>?_);clear hK K;refine normZ (some 109) ?_;refine pZ 44 110 35184372088831 ?_;refine pZ 45 111 70368744177663 ?_;refine pZ 46 112 140737488355327 ?_;by_cases be:(a0 == a1)=true
         ·rw[if_pos be]at H;have ca:(a0 == a1)=true:=be
          (try(have cb:decide (a0=a1)=true:=by simpa using be))
          (try(have cc:(a0 == a1)=true:=by simpa using be));clear be;replace H:=bE H;obtain⟨⟨fj,fk,fl,fm⟩,fn,H⟩:=H
          (try dsimp only at H);replace H:=bE H;obtain⟨bQ,cr,H⟩:=H
          (try rw[ca])
          (try rw[cb])
          (try rw[cc]);refine oZ 47 113 281474976710655 fun K hK=>?_;refine eY Try.func14 (impl_RingNew.calls fn.out) ?_;rintro iv iw ⟨a,hb⟩;have a6:=aM (R_lower (R_newB (R_newB (R_newB (R_new' (R_new' (R_new' (R_new' (R_new' (R_new' (R_new' (R_new' (R_new' (R_new' a (R_lt (mR t))) (R_lt (mR p))) (R_lt (mR u))) (R_lt (mR q))) (R_lt (mR G))) (R_lt (mR I))) (R_lt (mR L))) (R_lt (mR O))) (R_lt (mR X))) (R_lt (mR Y))) (g:=aa) (o:= .cells #[.int .i64 ag,.int .i64 ah,.int .i64 ai,.int .i64 aj] 33 (0,0)) (mK A)) (g:=ab) (o:= .cells #[.int .i64 am,.int .i64 an,.int .i64 ao,.int .i64 ap] 33 (0,0)) (mK J)) (g:=M) (o:= .cells #[.int .i64 ac,.int .i64 ad,.int .i64 ae,.int .i64 af] 33 (0,0)) (mK W)) (below_size cB));replace t:=eB t (R_base a) hb;replace p:=eB p (R_base a) hb;replace u:=eB u (R_base a) hb;replace q:=eB q (R_base a) hb;replace G:=eB G (R_base a) hb;replace I:=eB I (R_base a) hb;replace L:=eB L (R_base a) hb;replace O:=eB O (R_base a) hb;replace X:=eB X (R_base a) hb;replace Y:=eB Y (R_base a) hb;replace v:=kB v hb;replace j:=kB j hb;replace l:=kB l hb;replace s:=kB s hb;replace E:=kB E hb;replace z:=kB z hb;replace A:=kB A hb;replace D:=kB D hb;replace J:=kB J hb;replace U:=kB U hb;replace W:=kB W hb;replace HB:=sB hb
          (try clear hb)
          (try clear a);obtain⟨fo,fp,cs⟩:=R_slice a6.out
          (first|subst cs|(injection cs with f1_ f2_ f3_;have f4_:=f1_.symm;have f5_:=f3_.symm;clear f1_ f2_ f3_;subst f4_;subst f5_));refine hK.out _ _ qh11x0 (fun hHeld=>?_);clear hK K;refine normZ (some 113) ?_;refine oZ 48 114 562949953421311 fun K hK=>?_;refine goE Try.func18 #[.agg #[.slice fo fj.length fp,.int .i64 fk,.int .i64 fl,.int .i64 fm]] ?_;by_cases b8:bQ=true
          ·subst b8;replace H:=iT H;replace H:=bE H;obtain⟨⟨ix,iy,iz,iA⟩,fq,H⟩:=H
           (try dsimp only at H);obtain rfl:=Option.some.inj H
           (try rw[fr])
           (try rw[fs])
           (try rw[ft]);with_reducible refine(impl_RingOk.calls cr.out ?side1 ?side2).mono ?_;(case side1=>exact rX a6);(case side2=>exact rY a6);rintro e iB ⟨rfl,hb⟩;refine⟨_,rfl,?_⟩;replace t:=rB t hb;replace p:=rB p hb;replace u:=rB u hb;replace q:=rB q hb;replace G:=rB G hb;replace I:=rB I hb;replace L:=rB L hb;replace O:=rB O hb;replace X:=rB X hb;replace Y:=rB Y hb;replace a6:=rB a6 hb;replace v:=kB v hb;replace j:=kB j hb;replace l:=kB l hb;replace s:=kB s hb;replace E:=kB E hb;replace z:=kB z hb;replace A:=kB A hb;replace D:=kB D hb;replace J:=kB J hb;replace U:=kB U hb;replace W:=kB W hb;replace HB:=sB hb
           (try clear hb);refine hK.out _ _ qh11x0 (fun hHeld=>?_);clear hK K;refine normZ (some 114) ?_;refine pZ 49 115 1125899906842623 ?_;refine pZ 50 116 2251799813685247 ?_;refine oZ 51 117 4503599627370495 fun K hK=>?_;refine eY Try.func14 (impl_RingNew.calls fq.out) ?_;rintro iC iD ⟨a,hb⟩;have fu:=aM (R_lower (R_newB (R_newB (R_newB (R_new' (R_new' (R_new' (R_new' (R_new' (R_new' (R_new' (R_new' (R_new' (R_new' (R_new' a (R_lt (mR t))) (R_lt (mR p))) (R_lt (mR u))) (R_lt (mR q))) (R_lt (mR G))) (R_lt (mR I))) (R_lt (mR L))) (R_lt (mR O))) (R_lt (mR X))) (R_lt (mR Y))) (R_lt (mR a6))) (g:=aa) (o:= .cells #[.int .i64 ag,.int .i64 ah,.int .i64 ai,.int .i64 aj] 33 (0,0)) (mK A)) (g:=ab) (o:= .cells #[.int .i64 am,.int .i64 an,.int .i64 ao,.int .i64 ap] 33 (0,0)) (mK J)) (g:=M) (o:= .cells #[.int .i64 ac,.int .i64 ad,.int .i64 ae,.int .i64 af] 33 (0,0)) (mK W)) (below_size cB));replace t:=eB t (R_base a) hb;replace p:=eB p (R_base a) hb;replace u:=eB u (R_base a) hb;replace q:=eB q (R_base a) hb;replace G:=eB G (R_base a) hb;replace I:=eB I (R_base a) hb;replace L:=eB L (R_base a) hb;replace O:=eB O (R_base a) hb;replace X:=eB X (R_base a) hb;replace Y:=eB Y (R_base a) hb;replace a6:=eB a6 (R_base a) hb;replace v:=kB v hb;replace j:=kB j hb;replace l:=kB l hb;replace s:=kB s hb;replace E:=kB E hb;replace z:=kB z hb;replace A:=kB A hb;replace D:=kB D hb;replace J:=kB J hb;replace U:=kB U hb;replace W:=kB W hb;replace HB:=sB hb
           (try clear hb)
           (try clear a);obtain⟨iE,iG,ct⟩:=R_slice fu.out
           (first|subst ct|(injection ct with f1_ f2_ f3_;have f4_:=f1_.symm;have f5_:=f3_.symm;clear f1_ f2_ f3_;subst f4_;subst f5_));refine hK.out _ _ qh11x0 (fun hHeld=>?_);clear hK K;refine normZ (some 117) ?_;refine pZ 52 118 9007199254740991 ?_;refine pZ 53 119 18014398509481983 ?_;refine pZ 54 120 36028797018963967 ?_;refine pZ 55 2 72057594037927935 ?_;refine done_ (done_of HT_.out (by kernel_rfl)) ?_
           try go_wp2
           go_ret;exact⟨rE,cB⟩
          ·replace b8:=Bool.eq_false_iff.mpr b8;subst b8;replace H:=iF H;obtain rfl:=Option.some.inj H
           (try rw[fr])
           (try rw[fs])
           (try rw[ft]);with_reducible refine(impl_RingOk.calls cr.out ?side1 ?side2).mono ?_;(case side1=>exact rX a6);(case side2=>exact rY a6);rintro e iH ⟨rfl,hb⟩;refine⟨_,rfl,?_⟩;replace t:=rB t hb;replace p:=rB p hb;replace u:=rB u hb;replace q:=rB q hb;replace G:=rB G hb;replace I:=rB I hb;replace L:=rB L hb;replace O:=rB O hb;replace X:=rB X hb;replace Y:=rB Y hb;replace a6:=rB a6 hb;replace v:=kB v hb;replace j:=kB j hb;replace l:=kB l hb;replace s:=kB s hb;replace E:=kB E hb;replace z:=kB z hb;replace A:=kB A hb;replace D:=kB D hb;replace J:=kB J hb;replace U:=kB U hb;replace W:=kB W hb;replace HB:=sB hb
           (try clear hb);refine hK.out _ _ qh11x0 (fun hHeld=>?_);clear hK K;refine normZ (some 114) ?_;refine pZ 49 115 1125899906842623 ?_;refine pZ 50 116 2251799813685247 ?_;refine pureU 51 (some 117) (msk 56 4503599627370495) HT_.out ?_;refine pureU 52 (some 118) (msk 56 9007199254740991) HT_.out ?_;refine pureU 53 (some 119) (msk 56 18014398509481983) HT_.out ?_;refine pZ 54 120 36028797018963967 ?_;refine pZ 55 2 72057594037927935 ?_;refine done_ (done_of HT_.out (by kernel_rfl)) ?_
           try go_wp2
           go_ret;exact⟨rE,cB⟩
         ·rw[if_neg be]at H;have ca:(a0 == a1)=false:=by simpa using be
          (try(have cb:decide (a0=a1)=false:=by simpa using be))
          (try(have cc:(a0 == a1)=false:=by simpa using be))
          (try(have iI: ¬ (a0=a1):=by simpa using be));clear be;obtain rfl:=Option.some.inj H
          (try rw[ca])
          (try rw[cb])
          (try rw[cc]);refine pureU 47 (some 113) (msk 56 281474976710655) HT_.out ?_;refine pureU 48 (some 114) (msk 56 562949953421311) HT_.out ?_;refine pZ 49 115 1125899906842623 ?_;refine pZ 50 116 2251799813685247 ?_;refine pureU 51 (some 117) (msk 56 4503599627370495) HT_.out ?_;refine pureU 52 (some 118) (msk 56 9007199254740991) HT_.out ?_;refine pureU 53 (some 119) (msk 56 18014398509481983) HT_.out ?_;refine pZ 54 120 36028797018963967 ?_;refine pZ 55 2 72057594037927935 ?_;refine done_ (done_of HT_.out (by kernel_rfl)) ?_
          try go_wp2
          go_ret;exact⟨rE,cB⟩
        ·rw[if_neg bd]at H;have fe:(aY == aZ)=false:=by simpa using bd
         (try(have ff:decide (aY=aZ)=false:=by simpa using bd))
         (try(have fg:(aY == aZ)=false:=by simpa using bd))
         (try(have iJ: ¬ (aY=aZ):=by simpa using bd));clear bd;obtain rfl:=Option.some.inj H;refine sZ 56 (fun w'=>w'.cell? ⟨ak,0,none⟩=some (.slice az aw.length aA)∧w'.cell? ⟨ak,1,none⟩=some (.int .i64 bj)∧w'.cell? ⟨ak,2,none⟩=some (.int .i64 bk)∧w'.cell? ⟨ak,3,none⟩=some (.int .i64 bl)∧w'.cell? ⟨al,0,none⟩=some (.slice aE ay.length aF)∧w'.cell? ⟨al,1,none⟩=some (.int .i64 bm)∧w'.cell? ⟨al,2,none⟩=some (.int .i64 bn)∧w'.cell? ⟨al,3,none⟩=some (.int .i64 bo)∧w'.cell? ⟨au,0,none⟩=some (.slice aG aD.length aH)∧w'.cell? ⟨au,1,none⟩=some (.int .i64 bs)∧w'.cell? ⟨au,2,none⟩=some (.int .i64 bu)∧w'.cell? ⟨au,3,none⟩=some (.int .i64 bv)∧w'.cell? ⟨aI,0,none⟩=some (.slice aR aO.length aS)∧w'.cell? ⟨aI,1,none⟩=some (.int .i64 bB)∧w'.cell? ⟨aI,2,none⟩=some (.int .i64 bC)∧w'.cell? ⟨aI,3,none⟩=some (.int .i64 bD)∧w'.cell? ⟨aJ,0,none⟩=some (.slice aU aQ.length aV)∧w'.cell? ⟨aJ,1,none⟩=some (.int .i64 bF)∧w'.cell? ⟨aJ,2,none⟩=some (.int .i64 bG)∧w'.cell? ⟨aJ,3,none⟩=some (.int .i64 bH)∧w'.cell? ⟨aa,0,none⟩=some (.int .i64 ag)∧w'.cell? ⟨aa,1,none⟩=some (.int .i64 ah)∧w'.cell? ⟨aa,2,none⟩=some (.int .i64 ai)∧w'.cell? ⟨aa,3,none⟩=some (.int .i64 aj)∧w'.cell? ⟨ab,0,none⟩=some (.int .i64 am)∧w'.cell? ⟨ab,1,none⟩=some (.int .i64 an)∧w'.cell? ⟨ab,2,none⟩=some (.int .i64 ao)∧w'.cell? ⟨ab,3,none⟩=some (.int .i64 ap)∧w'.cell? ⟨bp,0,none⟩=some (.slice a4 aX.length a5)∧w'.cell? ⟨bp,1,none⟩=some (.int .i64 bW)∧w'.cell? ⟨bp,2,none⟩=some (.int .i64 bX)∧w'.cell? ⟨bp,3,none⟩=some (.int .i64 bY)) laws_FnRingsTold.tab12 laws_FnRingsTold.bits12 qh11x1 fun HT_ HW_ hHeld=>?_;generalize bz.drew=iK at t p u q G I L O v j l s E z A D J U W HB hHeld ⊢;refine pZ 0 66 1 ?_;refine pZ 1 67 3 ?_;refine pZ 2 68 7 ?_;refine pZ 3 69 15 ?_;refine tZ 4 70 31 (y:=q11x1) (h:=?_);refine tZ 5 71 63 (y:=q11x1) (h:=?_);refine oZ 6 72 127 fun K hK=>?_;refine eX Try.func26 (laws_sameRing.calls bA.out (rX p) ((rY p)) (rX u) ((rY u))) ?_;intro iL hb;replace t:=rB t hb;replace p:=rB p hb;replace u:=rB u hb;replace q:=rB q hb;replace G:=rB G hb;replace I:=rB I hb;replace L:=rB L hb;replace O:=rB O hb;replace v:=kB v hb;replace j:=kB j hb;replace l:=kB l hb;replace s:=kB s hb;replace E:=kB E hb;replace z:=kB z hb;replace A:=kB A hb;replace D:=kB D hb;replace J:=kB J hb;replace U:=kB U hb;replace W:=kB W hb;replace HB:=sB hb
         (try clear hb);refine hK.out _ _ qh11x1 (fun hHeld=>?_);clear hK K;refine normZ (some 72) ?_;refine pZ 7 73 255 ?_;refine pZ 8 74 511 ?_;refine pZ 10 76 1535 ?_;refine pZ 13 79 9727 ?_;refine tZ 9 75 10239 (y:=q11x1) (h:=?_);refine tZ 12 78 14335 (y:=q11x1) (h:=?_);refine oZ 11 77 16383 fun K hK=>?_;refine eY Try.func15 (impl_Refilled.calls bI.out (rX q) ((rY q))) ?_;rintro bR iM ⟨a,hb⟩;have X:=aM (R_lower (R_newB (R_newB (R_newB (R_new' (R_new' (R_new' (R_new' (R_new' (R_new' (R_new' (R_new' a (R_lt (mR t))) (R_lt (mR p))) (R_lt (mR u))) (R_lt (mR q))) (R_lt (mR G))) (R_lt (mR I))) (R_lt (mR L))) (R_lt (mR O))) (g:=aa) (o:= .cells #[.int .i64 ag,.int .i64 ah,.int .i64 ai,.int .i64 aj] 33 (0,0)) (mK A)) (g:=ab) (o:= .cells #[.int .i64 am,.int .i64 an,.int .i64 ao,.int .i64 ap] 33 (0,0)) (mK J)) (g:=M) (o:= .cells #[.int .i64 ac,.int .i64 ad,.int .i64 ae,.int .i64 af] 33 (0,0)) (mK W)) (below_size cB));replace t:=eB t (R_base a) hb;replace p:=eB p (R_base a) hb;replace u:=eB u (R_base a) hb;replace q:=eB q (R_base a) hb;replace G:=eB G (R_base a) hb;replace I:=eB I (R_base a) hb;replace L:=eB L (R_base a) hb;replace O:=eB O (R_base a) hb;replace v:=kB v hb;replace j:=kB j hb;replace l:=kB l hb;replace s:=kB s hb;replace E:=kB E hb;replace z:=kB z hb;replace A:=kB A hb;replace D:=kB D hb;replace J:=kB J hb;replace U:=kB U hb;replace W:=kB W hb;replace HB:=sB hb
         (try clear hb)
         (try clear a);refine hK.out _ _ qh11x1 (fun hHeld=>?_);clear hK K;refine normZ (some 77) ?_;refine oZ 14 80 32767 fun K hK=>?_;refine eY Try.func27 (spec_Refilled.calls bJ.out (rX q) ((rY q))) ?_;rintro bS iN ⟨a,hb⟩;have Y:=aM (R_lower (R_newB (R_newB (R_newB (R_new' (R_new' (R_new' (R_new' (R_new' (R_new' (R_new' (R_new' (R_new' a (R_lt (mR t))) (R_lt (mR p))) (R_lt (mR u))) (R_lt (mR q))) (R_lt (mR G))) (R_lt (mR I))) (R_lt (mR L))) (R_lt (mR O))) (R_lt (mR X))) (g:=aa) (o:= .cells #[.int .i64 ag,.int .i64 ah,.int .i64 ai,.int .i64 aj] 33 (0,0)) (mK A)) (g:=ab) (o:= .cells #[.int .i64 am,.int .i64 an,.int .i64 ao,.int .i64 ap] 33 (0,0)) (mK J)) (g:=M) (o:= .cells #[.int .i64 ac,.int .i64 ad,.int .i64 ae,.int .i64 af] 33 (0,0)) (mK W)) (below_size cB));replace t:=eB t (R_base a) hb;replace p:=eB p (R_base a) hb;replace u:=eB u (R_base a) hb;replace q:=eB q (R_base a) hb;replace G:=eB G (R_base a) hb;replace I:=eB I (R_base a) hb;replace L:=eB L (R_base a) hb;replace O:=eB O (R_base a) hb;replace X:=eB X (R_base a) hb;replace v:=kB v hb;replace j:=kB j hb;replace l:=kB l hb;replace s:=kB s hb;replace E:=kB E hb;replace z:=kB z hb;replace A:=kB A hb;replace D:=kB D hb;replace J:=kB J hb;replace U:=kB U hb;replace W:=kB W hb;replace HB:=sB hb
         (try clear hb)
         (try clear a);obtain⟨iO,iP,cu⟩:=R_slice X.out
         (first|subst cu|(injection cu with f1_ f2_ f3_;have f4_:=f1_.symm;have f5_:=f3_.symm;clear f1_ f2_ f3_;subst f4_;subst f5_));obtain⟨iQ,iR,cv⟩:=R_slice Y.out
         (first|subst cv|(injection cv with f1_ f2_ f3_;have f4_:=f1_.symm;have f5_:=f3_.symm;clear f1_ f2_ f3_;subst f4_;subst f5_));refine hK.out _ _ qh11x1 (fun hHeld=>?_);clear hK K;refine normZ (some 80) ?_;refine oZ 15 81 65535 fun K hK=>?_;refine eX Try.func26 (laws_sameRing.calls bL.out (rX X) ((rY X)) (rX Y) ((rY Y))) ?_;intro iS hb;replace t:=rB t hb;replace p:=rB p hb;replace u:=rB u hb;replace q:=rB q hb;replace G:=rB G hb;replace I:=rB I hb;replace L:=rB L hb;replace O:=rB O hb;replace X:=rB X hb;replace Y:=rB Y hb;replace v:=kB v hb;replace j:=kB j hb;replace l:=kB l hb;replace s:=kB s hb;replace E:=kB E hb;replace z:=kB z hb;replace A:=kB A hb;replace D:=kB D hb;replace J:=kB J hb;replace U:=kB U hb;replace W:=kB W hb;replace HB:=sB hb
         (try clear hb);refine hK.out _ _ qh11x1 (fun hHeld=>?_);clear hK K;refine normZ (some 81) ?_;refine pZ 16 82 131071 ?_;refine pZ 17 83 262143 ?_;refine pZ 18 84 524287 ?_;refine pZ 19 85 1048575 ?_;refine pZ 20 86 2097151 ?_;refine pZ 21 87 4194303 ?_;refine pZ 22 88 8388607 ?_;refine tZ 23 89 16777215 (y:=q11x1) (h:=?_);refine tZ 24 90 33554431 (y:=q11x1) (h:=?_);refine oZ 25 91 67108863 fun K hK=>?_;refine eX Try.func26 (laws_sameRing.calls b1.out (rX I) ((rY I)) (rX L) ((rY L))) ?_;intro iU hb;replace t:=rB t hb;replace p:=rB p hb;replace u:=rB u hb;replace q:=rB q hb;replace G:=rB G hb;replace I:=rB I hb;replace L:=rB L hb;replace O:=rB O hb;replace X:=rB X hb;replace Y:=rB Y hb;replace v:=kB v hb;replace j:=kB j hb;replace l:=kB l hb;replace s:=kB s hb;replace E:=kB E hb;replace z:=kB z hb;replace A:=kB A hb;replace D:=kB D hb;replace J:=kB J hb;replace U:=kB U hb;replace W:=kB W hb;replace HB:=sB hb
         (try clear hb);refine hK.out _ _ qh11x1 (fun hHeld=>?_);clear hK K;refine normZ (some 91) ?_;refine pZ 26 92 134217727 ?_;refine pZ 27 93 268435455 ?_;refine tZ 28 94 536870911 (y:=q11x1) (h:=?_);refine tZ 29 95 1073741823 (y:=q11x1) (h:=?_);refine pZ 30 96 2147483647 ?_;refine pZ 31 97 4294967295 ?_;refine pZ 32 98 8589934591 ?_;refine tZ 33 99 17179869183 (y:=q11x1) (h:=?_);refine tZ 35 101 51539607551 (y:=q11x1) (h:=?_);refine oZ 34 100 68719476735 fun K hK=>?_;refine eX Try.func18 (impl_RingOk.calls cn.out (rX O) ((rY O))) ?_;intro iV hb;replace t:=rB t hb;replace p:=rB p hb;replace u:=rB u hb;replace q:=rB q hb;replace G:=rB G hb;replace I:=rB I hb;replace L:=rB L hb;replace O:=rB O hb;replace X:=rB X hb;replace Y:=rB Y hb;replace v:=kB v hb;replace j:=kB j hb;replace l:=kB l hb;replace s:=kB s hb;replace E:=kB E hb;replace z:=kB z hb;replace A:=kB A hb;replace D:=kB D hb;replace J:=kB J hb;replace U:=kB U hb;replace W:=kB W hb;replace HB:=sB hb
         (try clear hb);refine hK.out _ _ qh11x1 (fun hHeld=>?_);clear hK K;refine normZ (some 100) ?_;refine oZ 36 102 137438953471 fun K hK=>?_;refine eX Try.func28 (spec_RingOk.calls co.out (rX O) ((rY O))) ?_;intro iW hb;replace t:=rB t hb;replace p:=rB p hb;replace u:=rB u hb;replace q:=rB q hb;replace G:=rB G hb;replace I:=rB I hb;replace L:=rB L hb;replace O:=rB O hb;replace X:=rB X hb;replace Y:=rB Y hb;replace v:=kB v hb;replace j:=kB j hb;replace l:=kB l hb;replace s:=kB s hb;replace E:=kB E hb;replace z:=kB z hb;replace A:=kB A hb;replace D:=kB D hb;replace J:=kB J hb;replace U:=kB U hb;replace W:=kB W hb;replace HB:=sB hb
         (try clear hb);refine hK.out _ _ qh11x1 (fun hHeld=>?_);clear hK K;refine normZ (some 102) ?_;refine pZ 37 103 274877906943 ?_;refine pZ 38 104 549755813887 ?_;refine pZ 39 105 1099511627775 ?_;refine pureU 40 (some 106) (msk 56 2199023255551) HT_.out ?_;refine pureU 41 (some 107) (msk 56 4398046511103) HT_.out ?_;refine pureU 42 (some 108) (msk 56 8796093022207) HT_.out ?_;refine pureU 43 (some 109) (msk 56 17592186044415) HT_.out ?_;refine pureU 44 (some 110) (msk 56 35184372088831) HT_.out ?_;refine pZ 45 111 70368744177663 ?_;refine pZ 46 112 140737488355327 ?_;refine pureU 47 (some 113) (msk 56 281474976710655) HT_.out ?_;refine pureU 48 (some 114) (msk 56 562949953421311) HT_.out ?_;refine pZ 49 115 1125899906842623 ?_;refine pZ 50 116 2251799813685247 ?_;refine pureU 51 (some 117) (msk 56 4503599627370495) HT_.out ?_;refine pureU 52 (some 118) (msk 56 9007199254740991) HT_.out ?_;refine pureU 53 (some 119) (msk 56 18014398509481983) HT_.out ?_;refine pZ 54 120 36028797018963967 ?_;refine pZ 55 2 72057594037927935 ?_;refine done_ (done_of HT_.out (by kernel_rfl)) ?_
         try go_wp2
         go_ret;exact⟨rE,cB⟩
       ·rw[if_neg bb]at H;have fb:(ag == am && (ah == an && (ai == ao && (aj == ap))))=false:=by simpa using bb
        (try(have fc:decide (ag=am && (ah == an && (ai == ao && (aj == ap))))=false:=by simpa using bb))
        (try(have fd:(ag == am && (ah == an && (ai == ao && (aj == ap))))=false:=by simpa using bb))
        (try(have iX: ¬ (ag=am && (ah == an && (ai == ao && (aj == ap)))):=by simpa using bb));clear bb;obtain rfl:=Option.some.inj H;refine sZ 56 (fun w'=>w'.cell? ⟨ak,0,none⟩=some (.slice az aw.length aA)∧w'.cell? ⟨ak,1,none⟩=some (.int .i64 bj)∧w'.cell? ⟨ak,2,none⟩=some (.int .i64 bk)∧w'.cell? ⟨ak,3,none⟩=some (.int .i64 bl)∧w'.cell? ⟨al,0,none⟩=some (.slice aE ay.length aF)∧w'.cell? ⟨al,1,none⟩=some (.int .i64 bm)∧w'.cell? ⟨al,2,none⟩=some (.int .i64 bn)∧w'.cell? ⟨al,3,none⟩=some (.int .i64 bo)∧w'.cell? ⟨au,0,none⟩=some (.slice aG aD.length aH)∧w'.cell? ⟨au,1,none⟩=some (.int .i64 bs)∧w'.cell? ⟨au,2,none⟩=some (.int .i64 bu)∧w'.cell? ⟨au,3,none⟩=some (.int .i64 bv)∧w'.cell? ⟨aI,0,none⟩=some (.slice aR aO.length aS)∧w'.cell? ⟨aI,1,none⟩=some (.int .i64 bB)∧w'.cell? ⟨aI,2,none⟩=some (.int .i64 bC)∧w'.cell? ⟨aI,3,none⟩=some (.int .i64 bD)∧w'.cell? ⟨aJ,0,none⟩=some (.slice aU aQ.length aV)∧w'.cell? ⟨aJ,1,none⟩=some (.int .i64 bF)∧w'.cell? ⟨aJ,2,none⟩=some (.int .i64 bG)∧w'.cell? ⟨aJ,3,none⟩=some (.int .i64 bH)∧w'.cell? ⟨aa,0,none⟩=some (.int .i64 ag)∧w'.cell? ⟨aa,1,none⟩=some (.int .i64 ah)∧w'.cell? ⟨aa,2,none⟩=some (.int .i64 ai)∧w'.cell? ⟨aa,3,none⟩=some (.int .i64 aj)∧w'.cell? ⟨ab,0,none⟩=some (.int .i64 am)∧w'.cell? ⟨ab,1,none⟩=some (.int .i64 an)∧w'.cell? ⟨ab,2,none⟩=some (.int .i64 ao)∧w'.cell? ⟨ab,3,none⟩=some (.int .i64 ap)) laws_FnRingsTold.tab12 laws_FnRingsTold.bits12 qh11x2 fun HT_ HW_ hHeld=>?_;generalize bz.drew=iY at t p u q G I L O v j l s E z A D J U W HB hHeld ⊢;refine pZ 0 66 1 ?_;refine pZ 1 67 3 ?_;refine pZ 2 68 7 ?_;refine pZ 3 69 15 ?_;refine tZ 4 70 31 (y:=q11x2) (h:=?_);refine tZ 5 71 63 (y:=q11x2) (h:=?_);refine oZ 6 72 127 fun K hK=>?_;refine eX Try.func26 (laws_sameRing.calls bA.out (rX p) ((rY p)) (rX u) ((rY u))) ?_;intro iZ hb;replace t:=rB t hb;replace p:=rB p hb;replace u:=rB u hb;replace q:=rB q hb;replace G:=rB G hb;replace I:=rB I hb;replace L:=rB L hb;replace O:=rB O hb;replace v:=kB v hb;replace j:=kB j hb;replace l:=kB l hb;replace s:=kB s hb;replace E:=kB E hb;replace z:=kB z hb;replace A:=kB A hb;replace D:=kB D hb;replace J:=kB J hb;replace U:=kB U hb;replace W:=kB W hb;replace HB:=sB hb
        (try clear hb);refine hK.out _ _ qh11x2 (fun hHeld=>?_);clear hK K;refine normZ (some 72) ?_;refine pZ 7 73 255 ?_;refine pZ 8 74 511 ?_;refine pZ 10 76 1535 ?_;refine pZ 13 79 9727 ?_;refine tZ 9 75 10239 (y:=q11x2) (h:=?_);refine tZ 12 78 14335 (y:=q11x2) (h:=?_);refine oZ 11 77 16383 fun K hK=>?_;refine eY Try.func15 (impl_Refilled.calls bI.out (rX q) ((rY q))) ?_;rintro bR i0 ⟨a,hb⟩;have X:=aM (R_lower (R_newB (R_newB (R_newB (R_new' (R_new' (R_new' (R_new' (R_new' (R_new' (R_new' (R_new' a (R_lt (mR t))) (R_lt (mR p))) (R_lt (mR u))) (R_lt (mR q))) (R_lt (mR G))) (R_lt (mR I))) (R_lt (mR L))) (R_lt (mR O))) (g:=aa) (o:= .cells #[.int .i64 ag,.int .i64 ah,.int .i64 ai,.int .i64 aj] 33 (0,0)) (mK A)) (g:=ab) (o:= .cells #[.int .i64 am,.int .i64 an,.int .i64 ao,.int .i64 ap] 33 (0,0)) (mK J)) (g:=M) (o:= .cells #[.int .i64 ac,.int .i64 ad,.int .i64 ae,.int .i64 af] 33 (0,0)) (mK W)) (below_size cB));replace t:=eB t (R_base a) hb;replace p:=eB p (R_base a) hb;replace u:=eB u (R_base a) hb;replace q:=eB q (R_base a) hb;replace G:=eB G (R_base a) hb;replace I:=eB I (R_base a) hb;replace L:=eB L (R_base a) hb;replace O:=eB O (R_base a) hb;replace v:=kB v hb;replace j:=kB j hb;replace l:=kB l hb;replace s:=kB s hb;replace E:=kB E hb;replace z:=kB z hb;replace A:=kB A hb;replace D:=kB D hb;replace J:=kB J hb;replace U:=kB U hb;replace W:=kB W hb;replace HB:=sB hb
        (try clear hb)
        (try clear a);refine hK.out _ _ qh11x2 (fun hHeld=>?_);clear hK K;refine normZ (some 77) ?_;refine oZ 14 80 32767 fun K hK=>?_;refine eY Try.func27 (spec_Refilled.calls bJ.out (rX q) ((rY q))) ?_;rintro bS i1 ⟨a,hb⟩;have Y:=aM (R_lower (R_newB (R_newB (R_newB (R_new' (R_new' (R_new' (R_new' (R_new' (R_new' (R_new' (R_new' (R_new' a (R_lt (mR t))) (R_lt (mR p))) (R_lt (mR u))) (R_lt (mR q))) (R_lt (mR G))) (R_lt (mR I))) (R_lt (mR L))) (R_lt (mR O))) (R_lt (mR X))) (g:=aa) (o:= .cells #[.int .i64 ag,.int .i64 ah,.int .i64 ai,.int .i64 aj] 33 (0,0)) (mK A)) (g:=ab) (o:= .cells #[.int .i64 am,.int .i64 an,.int .i64 ao,.int .i64 ap] 33 (0,0)) (mK J)) (g:=M) (o:= .cells #[.int .i64 ac,.int .i64 ad,.int .i64 ae,.int .i64 af] 33 (0,0)) (mK W)) (below_size cB));replace t:=eB t (R_base a) hb;replace p:=eB p (R_base a) hb;replace u:=eB u (R_base a) hb;replace q:=eB q (R_base a) hb;replace G:=eB G (R_base a) hb;replace I:=eB I (R_base a) hb;replace L:=eB L (R_base a) hb;replace O:=eB O (R_base a) hb;replace X:=eB X (R_base a) hb;replace v:=kB v hb;replace j:=kB j hb;replace l:=kB l hb;replace s:=kB s hb;replace E:=kB E hb;replace z:=kB z hb;replace A:=kB A hb;replace D:=kB D hb;replace J:=kB J hb;replace U:=kB U hb;replace W:=kB W hb;replace HB:=sB hb
        (try clear hb)
        (try clear a);obtain⟨i2,i3,cw⟩:=R_slice X.out
        (first|subst cw|(injection cw with f1_ f2_ f3_;have f4_:=f1_.symm;have f5_:=f3_.symm;clear f1_ f2_ f3_;subst f4_;subst f5_));obtain⟨i4,i5,cx⟩:=R_slice Y.out
        (first|subst cx|(injection cx with f1_ f2_ f3_;have f4_:=f1_.symm;have f5_:=f3_.symm;clear f1_ f2_ f3_;subst f4_;subst f5_));refine hK.out _ _ qh11x2 (fun hHeld=>?_);clear hK K;refine normZ (some 80) ?_;refine oZ 15 81 65535 fun K hK=>?_;refine eX Try.func26 (laws_sameRing.calls bL.out (rX X) ((rY X)) (rX Y) ((rY Y))) ?_;intro i6 hb;replace t:=rB t hb;replace p:=rB p hb;replace u:=rB u hb;replace q:=rB q hb;replace G:=rB G hb;replace I:=rB I hb;replace L:=rB L hb;replace O:=rB O hb;replace X:=rB X hb;replace Y:=rB Y hb;replace v:=kB v hb;replace j:=kB j hb;replace l:=kB l hb;replace s:=kB s hb;replace E:=kB E hb;replace z:=kB z hb;replace A:=kB A hb;replace D:=kB D hb;replace J:=kB J hb;replace U:=kB U hb;replace W:=kB W hb;replace HB:=sB hb
        (try clear hb);refine hK.out _ _ qh11x2 (fun hHeld=>?_);clear hK K;refine normZ (some 81) ?_;refine pZ 16 82 131071 ?_;refine pZ 17 83 262143 ?_;refine pZ 18 84 524287 ?_;refine pZ 19 85 1048575 ?_;refine pZ 20 86 2097151 ?_;refine pZ 21 87 4194303 ?_;refine pZ 22 88 8388607 ?_;refine tZ 23 89 16777215 (y:=q11x2) (h:=?_);refine tZ 24 90 33554431 (y:=q11x2) (h:=?_);refine oZ 25 91 67108863 fun K hK=>?_;refine eX Try.func26 (laws_sameRing.calls b1.out (rX I) ((rY I)) (rX L) ((rY L))) ?_;intro i7 hb;replace t:=rB t hb;replace p:=rB p hb;replace u:=rB u hb;replace q:=rB q hb;replace G:=rB G hb;replace I:=rB I hb;replace L:=rB L hb;replace O:=rB O hb;replace X:=rB X hb;replace Y:=rB Y hb;replace v:=kB v hb;replace j:=kB j hb;replace l:=kB l hb;replace s:=kB s hb;replace E:=kB E hb;replace z:=kB z hb;replace A:=kB A hb;replace D:=kB D hb;replace J:=kB J hb;replace U:=kB U hb;replace W:=kB W hb;replace HB:=sB hb
        (try clear hb);refine hK.out _ _ qh11x2 (fun hHeld=>?_);clear hK K;refine normZ (some 91) ?_;refine pZ 26 92 134217727 ?_;refine pZ 27 93 268435455 ?_;refine tZ 28 94 536870911 (y:=q11x2) (h:=?_);refine tZ 29 95 1073741823 (y:=q11x2) (h:=?_);refine pZ 30 96 2147483647 ?_;refine pZ 31 97 4294967295 ?_;refine pZ 32 98 8589934591 ?_;refine pureU 33 (some 99) (msk 56 17179869183) HT_.out ?_;refine pureU 34 (some 100) (msk 56 34359738367) HT_.out ?_;refine pureU 35 (some 101) (msk 56 68719476735) HT_.out ?_;refine pureU 36 (some 102) (msk 56 137438953471) HT_.out ?_;refine pureU 37 (some 103) (msk 56 274877906943) HT_.out ?_;refine pZ 38 104 549755813887 ?_;refine pZ 39 105 1099511627775 ?_;refine pureU 40 (some 106) (msk 56 2199023255551) HT_.out ?_;refine pureU 41 (some 107) (msk 56 4398046511103) HT_.out ?_;refine pureU 42 (some 108) (msk 56 8796093022207) HT_.out ?_;refine pureU 43 (some 109) (msk 56 17592186044415) HT_.out ?_;refine pureU 44 (some 110) (msk 56 35184372088831) HT_.out ?_;refine pZ 45 111 70368744177663 ?_;refine pZ 46 112 140737488355327 ?_;refine pureU 47 (some 113) (msk 56 281474976710655) HT_.out ?_;refine pureU 48 (some 114) (msk 56 562949953421311) HT_.out ?_;refine pZ 49 115 1125899906842623 ?_;refine pZ 50 116 2251799813685247 ?_;refine pureU 51 (some 117) (msk 56 4503599627370495) HT_.out ?_;refine pureU 52 (some 118) (msk 56 9007199254740991) HT_.out ?_;refine pureU 53 (some 119) (msk 56 18014398509481983) HT_.out ?_;refine pZ 54 120 36028797018963967 ?_;refine pZ 55 2 72057594037927935 ?_;refine done_ (done_of HT_.out (by kernel_rfl)) ?_
        try go_wp2
        go_ret;exact⟨rE,cB⟩
      ·replace b5:=Bool.eq_false_iff.mpr b5;subst b5;replace H:=iF H;obtain rfl:=Option.some.inj H;refine sZ 56 (fun w'=>w'.cell? ⟨ak,0,none⟩=some (.slice az aw.length aA)∧w'.cell? ⟨ak,1,none⟩=some (.int .i64 bj)∧w'.cell? ⟨ak,2,none⟩=some (.int .i64 bk)∧w'.cell? ⟨ak,3,none⟩=some (.int .i64 bl)∧w'.cell? ⟨al,0,none⟩=some (.slice aE ay.length aF)∧w'.cell? ⟨al,1,none⟩=some (.int .i64 bm)∧w'.cell? ⟨al,2,none⟩=some (.int .i64 bn)∧w'.cell? ⟨al,3,none⟩=some (.int .i64 bo)∧w'.cell? ⟨au,0,none⟩=some (.slice aG aD.length aH)∧w'.cell? ⟨au,1,none⟩=some (.int .i64 bs)∧w'.cell? ⟨au,2,none⟩=some (.int .i64 bu)∧w'.cell? ⟨au,3,none⟩=some (.int .i64 bv)∧w'.cell? ⟨aI,0,none⟩=some (.slice aR aO.length aS)∧w'.cell? ⟨aI,1,none⟩=some (.int .i64 bB)∧w'.cell? ⟨aI,2,none⟩=some (.int .i64 bC)∧w'.cell? ⟨aI,3,none⟩=some (.int .i64 bD)∧w'.cell? ⟨aJ,0,none⟩=some (.slice aU aQ.length aV)∧w'.cell? ⟨aJ,1,none⟩=some (.int .i64 bF)∧w'.cell? ⟨aJ,2,none⟩=some (.int .i64 bG)∧w'.cell? ⟨aJ,3,none⟩=some (.int .i64 bH)) laws_FnRingsTold.tab12 laws_FnRingsTold.bits12 qh11x3 fun HT_ HW_ hHeld=>?_;generalize bz.drew=i8 at t p u q G I L O v j l s E z A D J U W HB hHeld ⊢;refine pZ 0 66 1 ?_;refine pZ 1 67 3 ?_;refine pZ 2 68 7 ?_;refine pZ 3 69 15 ?_;refine tZ 4 70 31 (y:=q11x3) (h:=?_);refine tZ 5 71 63 (y:=q11x3) (h:=?_);refine oZ 6 72 127 fun K hK=>?_;refine eX Try.func26 (laws_sameRing.calls bA.out (rX p) ((rY p)) (rX u) ((rY u))) ?_;intro i9 hb;replace t:=rB t hb;replace p:=rB p hb;replace u:=rB u hb;replace q:=rB q hb;replace G:=rB G hb;replace I:=rB I hb;replace L:=rB L hb;replace O:=rB O hb;replace v:=kB v hb;replace j:=kB j hb;replace l:=kB l hb;replace s:=kB s hb;replace E:=kB E hb;replace z:=kB z hb;replace A:=kB A hb;replace D:=kB D hb;replace J:=kB J hb;replace U:=kB U hb;replace W:=kB W hb;replace HB:=sB hb
       (try clear hb);refine hK.out _ _ qh11x3 (fun hHeld=>?_);clear hK K;refine normZ (some 72) ?_;refine pZ 7 73 255 ?_;refine pZ 8 74 511 ?_;refine pZ 10 76 1535 ?_;refine pZ 13 79 9727 ?_;refine tZ 9 75 10239 (y:=q11x3) (h:=?_);refine tZ 12 78 14335 (y:=q11x3) (h:=?_);refine oZ 11 77 16383 fun K hK=>?_;refine eY Try.func15 (impl_Refilled.calls bI.out (rX q) ((rY q))) ?_;rintro bR ja ⟨a,hb⟩;have X:=aM (R_lower (R_newB (R_newB (R_newB (R_new' (R_new' (R_new' (R_new' (R_new' (R_new' (R_new' (R_new' a (R_lt (mR t))) (R_lt (mR p))) (R_lt (mR u))) (R_lt (mR q))) (R_lt (mR G))) (R_lt (mR I))) (R_lt (mR L))) (R_lt (mR O))) (g:=aa) (o:= .cells #[.int .i64 ag,.int .i64 ah,.int .i64 ai,.int .i64 aj] 33 (0,0)) (mK A)) (g:=ab) (o:= .cells #[.int .i64 am,.int .i64 an,.int .i64 ao,.int .i64 ap] 33 (0,0)) (mK J)) (g:=M) (o:= .cells #[.int .i64 ac,.int .i64 ad,.int .i64 ae,.int .i64 af] 33 (0,0)) (mK W)) (below_size cB));replace t:=eB t (R_base a) hb;replace p:=eB p (R_base a) hb;replace u:=eB u (R_base a) hb;replace q:=eB q (R_base a) hb;replace G:=eB G (R_base a) hb;replace I:=eB I (R_base a) hb;replace L:=eB L (R_base a) hb;replace O:=eB O (R_base a) hb;replace v:=kB v hb;replace j:=kB j hb;replace l:=kB l hb;replace s:=kB s hb;replace E:=kB E hb;replace z:=kB z hb;replace A:=kB A hb;replace D:=kB D hb;replace J:=kB J hb;replace U:=kB U hb;replace W:=kB W hb;replace HB:=sB hb
       (try clear hb)
       (try clear a);refine hK.out _ _ qh11x3 (fun hHeld=>?_);clear hK K;refine normZ (some 77) ?_;refine oZ 14 80 32767 fun K hK=>?_;refine eY Try.func27 (spec_Refilled.calls bJ.out (rX q) ((rY q))) ?_;rintro bS jb ⟨a,hb⟩;have Y:=aM (R_lower (R_newB (R_newB (R_newB (R_new' (R_new' (R_new' (R_new' (R_new' (R_new' (R_new' (R_new' (R_new' a (R_lt (mR t))) (R_lt (mR p))) (R_lt (mR u))) (R_lt (mR q))) (R_lt (mR G))) (R_lt (mR I))) (R_lt (mR L))) (R_lt (mR O))) (R_lt (mR X))) (g:=aa) (o:= .cells #[.int .i64 ag,.int .i64 ah,.int .i64 ai,.int .i64 aj] 33 (0,0)) (mK A)) (g:=ab) (o:= .cells #[.int .i64 am,.int .i64 an,.int .i64 ao,.int .i64 ap] 33 (0,0)) (mK J)) (g:=M) (o:= .cells #[.int .i64 ac,.int .i64 ad,.int .i64 ae,.int .i64 af] 33 (0,0)) (mK W)) (below_size cB));replace t:=eB t (R_base a) hb;replace p:=eB p (R_base a) hb;replace u:=eB u (R_base a) hb;replace q:=eB q (R_base a) hb;replace G:=eB G (R_base a) hb;replace I:=eB I (R_base a) hb;replace L:=eB L (R_base a) hb;replace O:=eB O (R_base a) hb;replace X:=eB X (R_base a) hb;replace v:=kB v hb;replace j:=kB j hb;replace l:=kB l hb;replace s:=kB s hb;replace E:=kB E hb;replace z:=kB z hb;replace A:=kB A hb;replace D:=kB D hb;replace J:=kB J hb;replace U:=kB U hb;replace W:=kB W hb;replace HB:=sB hb
       (try clear hb)
       (try clear a);obtain⟨jc,jd,cy⟩:=R_slice X.out
       (first|subst cy|(injection cy with f1_ f2_ f3_;have f4_:=f1_.symm;have f5_:=f3_.symm;clear f1_ f2_ f3_;subst f4_;subst f5_));obtain⟨je,jf,cz⟩:=R_slice Y.out
       (first|subst cz|(injection cz with f1_ f2_ f3_;have f4_:=f1_.symm;have f5_:=f3_.symm;clear f1_ f2_ f3_;subst f4_;subst f5_));refine hK.out _ _ qh11x3 (fun hHeld=>?_);clear hK K;refine normZ (some 80) ?_;refine oZ 15 81 65535 fun K hK=>?_;refine eX Try.func26 (laws_sameRing.calls bL.out (rX X) ((rY X)) (rX Y) ((rY Y))) ?_;intro jg hb;replace t:=rB t hb;replace p:=rB p hb;replace u:=rB u hb;replace q:=rB q hb;replace G:=rB G hb;replace I:=rB I hb;replace L:=rB L hb;replace O:=rB O hb;replace X:=rB X hb;replace Y:=rB Y hb;replace v:=kB v hb;replace j:=kB j hb;replace l:=kB l hb;replace s:=kB s hb;replace E:=kB E hb;replace z:=kB z hb;replace A:=kB A hb;replace D:=kB D hb;replace J:=kB J hb;replace U:=kB U hb;replace W:=kB W hb;replace HB:=sB hb
       (try clear hb);refine hK.out _ _ qh11x3 (fun hHeld=>?_);clear hK K;refine normZ (some 81) ?_;refine pZ 16 82 131071 ?_;refine pZ 17 83 262143 ?_;refine pZ 18 84 524287 ?_;refine pZ 19 85 1048575 ?_;refine pZ 20 86 2097151 ?_;refine pZ 21 87 4194303 ?_;refine pZ 22 88 8388607 ?_;refine tZ 23 89 16777215 (y:=q11x3) (h:=?_);refine tZ 24 90 33554431 (y:=q11x3) (h:=?_);refine oZ 25 91 67108863 fun K hK=>?_;refine eX Try.func26 (laws_sameRing.calls b1.out (rX I) ((rY I)) (rX L) ((rY L))) ?_;intro jh hb;replace t:=rB t hb;replace p:=rB p hb;replace u:=rB u hb;replace q:=rB q hb;replace G:=rB G hb;replace I:=rB I hb;replace L:=rB L hb;replace O:=rB O hb;replace X:=rB X hb;replace Y:=rB Y hb;replace v:=kB v hb;replace j:=kB j hb;replace l:=kB l hb;replace s:=kB s hb;replace E:=kB E hb;replace z:=kB z hb;replace A:=kB A hb;replace D:=kB D hb;replace J:=kB J hb;replace U:=kB U hb;replace W:=kB W hb;replace HB:=sB hb
       (try clear hb);refine hK.out _ _ qh11x3 (fun hHeld=>?_);clear hK K;refine normZ (some 91) ?_;refine pZ 26 92 134217727 ?_;refine pZ 27 93 268435455 ?_;refine pureU 28 (some 94) (msk 56 536870911) HT_.out ?_;refine pureU 29 (some 95) (msk 56 1073741823) HT_.out ?_;refine pureU 30 (some 96) (msk 56 2147483647) HT_.out ?_;refine pZ 31 97 4294967295 ?_;refine pZ 32 98 8589934591 ?_;refine pureU 33 (some 99) (msk 56 17179869183) HT_.out ?_;refine pureU 34 (some 100) (msk 56 34359738367) HT_.out ?_;refine pureU 35 (some 101) (msk 56 68719476735) HT_.out ?_;refine pureU 36 (some 102) (msk 56 137438953471) HT_.out ?_;refine pureU 37 (some 103) (msk 56 274877906943) HT_.out ?_;refine pZ 38 104 549755813887 ?_;refine pZ 39 105 1099511627775 ?_;refine pureU 40 (some 106) (msk 56 2199023255551) HT_.out ?_;refine pureU 41 (some 107) (msk 56 4398046511103) HT_.out ?_;refine pureU 42 (some 108) (msk 56 8796093022207) HT_.out ?_;refine pureU 43 (some 109) (msk 56 17592186044415) HT_.out ?_;refine pureU 44 (some 110) (msk 56 35184372088831) HT_.out ?_;refine pZ 45 111 70368744177663 ?_;refine pZ 46 112 140737488355327 ?_;refine pureU 47 (some 113) (msk 56 281474976710655) HT_.out ?_;refine pureU 48 (some 114) (msk 56 562949953421311) HT_.out ?_;refine pZ 49 115 1125899906842623 ?_;refine pZ 50 116 2251799813685247 ?_;refine pureU 51 (some 117) (msk 56 4503599627370495) HT_.out ?_;refine pureU 52 (some 118) (msk 56 9007199254740991) HT_.out ?_;refine pureU 53 (some 119) (msk 56 18014398509481983) HT_.out ?_;refine pZ 54 120 36028797018963967 ?_;refine pZ 55 2 72057594037927935 ?_;refine done_ (done_of HT_.out (by kernel_rfl)) ?_
       try go_wp2
       go_ret;exact⟨rE,cB⟩
     ·rw[if_neg ba]at H;have e8:(bw == bx)=false:=by simpa using ba
      (try(have e9:decide (bw=bx)=false:=by simpa using ba))
      (try(have fa:(bw == bx)=false:=by simpa using ba))
      (try(have ji: ¬ (bw=bx):=by simpa using ba));clear ba;obtain rfl:=Option.some.inj H;refine sZ 56 (fun w'=>w'.cell? ⟨ak,0,none⟩=some (.slice az aw.length aA)∧w'.cell? ⟨ak,1,none⟩=some (.int .i64 bj)∧w'.cell? ⟨ak,2,none⟩=some (.int .i64 bk)∧w'.cell? ⟨ak,3,none⟩=some (.int .i64 bl)∧w'.cell? ⟨al,0,none⟩=some (.slice aE ay.length aF)∧w'.cell? ⟨al,1,none⟩=some (.int .i64 bm)∧w'.cell? ⟨al,2,none⟩=some (.int .i64 bn)∧w'.cell? ⟨al,3,none⟩=some (.int .i64 bo)∧w'.cell? ⟨au,0,none⟩=some (.slice aG aD.length aH)∧w'.cell? ⟨au,1,none⟩=some (.int .i64 bs)∧w'.cell? ⟨au,2,none⟩=some (.int .i64 bu)∧w'.cell? ⟨au,3,none⟩=some (.int .i64 bv)) laws_FnRingsTold.tab12 laws_FnRingsTold.bits12 qh11x4 fun HT_ HW_ hHeld=>?_;generalize bz.drew=jj at t p u q G I L O v j l s E z A D J U W HB hHeld ⊢;refine pZ 0 66 1 ?_;refine pZ 1 67 3 ?_;refine pZ 2 68 7 ?_;refine pZ 3 69 15 ?_;refine tZ 4 70 31 (y:=q11x4) (h:=?_);refine tZ 5 71 63 (y:=q11x4) (h:=?_);refine oZ 6 72 127 fun K hK=>?_;refine eX Try.func26 (laws_sameRing.calls bA.out (rX p) ((rY p)) (rX u) ((rY u))) ?_;intro jk hb;replace t:=rB t hb;replace p:=rB p hb;replace u:=rB u hb;replace q:=rB q hb;replace G:=rB G hb;replace I:=rB I hb;replace L:=rB L hb;replace O:=rB O hb;replace v:=kB v hb;replace j:=kB j hb;replace l:=kB l hb;replace s:=kB s hb;replace E:=kB E hb;replace z:=kB z hb;replace A:=kB A hb;replace D:=kB D hb;replace J:=kB J hb;replace U:=kB U hb;replace W:=kB W hb;replace HB:=sB hb
      (try clear hb);refine hK.out _ _ qh11x4 (fun hHeld=>?_);clear hK K;refine normZ (some 72) ?_;refine pZ 7 73 255 ?_;refine pZ 8 74 511 ?_;refine pZ 10 76 1535 ?_;refine pZ 13 79 9727 ?_;refine tZ 9 75 10239 (y:=q11x4) (h:=?_);refine tZ 12 78 14335 (y:=q11x4) (h:=?_);refine oZ 11 77 16383 fun K hK=>?_;refine eY Try.func15 (impl_Refilled.calls bI.out (rX q) ((rY q))) ?_;rintro bR jl ⟨a,hb⟩;have X:=aM (R_lower (R_newB (R_newB (R_newB (R_new' (R_new' (R_new' (R_new' (R_new' (R_new' (R_new' (R_new' a (R_lt (mR t))) (R_lt (mR p))) (R_lt (mR u))) (R_lt (mR q))) (R_lt (mR G))) (R_lt (mR I))) (R_lt (mR L))) (R_lt (mR O))) (g:=aa) (o:= .cells #[.int .i64 ag,.int .i64 ah,.int .i64 ai,.int .i64 aj] 33 (0,0)) (mK A)) (g:=ab) (o:= .cells #[.int .i64 am,.int .i64 an,.int .i64 ao,.int .i64 ap] 33 (0,0)) (mK J)) (g:=M) (o:= .cells #[.int .i64 ac,.int .i64 ad,.int .i64 ae,.int .i64 af] 33 (0,0)) (mK W)) (below_size cB));replace t:=eB t (R_base a) hb;replace p:=eB p (R_base a) hb;replace u:=eB u (R_base a) hb;replace q:=eB q (R_base a) hb;replace G:=eB G (R_base a) hb;replace I:=eB I (R_base a) hb;replace L:=eB L (R_base a) hb;replace O:=eB O (R_base a) hb;replace v:=kB v hb;replace j:=kB j hb;replace l:=kB l hb;replace s:=kB s hb;replace E:=kB E hb;replace z:=kB z hb;replace A:=kB A hb;replace D:=kB D hb;replace J:=kB J hb;replace U:=kB U hb;replace W:=kB W hb;replace HB:=sB hb
      (try clear hb)
      (try clear a);refine hK.out _ _ qh11x4 (fun hHeld=>?_);clear hK K;refine normZ (some 77) ?_;refine oZ 14 80 32767 fun K hK=>?_;refine eY Try.func27 (spec_Refilled.calls bJ.out (rX q) ((rY q))) ?_;rintro bS jm ⟨a,hb⟩;have Y:=aM (R_lower (R_newB (R_newB (R_newB (R_new' (R_new' (R_new' (R_new' (R_new' (R_new' (R_new' (R_new' (R_new' a (R_lt (mR t))) (R_lt (mR p))) (R_lt (mR u))) (R_lt (mR q))) (R_lt (mR G))) (R_lt (mR I))) (R_lt (mR L))) (R_lt (mR O))) (R_lt (mR X))) (g:=aa) (o:= .cells #[.int .i64 ag,.int .i64 ah,.int .i64 ai,.int .i64 aj] 33 (0,0)) (mK A)) (g:=ab) (o:= .cells #[.int .i64 am,.int .i64 an,.int .i64 ao,.int .i64 ap] 33 (0,0)) (mK J)) (g:=M) (o:= .cells #[.int .i64 ac,.int .i64 ad,.int .i64 ae,.int .i64 af] 33 (0,0)) (mK W)) (below_size cB));replace t:=eB t (R_base a) hb;replace p:=eB p (R_base a) hb;replace u:=eB u (R_base a) hb;replace q:=eB q (R_base a) hb;replace G:=eB G (R_base a) hb;replace I:=eB I (R_base a) hb;replace L:=eB L (R_base a) hb;replace O:=eB O (R_base a) hb;replace X:=eB X (R_base a) hb;replace v:=kB v hb;replace j:=kB j hb;replace l:=kB l hb;replace s:=kB s hb;replace E:=kB E hb;replace z:=kB z hb;replace A:=kB A hb;replace D:=kB D hb;replace J:=kB J hb;replace U:=kB U hb;replace W:=kB W hb;replace HB:=sB hb
      (try clear hb)
      (try clear a);obtain⟨jn,jo,cA⟩:=R_slice X.out
      (first|subst cA|(injection cA with f1_ f2_ f3_;have f4_:=f1_.symm;have f5_:=f3_.symm;clear f1_ f2_ f3_;subst f4_;subst f5_));obtain⟨jp,jq,cD⟩:=R_slice Y.out
      (first|subst cD|(injection cD with f1_ f2_ f3_;have f4_:=f1_.symm;have f5_:=f3_.symm;clear f1_ f2_ f3_;subst f4_;subst f5_));refine hK.out _ _ qh11x4 (fun hHeld=>?_);clear hK K;refine normZ (some 80) ?_;refine oZ 15 81 65535 fun K hK=>?_;refine eX Try.func26 (laws_sameRing.calls bL.out (rX X) ((rY X)) (rX Y) ((rY Y))) ?_;intro jr hb;replace t:=rB t hb;replace p:=rB p hb;replace u:=rB u hb;replace q:=rB q hb;replace G:=rB G hb;replace I:=rB I hb;replace L:=rB L hb;replace O:=rB O hb;replace X:=rB X hb;replace Y:=rB Y hb;replace v:=kB v hb;replace j:=kB j hb;replace l:=kB l hb;replace s:=kB s hb;replace E:=kB E hb;replace z:=kB z hb;replace A:=kB A hb;replace D:=kB D hb;replace J:=kB J hb;replace U:=kB U hb;replace W:=kB W hb;replace HB:=sB hb
      (try clear hb);refine hK.out _ _ qh11x4 (fun hHeld=>?_);clear hK K;refine normZ (some 81) ?_;refine pZ 16 82 131071 ?_;refine pZ 17 83 262143 ?_;refine pZ 18 84 524287 ?_;refine pZ 19 85 1048575 ?_;refine pZ 20 86 2097151 ?_;refine pZ 21 87 4194303 ?_;refine pZ 22 88 8388607 ?_;refine pureU 23 (some 89) (msk 56 16777215) HT_.out ?_;refine pureU 24 (some 90) (msk 56 33554431) HT_.out ?_;refine pureU 25 (some 91) (msk 56 67108863) HT_.out ?_;refine pZ 26 92 134217727 ?_;refine pZ 27 93 268435455 ?_;refine pureU 28 (some 94) (msk 56 536870911) HT_.out ?_;refine pureU 29 (some 95) (msk 56 1073741823) HT_.out ?_;refine pureU 30 (some 96) (msk 56 2147483647) HT_.out ?_;refine pZ 31 97 4294967295 ?_;refine pZ 32 98 8589934591 ?_;refine pureU 33 (some 99) (msk 56 17179869183) HT_.out ?_;refine pureU 34 (some 100) (msk 56 34359738367) HT_.out ?_;refine pureU 35 (some 101) (msk 56 68719476735) HT_.out ?_;refine pureU 36 (some 102) (msk 56 137438953471) HT_.out ?_;refine pureU 37 (some 103) (msk 56 274877906943) HT_.out ?_;refine pZ 38 104 549755813887 ?_;refine pZ 39 105 1099511627775 ?_;refine pureU 40 (some 106) (msk 56 2199023255551) HT_.out ?_;refine pureU 41 (some 107) (msk 56 4398046511103) HT_.out ?_;refine pureU 42 (some 108) (msk 56 8796093022207) HT_.out ?_;refine pureU 43 (some 109) (msk 56 17592186044415) HT_.out ?_;refine pureU 44 (some 110) (msk 56 35184372088831) HT_.out ?_;refine pZ 45 111 70368744177663 ?_;refine pZ 46 112 140737488355327 ?_;refine pureU 47 (some 113) (msk 56 281474976710655) HT_.out ?_;refine pureU 48 (some 114) (msk 56 562949953421311) HT_.out ?_;refine pZ 49 115 1125899906842623 ?_;refine pZ 50 116 2251799813685247 ?_;refine pureU 51 (some 117) (msk 56 4503599627370495) HT_.out ?_;refine pureU 52 (some 118) (msk 56 9007199254740991) HT_.out ?_;refine pureU 53 (some 119) (msk 56 18014398509481983) HT_.out ?_;refine pZ 54 120 36028797018963967 ?_;refine pZ 55 2 72057594037927935 ?_;refine done_ (done_of HT_.out (by kernel_rfl)) ?_
      try go_wp2
      go_ret;exact⟨rE,cB⟩
    ·replace b0:=Bool.eq_false_iff.mpr b0;subst b0;replace H:=iF H;obtain rfl:=Option.some.inj H;refine sZ 56 (fun w'=>w'.cell? ⟨ak,0,none⟩=some (.slice az aw.length aA)∧w'.cell? ⟨ak,1,none⟩=some (.int .i64 bj)∧w'.cell? ⟨ak,2,none⟩=some (.int .i64 bk)∧w'.cell? ⟨ak,3,none⟩=some (.int .i64 bl)∧w'.cell? ⟨al,0,none⟩=some (.slice aE ay.length aF)∧w'.cell? ⟨al,1,none⟩=some (.int .i64 bm)∧w'.cell? ⟨al,2,none⟩=some (.int .i64 bn)∧w'.cell? ⟨al,3,none⟩=some (.int .i64 bo)∧w'.cell? ⟨au,0,none⟩=some (.slice aG aD.length aH)∧w'.cell? ⟨au,1,none⟩=some (.int .i64 bs)∧w'.cell? ⟨au,2,none⟩=some (.int .i64 bu)∧w'.cell? ⟨au,3,none⟩=some (.int .i64 bv)) laws_FnRingsTold.tab12 laws_FnRingsTold.bits12 qh11x4 fun HT_ HW_ hHeld=>?_;generalize bz.drew=js at t p u q G I L O v j l s E z A D J U W HB hHeld ⊢;refine pZ 0 66 1 ?_;refine pZ 1 67 3 ?_;refine pZ 2 68 7 ?_;refine pZ 3 69 15 ?_;refine tZ 4 70 31 (y:=q11x4) (h:=?_);refine tZ 5 71 63 (y:=q11x4) (h:=?_);refine oZ 6 72 127 fun K hK=>?_;refine eX Try.func26 (laws_sameRing.calls bA.out (rX p) ((rY p)) (rX u) ((rY u))) ?_;intro jt hb;replace t:=rB t hb;replace p:=rB p hb;replace u:=rB u hb;replace q:=rB q hb;replace G:=rB G hb;replace I:=rB I hb;replace L:=rB L hb;replace O:=rB O hb;replace v:=kB v hb;replace j:=kB j hb;replace l:=kB l hb;replace s:=kB s hb;replace E:=kB E hb;replace z:=kB z hb;replace A:=kB A hb;replace D:=kB D hb;replace J:=kB J hb;replace U:=kB U hb;replace W:=kB W hb;replace HB:=sB hb
     (try clear hb);refine hK.out _ _ qh11x4 (fun hHeld=>?_);clear hK K;refine normZ (some 72) ?_;refine pZ 7 73 255 ?_;refine pZ 8 74 511 ?_;refine pZ 10 76 1535 ?_;refine pZ 13 79 9727 ?_;refine tZ 9 75 10239 (y:=q11x4) (h:=?_);refine tZ 12 78 14335 (y:=q11x4) (h:=?_);refine oZ 11 77 16383 fun K hK=>?_;refine eY Try.func15 (impl_Refilled.calls bI.out (rX q) ((rY q))) ?_;rintro bR ju ⟨a,hb⟩;have X:=aM (R_lower (R_newB (R_newB (R_newB (R_new' (R_new' (R_new' (R_new' (R_new' (R_new' (R_new' (R_new' a (R_lt (mR t))) (R_lt (mR p))) (R_lt (mR u))) (R_lt (mR q))) (R_lt (mR G))) (R_lt (mR I))) (R_lt (mR L))) (R_lt (mR O))) (g:=aa) (o:= .cells #[.int .i64 ag,.int .i64 ah,.int .i64 ai,.int .i64 aj] 33 (0,0)) (mK A)) (g:=ab) (o:= .cells #[.int .i64 am,.int .i64 an,.int .i64 ao,.int .i64 ap] 33 (0,0)) (mK J)) (g:=M) (o:= .cells #[.int .i64 ac,.int .i64 ad,.int .i64 ae,.int .i64 af] 33 (0,0)) (mK W)) (below_size cB));replace t:=eB t (R_base a) hb;replace p:=eB p (R_base a) hb;replace u:=eB u (R_base a) hb;replace q:=eB q (R_base a) hb;replace G:=eB G (R_base a) hb;replace I:=eB I (R_base a) hb;replace L:=eB L (R_base a) hb;replace O:=eB O (R_base a) hb;replace v:=kB v hb;replace j:=kB j hb;replace l:=kB l hb;replace s:=kB s hb;replace E:=kB E hb;replace z:=kB z hb;replace A:=kB A hb;replace D:=kB D hb;replace J:=kB J hb;replace U:=kB U hb;replace W:=kB W hb;replace HB:=sB hb
     (try clear hb)
     (try clear a);refine hK.out _ _ qh11x4 (fun hHeld=>?_);clear hK K;refine normZ (some 77) ?_;refine oZ 14 80 32767 fun K hK=>?_;refine eY Try.func27 (spec_Refilled.calls bJ.out (rX q) ((rY q))) ?_;rintro bS jv ⟨a,hb⟩;have Y:=aM (R_lower (R_newB (R_newB (R_newB (R_new' (R_new' (R_new' (R_new' (R_new' (R_new' (R_new' (R_new' (R_new' a (R_lt (mR t))) (R_lt (mR p))) (R_lt (mR u))) (R_lt (mR q))) (R_lt (mR G))) (R_lt (mR I))) (R_lt (mR L))) (R_lt (mR O))) (R_lt (mR X))) (g:=aa) (o:= .cells #[.int .i64 ag,.int .i64 ah,.int .i64 ai,.int .i64 aj] 33 (0,0)) (mK A)) (g:=ab) (o:= .cells #[.int .i64 am,.int .i64 an,.int .i64 ao,.int .i64 ap] 33 (0,0)) (mK J)) (g:=M) (o:= .cells #[.int .i64 ac,.int .i64 ad,.int .i64 ae,.int .i64 af] 33 (0,0)) (mK W)) (below_size cB));replace t:=eB t (R_base a) hb;replace p:=eB p (R_base a) hb;replace u:=eB u (R_base a) hb;replace q:=eB q (R_base a) hb;replace G:=eB G (R_base a) hb;replace I:=eB I (R_base a) hb;replace L:=eB L (R_base a) hb;replace O:=eB O (R_base a) hb;replace X:=eB X (R_base a) hb;replace v:=kB v hb;replace j:=kB j hb;replace l:=kB l hb;replace s:=kB s hb;replace E:=kB E hb;replace z:=kB z hb;replace A:=kB A hb;replace D:=kB D hb;replace J:=kB J hb;replace U:=kB U hb;replace W:=kB W hb;replace HB:=sB hb
     (try clear hb)
     (try clear a);obtain⟨jw,jx,cE⟩:=R_slice X.out
     (first|subst cE|(injection cE with f1_ f2_ f3_;have f4_:=f1_.symm;have f5_:=f3_.symm;clear f1_ f2_ f3_;subst f4_;subst f5_));obtain⟨jy,jz,cF⟩:=R_slice Y.out
     (first|subst cF|(injection cF with f1_ f2_ f3_;have f4_:=f1_.symm;have f5_:=f3_.symm;clear f1_ f2_ f3_;subst f4_;subst f5_));refine hK.out _ _ qh11x4 (fun hHeld=>?_);clear hK K;refine normZ (some 80) ?_;refine oZ 15 81 65535 fun K hK=>?_;refine eX Try.func26 (laws_sameRing.calls bL.out (rX X) ((rY X)) (rX Y) ((rY Y))) ?_;intro jA hb;replace t:=rB t hb;replace p:=rB p hb;replace u:=rB u hb;replace q:=rB q hb;replace G:=rB G hb;replace I:=rB I hb;replace L:=rB L hb;replace O:=rB O hb;replace X:=rB X hb;replace Y:=rB Y hb;replace v:=kB v hb;replace j:=kB j hb;replace l:=kB l hb;replace s:=kB s hb;replace E:=kB E hb;replace z:=kB z hb;replace A:=kB A hb;replace D:=kB D hb;replace J:=kB J hb;replace U:=kB U hb;replace W:=kB W hb;replace HB:=sB hb
     (try clear hb);refine hK.out _ _ qh11x4 (fun hHeld=>?_);clear hK K;refine normZ (some 81) ?_;refine pZ 16 82 131071 ?_;refine pZ 17 83 262143 ?_;refine pureU 18 (some 84) (msk 56 524287) HT_.out ?_;refine pureU 19 (some 85) (msk 56 1048575) HT_.out ?_;refine pureU 20 (some 86) (msk 56 2097151) HT_.out ?_;refine pZ 21 87 4194303 ?_;refine pZ 22 88 8388607 ?_;refine pureU 23 (some 89) (msk 56 16777215) HT_.out ?_;refine pureU 24 (some 90) (msk 56 33554431) HT_.out ?_;refine pureU 25 (some 91) (msk 56 67108863) HT_.out ?_;refine pZ 26 92 134217727 ?_;refine pZ 27 93 268435455 ?_;refine pureU 28 (some 94) (msk 56 536870911) HT_.out ?_;refine pureU 29 (some 95) (msk 56 1073741823) HT_.out ?_;refine pureU 30 (some 96) (msk 56 2147483647) HT_.out ?_;refine pZ 31 97 4294967295 ?_;refine pZ 32 98 8589934591 ?_;refine pureU 33 (some 99) (msk 56 17179869183) HT_.out ?_;refine pureU 34 (some 100) (msk 56 34359738367) HT_.out ?_;refine pureU 35 (some 101) (msk 56 68719476735) HT_.out ?_;refine pureU 36 (some 102) (msk 56 137438953471) HT_.out ?_;refine pureU 37 (some 103) (msk 56 274877906943) HT_.out ?_;refine pZ 38 104 549755813887 ?_;refine pZ 39 105 1099511627775 ?_;refine pureU 40 (some 106) (msk 56 2199023255551) HT_.out ?_;refine pureU 41 (some 107) (msk 56 4398046511103) HT_.out ?_;refine pureU 42 (some 108) (msk 56 8796093022207) HT_.out ?_;refine pureU 43 (some 109) (msk 56 17592186044415) HT_.out ?_;refine pureU 44 (some 110) (msk 56 35184372088831) HT_.out ?_;refine pZ 45 111 70368744177663 ?_;refine pZ 46 112 140737488355327 ?_;refine pureU 47 (some 113) (msk 56 281474976710655) HT_.out ?_;refine pureU 48 (some 114) (msk 56 562949953421311) HT_.out ?_;refine pZ 49 115 1125899906842623 ?_;refine pZ 50 116 2251799813685247 ?_;refine pureU 51 (some 117) (msk 56 4503599627370495) HT_.out ?_;refine pureU 52 (some 118) (msk 56 9007199254740991) HT_.out ?_;refine pureU 53 (some 119) (msk 56 18014398509481983) HT_.out ?_;refine pZ 54 120 36028797018963967 ?_;refine pZ 55 2 72057594037927935 ?_;refine done_ (done_of HT_.out (by kernel_rfl)) ?_
     try go_wp2
     go_ret;exact⟨rE,cB⟩
   ·replace bZ:=Bool.eq_false_iff.mpr bZ;subst bZ;replace H:=iF H;obtain rfl:=Option.some.inj H;refine sZ 56 (fun w'=>w'.cell? ⟨ak,0,none⟩=some (.slice az aw.length aA)∧w'.cell? ⟨ak,1,none⟩=some (.int .i64 bj)∧w'.cell? ⟨ak,2,none⟩=some (.int .i64 bk)∧w'.cell? ⟨ak,3,none⟩=some (.int .i64 bl)∧w'.cell? ⟨al,0,none⟩=some (.slice aE ay.length aF)∧w'.cell? ⟨al,1,none⟩=some (.int .i64 bm)∧w'.cell? ⟨al,2,none⟩=some (.int .i64 bn)∧w'.cell? ⟨al,3,none⟩=some (.int .i64 bo)) laws_FnRingsTold.tab12 laws_FnRingsTold.bits12 ⟨(blk_cell j.out 0).trans rfl,(blk_cell j.out 1).trans rfl,(blk_cell j.out 2).trans rfl,(blk_cell j.out 3).trans rfl,(blk_cell l.out 0).trans rfl,(blk_cell l.out 1).trans rfl,(blk_cell l.out 2).trans rfl,(blk_cell l.out 3).trans rfl⟩ fun HT_ HW_ hHeld=>?_;generalize bz.drew=jB at t p u q G I L O v j l s E z A D J U W HB hHeld ⊢;refine pZ 0 66 1 ?_;refine pZ 1 67 3 ?_;refine pZ 2 68 7 ?_;refine pZ 3 69 15 ?_;refine tZ 4 70 31 (y:=q11x5) (h:=?_);refine tZ 5 71 63 (y:=q11x5) (h:=?_);refine oZ 6 72 127 fun K hK=>?_;refine eX Try.func26 (laws_sameRing.calls bA.out (rX p) ((rY p)) (rX u) ((rY u))) ?_;intro jC hb;replace t:=rB t hb;replace p:=rB p hb;replace u:=rB u hb;replace q:=rB q hb;replace G:=rB G hb;replace I:=rB I hb;replace L:=rB L hb;replace O:=rB O hb;replace v:=kB v hb;replace j:=kB j hb;replace l:=kB l hb;replace s:=kB s hb;replace E:=kB E hb;replace z:=kB z hb;replace A:=kB A hb;replace D:=kB D hb;replace J:=kB J hb;replace U:=kB U hb;replace W:=kB W hb;replace HB:=sB hb
    (try clear hb);refine hK.out _ _ ⟨(blk_cell j.out 0).trans rfl,(blk_cell j.out 1).trans rfl,(blk_cell j.out 2).trans rfl,(blk_cell j.out 3).trans rfl,(blk_cell l.out 0).trans rfl,(blk_cell l.out 1).trans rfl,(blk_cell l.out 2).trans rfl,(blk_cell l.out 3).trans rfl⟩ (fun hHeld=>?_);clear hK K;refine normZ (some 72) ?_;refine pZ 7 73 255 ?_;refine pZ 8 74 511 ?_;refine pureU 9 (some 75) (msk 56 1023) HT_.out ?_;refine pureU 10 (some 76) (msk 56 2047) HT_.out ?_;refine pureU 11 (some 77) (msk 56 4095) HT_.out ?_;refine pureU 12 (some 78) (msk 56 8191) HT_.out ?_;refine pureU 13 (some 79) (msk 56 16383) HT_.out ?_;refine pureU 14 (some 80) (msk 56 32767) HT_.out ?_;refine pureU 15 (some 81) (msk 56 65535) HT_.out ?_;refine pZ 16 82 131071 ?_;refine pZ 17 83 262143 ?_;refine pureU 18 (some 84) (msk 56 524287) HT_.out ?_;refine pureU 19 (some 85) (msk 56 1048575) HT_.out ?_;refine pureU 20 (some 86) (msk 56 2097151) HT_.out ?_;refine pZ 21 87 4194303 ?_;refine pZ 22 88 8388607 ?_;refine pureU 23 (some 89) (msk 56 16777215) HT_.out ?_;refine pureU 24 (some 90) (msk 56 33554431) HT_.out ?_;refine pureU 25 (some 91) (msk 56 67108863) HT_.out ?_;refine pZ 26 92 134217727 ?_;refine pZ 27 93 268435455 ?_;refine pureU 28 (some 94) (msk 56 536870911) HT_.out ?_;refine pureU 29 (some 95) (msk 56 1073741823) HT_.out ?_;refine pureU 30 (some 96) (msk 56 2147483647) HT_.out ?_;refine pZ 31 97 4294967295 ?_;refine pZ 32 98 8589934591 ?_;refine pureU 33 (some 99) (msk 56 17179869183) HT_.out ?_;refine pureU 34 (some 100) (msk 56 34359738367) HT_.out ?_;refine pureU 35 (some 101) (msk 56 68719476735) HT_.out ?_;refine pureU 36 (some 102) (msk 56 137438953471) HT_.out ?_;refine pureU 37 (some 103) (msk 56 274877906943) HT_.out ?_;refine pZ 38 104 549755813887 ?_;refine pZ 39 105 1099511627775 ?_;refine pureU 40 (some 106) (msk 56 2199023255551) HT_.out ?_;refine pureU 41 (some 107) (msk 56 4398046511103) HT_.out ?_;refine pureU 42 (some 108) (msk 56 8796093022207) HT_.out ?_;refine pureU 43 (some 109) (msk 56 17592186044415) HT_.out ?_;refine pureU 44 (some 110) (msk 56 35184372088831) HT_.out ?_;refine pZ 45 111 70368744177663 ?_;refine pZ 46 112 140737488355327 ?_;refine pureU 47 (some 113) (msk 56 281474976710655) HT_.out ?_;refine pureU 48 (some 114) (msk 56 562949953421311) HT_.out ?_;refine pZ 49 115 1125899906842623 ?_;refine pZ 50 116 2251799813685247 ?_;refine pureU 51 (some 117) (msk 56 4503599627370495) HT_.out ?_;refine pureU 52 (some 118) (msk 56 9007199254740991) HT_.out ?_;refine pureU 53 (some 119) (msk 56 18014398509481983) HT_.out ?_;refine pZ 54 120 36028797018963967 ?_;refine pZ 55 2 72057594037927935 ?_;refine done_ (done_of HT_.out (by kernel_rfl)) ?_
    try go_wp2
    go_ret;exact⟨rE,cB⟩
  ·rw[if_neg a9]at H;have e5:(bq == br)=false:=by simpa using a9
   (try(have e6:decide (bq=br)=false:=by simpa using a9))
   (try(have e7:(bq == br)=false:=by simpa using a9))
   (try(have jD: ¬ (bq=br):=by simpa using a9));clear a9;obtain rfl:=Option.some.inj H;refine sZ 56 (fun w'=>True) laws_FnRingsTold.tab12 laws_FnRingsTold.bits12 trivial fun HT_ HW_ hHeld=>?_;generalize bz.drew=jE at t p u q G I L O v j l s E z A D J U W HB hHeld ⊢;refine pZ 0 66 1 ?_;refine pZ 1 67 3 ?_;refine pZ 2 68 7 ?_;refine pZ 3 69 15 ?_;refine pureU 4 (some 70) (msk 56 31) HT_.out ?_;refine pureU 5 (some 71) (msk 56 63) HT_.out ?_;refine pureU 6 (some 72) (msk 56 127) HT_.out ?_;refine pZ 7 73 255 ?_;refine pZ 8 74 511 ?_;refine pureU 9 (some 75) (msk 56 1023) HT_.out ?_;refine pureU 10 (some 76) (msk 56 2047) HT_.out ?_;refine pureU 11 (some 77) (msk 56 4095) HT_.out ?_;refine pureU 12 (some 78) (msk 56 8191) HT_.out ?_;refine pureU 13 (some 79) (msk 56 16383) HT_.out ?_;refine pureU 14 (some 80) (msk 56 32767) HT_.out ?_;refine pureU 15 (some 81) (msk 56 65535) HT_.out ?_;refine pZ 16 82 131071 ?_;refine pZ 17 83 262143 ?_;refine pureU 18 (some 84) (msk 56 524287) HT_.out ?_;refine pureU 19 (some 85) (msk 56 1048575) HT_.out ?_;refine pureU 20 (some 86) (msk 56 2097151) HT_.out ?_;refine pZ 21 87 4194303 ?_;refine pZ 22 88 8388607 ?_;refine pureU 23 (some 89) (msk 56 16777215) HT_.out ?_;refine pureU 24 (some 90) (msk 56 33554431) HT_.out ?_;refine pureU 25 (some 91) (msk 56 67108863) HT_.out ?_;refine pZ 26 92 134217727 ?_;refine pZ 27 93 268435455 ?_;refine pureU 28 (some 94) (msk 56 536870911) HT_.out ?_;refine pureU 29 (some 95) (msk 56 1073741823) HT_.out ?_;refine pureU 30 (some 96) (msk 56 2147483647) HT_.out ?_;refine pZ 31 97 4294967295 ?_;refine pZ 32 98 8589934591 ?_;refine pureU 33 (some 99) (msk 56 17179869183) HT_.out ?_;refine pureU 34 (some 100) (msk 56 34359738367) HT_.out ?_;refine pureU 35 (some 101) (msk 56 68719476735) HT_.out ?_;refine pureU 36 (some 102) (msk 56 137438953471) HT_.out ?_;refine pureU 37 (some 103) (msk 56 274877906943) HT_.out ?_;refine pZ 38 104 549755813887 ?_;refine pZ 39 105 1099511627775 ?_;refine pureU 40 (some 106) (msk 56 2199023255551) HT_.out ?_;refine pureU 41 (some 107) (msk 56 4398046511103) HT_.out ?_;refine pureU 42 (some 108) (msk 56 8796093022207) HT_.out ?_;refine pureU 43 (some 109) (msk 56 17592186044415) HT_.out ?_;refine pureU 44 (some 110) (msk 56 35184372088831) HT_.out ?_;refine pZ 45 111 70368744177663 ?_;refine pZ 46 112 140737488355327 ?_;refine pureU 47 (some 113) (msk 56 281474976710655) HT_.out ?_;refine pureU 48 (some 114) (msk 56 562949953421311) HT_.out ?_;refine pZ 49 115 1125899906842623 ?_;refine pZ 50 116 2251799813685247 ?_;refine pureU 51 (some 117) (msk 56 4503599627370495) HT_.out ?_;refine pureU 52 (some 118) (msk 56 9007199254740991) HT_.out ?_;refine pureU 53 (some 119) (msk 56 18014398509481983) HT_.out ?_;refine pZ 54 120 36028797018963967 ?_;refine pZ 55 2 72057594037927935 ?_;refine done_ (done_of HT_.out (by kernel_rfl)) ?_
   try go_wp2
   go_ret;exact⟨rE,cB⟩
/-- THE ONE PURE STATEMENT of laws_FnRingsTold: yours. -/
def laws_FnRingsTold.Pure:Prop:= ∀ (aq:List Int),aq.length≤maxLen→aq.length*1≤140737488351232→(∀ x ∈ aq,(Lit.int .u8 x).wf=true)→∃ k,laws_FnRingsTold.f k aq=some true
theorem laws_FnRingsTold.walk (P:laws_FnRingsTold.Pure) (cd:Option Addr) (len0 cap0:Nat) (z0:List Int) (w:World) (fv:(cd=none∧len0=0∧cap0=0∧z0= [])∨∃ x,cd=some x∧len0≤cap0∧cap0≤maxLen∧z0.length=cap0∧(∀ i,i<z0.length→w.cell? (x.add i)=some (.int .u8 (z0.getD i 0)))∧∀ n ∈ z0,(Lit.int .u8 n).wf=true) (fw:len0*1≤140737488351232) :
    Calls Try.prog 4 #[.slice cd len0 cap0] w fun e w'=>e= .returned (.bool true)∧Below w.heap.size w w':=by
  obtain⟨aq,rfl,bT,hm0,fx,bU⟩:=ReadsInt.ofRowC fv
  obtain⟨k,h⟩:=P aq hm0 fw fx
  refine(laws_FnRingsTold.calls h (C_of_reads (d:=(0:Int)) (h1:=fun _=>rfl) bT) bU).mono ?_
  rintro e w' ⟨rfl,hd⟩
  exact⟨rfl,hd⟩
end Go.Proofs.Ytlgndgjbfjefpaa.PFnRingsTold
end
section
/- The pure law of FnRingsTold: what a drawn ring, right or not, does is what the document tells. No conditions. -/
set_option linter.unusedSimpArgs false
set_option linter.unusedVariables false
set_option linter.unusedSectionVars false
namespace Go.Proofs.Ytlgndgjbfjefpaa.PFnRingsTold
open Go Go.RowKit Go.Proofs.YtlgndgjbfjefpaaW.PrintWords Go.Proofs.YtlgndgjbfjefpaaW.PrintLast Go.Proofs.YtlgndgjbfjefpaaW.PK
theorem rd_nat33 (l:List S33) (i:Nat) (h:i<l.length):rd_T33 l (i:Int)=l[i]:=getD_lt _ h
theorem inS (a b c:Int):spec_l01In.f a b c=some (decide (b≤a∧a≤c)):=by
  unfold spec_l01In.f
  by_cases h:a≥b
  · rw[if_pos h]
    exact congrArg some (by rw[Bool.eq_iff_iff];simp;omega)
  · rw[if_neg h]
    exact congrArg some (by rw[Bool.eq_iff_iff];simp;omega)
theorem inI (a b c:Int):impl_within.f a b c=some (decide (b≤a∧a≤c)):=inS a b c
theorem halfS (a:Int):spec_HalfOk.f a=some (decide (0≤a∧a≤4294967295)):=by
  unfold spec_HalfOk.f
  rw[inS]
  rfl
theorem halfI (a:Int):impl_HalfOk.f a=some (decide (0≤a∧a≤4294967295)):=halfS a
/-- A right item: a word, or a stretch. -/
def ItP (x:S33):Prop:=(x.f0=1∧(0≤x.f1∧x.f1≤4294967295)∧(0≤x.f2∧x.f2≤4294967295)∧x.f3=0)∨(x.f0=2∧(1≤x.f3∧x.f3≤1000000000)∧x.f1=0∧x.f2=0)
instance (x:S33):Decidable (ItP x):=by unfold ItP;infer_instance
theorem itS (x:S33):spec_ItemOk.f x.f0 x.f1 x.f2 x.f3=some (decide (ItP x)):=by
  have e: ∀ b:Bool,(b=true ↔ ItP x)→some b=some (decide (ItP x)):=fun b h=>congrArg some (by rw[Bool.eq_iff_iff,h];simp)
  unfold spec_ItemOk.f
  simp only[inS,halfS,Option.bind_some,decide_eq_true_eq]
  repeat' split
  all_goals (refine e _ ?_;clear e;unfold ItP;(try simp only[Bool.false_eq_true,beq_iff_eq,false_iff]at *))
  all_goals omega
theorem itI (x:S33):impl_ItemOk.f x.f0 x.f1 x.f2 x.f3=some (decide (ItP x)):=itS x
theorem areI (l:List S33) (hn:l.length≤4611686018427387904): ∀ (d i:Nat),i+d=l.length→∃ b,(∀ k,d<k→impl_areItems.l0 k l (l.length:Int) (i:Int)=some b)∧(b=true ↔ ∀ j (h:j<l.length),i≤j→ItP l[j])
  | 0,i,hi=>by
    refine⟨true,fun k hk=>?_,by simp;intro j h1 h2;omega⟩
    obtain⟨k,rfl⟩ : ∃ m,k=m+1:=⟨k - 1,by omega⟩
    simp only[impl_areItems.l0]
    rw[if_neg (by omega)]
  | d+1,i,hi=>by
    have hlt:i<l.length:=by omega
    obtain⟨b,hb,hbi⟩:=areI l hn d (i+1) (by omega)
    by_cases hA:ItP l[i]
    · refine⟨b,fun k hk=>?_,?_⟩
      · obtain⟨k,rfl⟩ : ∃ m,k=m+1:=⟨k - 1,by omega⟩
        simp only[impl_areItems.l0]
        rw[if_pos (by omega),if_pos (by omega),if_pos (by omega),rd_nat33 l i hlt,itI,wsucc hlt (by omega)]
        simp only[Option.bind_some,decide_eq_true_eq]
        rw[if_pos hA]
        exact hb k (by omega)
      · rw[hbi]
        refine⟨fun h j hj hij=>?_,fun h j hj hij=>h j hj (by omega)⟩
        rcases Nat.lt_or_ge i j with h3|h3
        · exact h j hj (by omega)
        · have:i=j:=by omega
          subst this
          exact hA
    · refine⟨false,fun k hk=>?_,⟨(fun h=>by cases h),fun h=>absurd (h i hlt (Nat.le_refl _)) hA⟩⟩
      obtain⟨k,rfl⟩ : ∃ m,k=m+1:=⟨k - 1,by omega⟩
      simp only[impl_areItems.l0]
      rw[if_pos (by omega),if_pos (by omega),if_pos (by omega),rd_nat33 l i hlt,itI]
      simp only[Option.bind_some,decide_eq_true_eq]
      rw[if_neg hA]
theorem ringS_l0 (l:List S33) (a b c:Int) (hn:l.length≤4611686018427387904): ∀ (d i:Nat) (t:Int),i+d=l.length→∃ r,(∀ k,d<k→spec_RingOk.l0 k t (i:Int) l a b c=some r)∧(¬ (∀ j (h:j<l.length),i≤j→ItP l[j])→r=false)
  | 0,i,t,hi=>by
    refine⟨decide (t≤c),fun k hk=>?_,fun h=>absurd (fun j h1 h2=>by omega) h⟩
    obtain⟨k,rfl⟩ : ∃ m,k=m+1:=⟨k - 1,by omega⟩
    simp only[spec_RingOk.l0]
    rw[if_neg (by omega)]
  | d+1,i,t,hi=>by
    have hlt:i<l.length:=by omega
    by_cases hA:ItP l[i]
    · obtain⟨r,hr,hri⟩:=ringS_l0 l a b c hn d (i+1) (wrap64 (t+if l[i].f0=2 then l[i].f3 else 1)) (by omega)
      refine⟨r,fun k hk=>?_,fun h=>hri fun h1=>h fun j hj hij=>?_⟩
      · obtain⟨k,rfl⟩ : ∃ m,k=m+1:=⟨k - 1,by omega⟩
        have e:spec_l16Length.f l[i].f0 l[i].f1 l[i].f2 l[i].f3=some (if l[i].f0=2 then l[i].f3 else 1):=by
          unfold spec_l16Length.f
          split <;> rfl
        simp only[spec_RingOk.l0]
        rw[if_pos (by omega),if_pos (by omega),rd_nat33 l i hlt,itS,e,wsucc hlt (by omega)]
        simp only[Option.bind_some,decide_eq_true_eq]
        rw[if_pos hA]
        exact hr k (by omega)
      · rcases Nat.lt_or_ge i j with h3|h3
        · exact h1 j hj (by omega)
        · have:i=j:=by omega
          subst this
          exact hA
    · refine⟨false,fun k hk=>?_,fun _=>rfl⟩
      obtain⟨k,rfl⟩ : ∃ m,k=m+1:=⟨k - 1,by omega⟩
      simp only[spec_RingOk.l0]
      rw[if_pos (by omega),if_pos (by omega),rd_nat33 l i hlt,itS]
      simp only[Option.bind_some,decide_eq_true_eq]
      rw[if_neg hA]
theorem ringI_l0 (l:List S33) (a b c:Int) (hn:l.length≤4611686018427387904) (hl: ∀ j (h:j<l.length),ItP l[j]): ∀ (d i:Nat) (t:Int),i+d=l.length→∀ k,d<k→impl_RingOk.l0 k t l (l.length:Int) (i:Int) l a b c=spec_RingOk.l0 k t (i:Int) l a b c
  | 0,i,t,hi,k,hk=>by
    obtain⟨k,rfl⟩ : ∃ m,k=m+1:=⟨k - 1,by omega⟩
    simp only[spec_RingOk.l0,impl_RingOk.l0]
    rw[if_neg (by omega),if_neg (by omega)]
  | d+1,i,t,hi,k,hk=>by
    have hlt:i<l.length:=by omega
    have hA:=hl i hlt
    obtain⟨k,rfl⟩ : ∃ m,k=m+1:=⟨k - 1,by omega⟩
    have e:spec_l16Length.f l[i].f0 l[i].f1 l[i].f2 l[i].f3=some (if l[i].f0=2 then l[i].f3 else 1):=by
      unfold spec_l16Length.f
      split <;> rfl
    have eS:spec_RingOk.l0 (k+1) t (i:Int) l a b c=spec_RingOk.l0 k (wrap64 (t+if l[i].f0=2 then l[i].f3 else 1)) ((i+1:Nat):Int) l a b c:=by
      simp only[spec_RingOk.l0]
      rw[if_pos (by omega),if_pos (by omega),rd_nat33 l i hlt,itS,e,wsucc hlt (by omega)]
      simp only[Option.bind_some,decide_eq_true_eq]
      rw[if_pos hA]
    rw[eS,← ringI_l0 l a b c hn hl d (i+1) _ (by omega) k (by omega)]
    simp only[impl_RingOk.l0]
    rw[if_pos (by omega),if_pos (by omega),if_pos (by omega),rd_nat33 l i hlt,wsucc hlt (by omega)]
    unfold ItP at hA
    by_cases h1:l[i].f0=1
    · rw[if_pos h1,if_neg (by omega)]
    · rw[if_neg h1,if_pos (by omega)]
theorem ring (l:List S33) (a b c:Int) (hn:l.length≤1048576): ∃ r,(∀ k,l.length+3≤k→spec_RingOk.f k l a b c=some r)∧(∀ k,l.length+3≤k→impl_RingOk.f k l a b c=some r):=by
  obtain⟨q,hq,hqi⟩:=areI l (by omega) l.length 0 (by omega)
  obtain⟨r,hr,hri⟩:=ringS_l0 l a b c (by omega) l.length 0 b (by omega)
  have hq': ∀ k,l.length<k→impl_areItems.f k l=some q:=fun k hk=>hq k hk
  by_cases h4:(l.length:Int)>4
  · refine⟨false,fun k hk=>?_,fun k hk=>?_⟩
    · obtain⟨k,rfl⟩ : ∃ m,k=m+1:=⟨k - 1,by omega⟩
      unfold spec_RingOk.f
      rw[if_pos h4]
      simp only[spec_RingOk.j0,if_true]
    · obtain⟨k,rfl⟩ : ∃ m,k=m+1:=⟨k - 1,by omega⟩
      unfold impl_RingOk.f
      rw[if_pos h4]
      simp only[impl_RingOk.j0,if_true]
  refine⟨if(0≤a∧a≤5)∧(0≤b∧b≤1000000000)∧(0≤c∧c≤1000000000)then r else false,fun k hk=>?_,fun k hk=>?_⟩
  · obtain⟨k,rfl⟩ : ∃ m,k=m+1:=⟨k - 1,by omega⟩
    unfold spec_RingOk.f
    rw[if_neg h4]
    simp only[inS,Option.bind_some,decide_eq_true_eq,spec_RingOk.j0]
    have h:=hr k (by omega)
    by_cases h1:0≤a∧a≤5
    · by_cases h2:0≤b∧b≤1000000000
      · by_cases h3:0≤c∧c≤1000000000
        · simp[h1,h2,h3]
          exact h
        · simp[h1,h2,h3]
      · simp[h1,h2]
    · simp[h1]
  · obtain⟨k,rfl⟩ : ∃ m,k=m+1:=⟨k - 1,by omega⟩
    unfold impl_RingOk.f
    rw[if_neg h4]
    simp only[inI,Option.bind_some,decide_eq_true_eq,impl_RingOk.j0,hq' (k+1) (by omega)]
    by_cases hP: ∀ j (h:j<l.length),ItP l[j]
    · have hq2:q=true:=hqi.2 fun j h _=>hP j h
      subst hq2
      have h:=ringI_l0 l a b c (by omega) hP l.length 0 b (by omega) k (by omega)
      have h':=h.trans (hr k (by omega))
      by_cases h1:0≤a∧a≤5
      · by_cases h2:0≤b∧b≤1000000000
        · by_cases h3:0≤c∧c≤1000000000
          · simp[h1,h2,h3]
            exact h'
          · simp[h1,h2,h3]
        · simp[h1,h2]
      · simp[h1]
    · have hr2:r=false:=hri fun h=>hP fun j hj=>h j hj (Nat.zero_le _)
      have hq2:q=false:=by
        cases q
        · rfl
        · exact absurd (fun j hj=>hqi.1 rfl j hj (Nat.zero_le _)) hP
      subst hr2 hq2
      simp
theorem w64r (x:Int): -9223372036854775808≤wrap64 x∧wrap64 x≤9223372036854775807:=by unfold wrap64;omega
theorem ring_c (k:Nat) (l:List S33) (a b c:Int) (h:spec_RingOk.f k l a b c=some true):0≤c∧c≤1000000000:=by
  unfold spec_RingOk.f at h
  by_cases h4:(l.length:Int)>4
  · rw[if_pos h4]at h
    cases k <;> simp[spec_RingOk.j0]at h
  · rw[if_neg h4]at h
    simp only[inS,Option.bind_some,decide_eq_true_eq]at h
    by_cases h1:0≤a∧a≤5
    · by_cases h2:0≤b∧b≤1000000000
      · by_cases h3:0≤c∧c≤1000000000
        · exact h3
        · cases k <;> simp[h1,h2,h3,spec_RingOk.j0]at h
      · rw[if_pos h1,if_neg h2]at h
        cases k <;> simp[spec_RingOk.j0]at h
    · rw[if_neg h1]at h
      cases k <;> simp[spec_RingOk.j0]at h
theorem off_j2 (k:Nat) (x1 x2:Int) (d:Bool) (l:List S33) (a b c:Int) (m:List S33) (g:Int):impl_Offered.j2 k x1 x2 d l a b c m a b g=spec_Offered.j2 k x1 x2 d l a b c m a b g:=by
  cases k <;> simp only[impl_Offered.j2,spec_Offered.j2]
theorem off_j1 (k:Nat) (x1 x2 d:Int) (l:List S33) (a b c:Int) (m:List S33) (g:Int):impl_Offered.j1 k x1 x2 d l a b c m a b g=spec_Offered.j1 k x1 x2 d l a b c m a b g:=by
  cases k <;> simp only[impl_Offered.j1,spec_Offered.j1,off_j2]
theorem off_j0 (k:Nat) (x1 x2:Int) (d:Bool) (l:List S33) (a b c:Int) (m:List S33):impl_Offered.j0 k x1 x2 d l a b c m a b c=spec_Offered.j0 k x1 x2 d l a b c m a b c:=by
  cases k <;> simp only[impl_Offered.j0,spec_Offered.j0,off_j1]
theorem off_tot (x1 x2:Int) (d:Bool) (l:List S33) (a b c:Int) (hn:l.length≤1048576): ∃ R:List S33×Int×Int×Int×Bool,(∀ k,3≤k→spec_Offered.j0 k x1 x2 d l a b c l a b c=some R)∧R.1.length≤l.length+2∧((-9223372036854775808≤a∧a≤9223372036854775807)→(-9223372036854775808≤R.2.1∧R.2.1≤9223372036854775807)):=by
  cases d
  · by_cases hb:b>0
    · by_cases hw:a=0∨wrap64 ((l.length:Int)+2)>4
      · refine⟨(l,a,wrap64 (b+1),wrap64 (c+1),false),fun k hk=>?_,⟨by show l.length≤_;omega,fun h=>h⟩⟩
        obtain⟨k,rfl⟩ : ∃ m,k=m+3:=⟨k - 3,by omega⟩
        simp only[spec_Offered.j0,spec_Offered.j1,spec_Offered.j2]
        rw[if_neg (by simp),if_pos hb]
        by_cases ha:a=0
        · rw[if_pos ha]
          simp
        · rw[if_neg ha,if_pos (by simpa [ha] using hw)]
      · have ha:a≠0:=fun h=>hw (.inl h)
        have hw': ¬ wrap64 ((l.length:Int)+2)>4:=fun h=>hw (.inr h)
        refine⟨(l ++ [⟨2,0,0,b⟩] ++ [⟨1,x1,x2,0⟩],wrap64 (a - 1),0,wrap64 (c+1),true),fun k hk=>?_,⟨by simp only[List.length_append,List.length_cons,List.length_nil];omega,fun _=>w64r _⟩⟩
        obtain⟨k,rfl⟩ : ∃ m,k=m+3:=⟨k - 3,by omega⟩
        simp only[spec_Offered.j0,spec_Offered.j1,spec_Offered.j2]
        rw[if_neg (by simp),if_pos hb,if_neg ha,if_neg (by simpa using hw'),if_pos hb,if_pos (by omega)]
        simp only[Option.bind_some]
        rw[if_pos (by simp;omega)]
    · by_cases hw:a=0∨wrap64 ((l.length:Int)+1)>4
      · refine⟨(l,a,wrap64 (b+1),wrap64 (c+1),false),fun k hk=>?_,⟨by show l.length≤_;omega,fun h=>h⟩⟩
        obtain⟨k,rfl⟩ : ∃ m,k=m+3:=⟨k - 3,by omega⟩
        simp only[spec_Offered.j0,spec_Offered.j1,spec_Offered.j2]
        rw[if_neg (by simp),if_neg hb]
        by_cases ha:a=0
        · rw[if_pos ha]
          simp
        · rw[if_neg ha,if_pos (by simpa [ha] using hw)]
      · have ha:a≠0:=fun h=>hw (.inl h)
        have hw': ¬ wrap64 ((l.length:Int)+1)>4:=fun h=>hw (.inr h)
        refine⟨(l ++ [⟨1,x1,x2,0⟩],wrap64 (a - 1),b,wrap64 (c+1),true),fun k hk=>?_,⟨by simp only[List.length_append,List.length_cons,List.length_nil];omega,fun _=>w64r _⟩⟩
        obtain⟨k,rfl⟩ : ∃ m,k=m+3:=⟨k - 3,by omega⟩
        simp only[spec_Offered.j0,spec_Offered.j1,spec_Offered.j2]
        rw[if_neg (by simp),if_neg hb,if_neg ha,if_neg (by simpa using hw'),if_neg hb,if_pos (by omega)]
  · refine⟨(l,a,b,c,false),fun k hk=>?_,⟨by show l.length≤_;omega,fun h=>h⟩⟩
    obtain⟨k,rfl⟩ : ∃ m,k=m+1:=⟨k - 1,by omega⟩
    simp only[spec_Offered.j0,if_true]
theorem offered (x1 x2:Int) (l:List S33) (a b c:Int) (hn:l.length≤1048576): ∃ R:List S33×Int×Int×Int×Bool,(∀ k,l.length+10≤k→spec_Offered.f k l a b c x1 x2=some R)∧(∀ k,l.length+10≤k→impl_Offered.f k l a b c x1 x2=some R)∧R.1.length≤l.length+2∧((-9223372036854775808≤a∧a≤9223372036854775807)→(-9223372036854775808≤R.2.1∧R.2.1≤9223372036854775807)):=by
  obtain⟨r,rS,rI⟩:=ring l a b c hn
  have eC:(if([] :List S33).length+l.length<4398046511104 then some (([] :List S33) ++ l,a,b,c)else none)=some (l,a,b,c):=by rw[if_pos (by simp;omega)];rfl
  have eC':(if([] :List S33).length+l.length<4398046511104 then some (([] :List S33) ++ l)else none)=some l:=by rw[if_pos (by simp;omega)];rfl
  have fS: ∀ k,l.length+10≤k→spec_Offered.f k l a b c x1 x2=if r=true∧(0≤x1∧x1≤4294967295)∧(0≤x2∧x2≤4294967295)then spec_Offered.j0 k x1 x2 (decide (c≥1000000000)) l a b c l a b c else spec_Offered.j0 k x1 x2 true l a b c l a b c:=fun k hk=>by
    simp only[spec_Offered.f,spec_l16Copy.f,Option.bind_some,eC,rS k (by omega),halfS,decide_eq_true_eq]
    by_cases h1:r=true
    · by_cases h2:0≤x1∧x1≤4294967295
      · by_cases h3:0≤x2∧x2≤4294967295
        · rw[if_pos h1,if_pos h2,if_pos h3,if_pos ⟨h1,h2,h3⟩]
        · rw[if_pos h1,if_pos h2,if_neg h3,if_neg fun h=>h3 h.2.2]
      · rw[if_pos h1,if_neg h2,if_neg fun h=>h2 h.2.1]
    · rw[if_neg h1,if_neg fun h=>h1 h.1]
  have fI: ∀ k,l.length+10≤k→impl_Offered.f k l a b c x1 x2=if r=true∧(0≤x1∧x1≤4294967295)∧(0≤x2∧x2≤4294967295)then spec_Offered.j0 k x1 x2 (c == 1000000000) l a b c l a b c else spec_Offered.j0 k x1 x2 true l a b c l a b c:=fun k hk=>by
    simp only[impl_Offered.f,impl_copyRing.f,impl_copyItems.f,Option.bind_some,eC',rI k (by omega),halfI,decide_eq_true_eq,off_j0]
    by_cases h1:r=true
    · by_cases h2:0≤x1∧x1≤4294967295
      · by_cases h3:0≤x2∧x2≤4294967295
        · rw[if_pos h1,if_pos h2,if_pos h3,if_pos ⟨h1,h2,h3⟩]
        · rw[if_pos h1,if_pos h2,if_neg h3,if_neg fun h=>h3 h.2.2]
      · rw[if_pos h1,if_neg h2,if_neg fun h=>h2 h.2.1]
    · rw[if_neg h1,if_neg fun h=>h1 h.1]
  by_cases hc:r=true∧(0≤x1∧x1≤4294967295)∧(0≤x2∧x2≤4294967295)
  · have hr:=rS (l.length+3) (by omega)
    rw[hc.1]at hr
    have hcc:=ring_c _ l a b c hr
    have e:(c == 1000000000)=decide (c≥1000000000):=by
      rw[Bool.eq_iff_iff]
      simp
      omega
    obtain⟨R,hR,hl⟩:=off_tot x1 x2 (decide (c≥1000000000)) l a b c hn
    refine⟨R,fun k hk=>?_,fun k hk=>?_,hl⟩
    · rw[fS k hk,if_pos hc]
      exact hR k (by omega)
    · rw[fI k hk,if_pos hc,e]
      exact hR k (by omega)
  · obtain⟨R,hR,hl⟩:=off_tot x1 x2 true l a b c hn
    refine⟨R,fun k hk=>?_,fun k hk=>?_,hl⟩
    · rw[fS k hk,if_neg hc]
      exact hR k (by omega)
    · rw[fI k hk,if_neg hc]
      exact hR k (by omega)
theorem wf64 {a:Int} (h:(Lit.int .i64 a).wf=true): -9223372036854775808≤a∧a≤9223372036854775807:=by
  have h1:IntKind.i64.min≤a∧a≤IntKind.i64.max:=by simpa [Lit.wf] using h
  exact⟨h1.1,h1.2⟩
theorem refilled (x1:Int) (l:List S33) (a b c:Int) (hn:l.length≤1048576) (ha: -9223372036854775808≤a∧a≤9223372036854775807) (hx: -9223372036854775808≤x1∧x1≤9223372036854775807): ∃ R:List S33×Int×Int×Int,spec_Refilled.f l a b c x1=some R∧impl_Refilled.f l a b c x1=some R∧R.1=l∧(-9223372036854775808≤R.2.1∧R.2.1≤9223372036854775807):=by
  have eC:(if([] :List S33).length+l.length<4398046511104 then some (([] :List S33) ++ l,a,b,c)else none)=some (l,a,b,c):=by rw[if_pos (by simp;omega)];rfl
  have eC':(if([] :List S33).length+l.length<4398046511104 then some (([] :List S33) ++ l)else none)=some l:=by rw[if_pos (by simp;omega)];rfl
  simp only[spec_Refilled.f,impl_Refilled.f,impl_copyRing.f,impl_copyItems.f,spec_l16Copy.f,Option.bind_some,eC,eC']
  by_cases h1:x1<0
  · exact⟨(l,a,b,c),by rw[if_pos h1],by rw[if_pos h1],⟨rfl,by dsimp only;omega⟩⟩
  · by_cases h2:x1>5
    · refine⟨(l,5,b,c),by rw[if_neg h1,if_pos h2],?_,⟨rfl,by dsimp only;omega⟩⟩
      rw[if_neg h1]
      by_cases h3:a≥5
      · rw[if_pos h3]
      · rw[if_neg h3,if_pos h2]
    · have e1:wrap64 (5 - x1)=5 - x1:=w64 (by omega) (by omega)
      rw[if_neg h1,if_neg h1,if_neg h2,if_neg h2,e1]
      by_cases h3:a>5 - x1
      · refine⟨(l,5,b,c),by rw[if_pos h3],?_,⟨rfl,by dsimp only;omega⟩⟩
        by_cases h4:a≥5
        · rw[if_pos h4]
        · have e2:mn 5 (wrap64 (a+x1))=5:=by rw[w64 (by omega) (by omega)];unfold mn;omega
          rw[if_neg h4,e2]
          by_cases h5:a≥0
          · rw[if_pos h5]
            by_cases h6:x1≥5
            · rw[if_pos h6]
            · rw[if_neg h6]
          · rw[if_neg h5]
      · have e2:wrap64 (a+x1)=a+x1:=w64 (by omega) (by omega)
        refine⟨(l,a+x1,b,c),by rw[if_neg h3,e2],?_,⟨rfl,by dsimp only;omega⟩⟩
        by_cases h4:a≥5
        · rw[if_pos h4]
          have h5:x1=0:=by omega
          have h6:a=5:=by omega
          rw[h5,h6]
          rfl
        · have e3:mn 5 (a+x1)=a+x1:=by unfold mn;omega
          rw[if_neg h4,e2,e3]
          by_cases h5:a≥0
          · rw[if_pos h5]
            by_cases h6:x1≥5
            · rw[if_pos h6,show a+x1=5 by omega]
            · rw[if_neg h6]
          · rw[if_neg h5]
theorem drained (l:List S33) (a b c:Int) (hn:l.length≤1048576): ∃ R:List S33×Int×Int×Int×Int×Int×Int×Int×Bool,spec_Drained.f l a b c=some R∧impl_Drained.f l a b c=some R∧R.1.length≤l.length∧R.2.1=a:=by
  have eC:(if([] :List S33).length+l.length<4398046511104 then some (([] :List S33) ++ l,a,b,c)else none)=some (l,a,b,c):=by rw[if_pos (by simp;omega)];rfl
  have eC':(if([] :List S33).length+l.length<4398046511104 then some (([] :List S33) ++ l)else none)=some l:=by rw[if_pos (by simp;omega)];rfl
  have hd:(l.drop 1).length≤l.length:=by rw[List.length_drop];omega
  have eD:(if([] :List S33).length+(l.drop 1).length<4398046511104 then some (([] :List S33) ++ l.drop 1)else none)=some (l.drop 1):=by rw[if_pos (by rw[List.length_nil];omega)];rfl
  simp only[spec_Drained.f,impl_Drained.f,impl_copyRing.f,impl_copyItems.f,spec_l16Copy.f,Option.bind_some,eC,eC']
  by_cases h1:(l.length:Int)>0
  · have h2:(1:Int)≤(l.length:Int):=by omega
    rw[if_pos h1,if_pos h1,if_pos h1,if_pos h1,if_pos h2,if_pos h2,eD,if_pos (by rw[List.length_nil];omega)]
    exact⟨_,rfl,rfl,by show(([] :List S33) ++ l.drop 1).length≤_;rw[List.nil_append];omega,rfl⟩
  · rw[if_neg h1,if_neg h1]
    by_cases h2:b=0
    · rw[if_pos h2]
      exact⟨_,rfl,rfl,Nat.le_refl _,rfl⟩
    · rw[if_neg h2]
      exact⟨_,rfl,rfl,Nat.le_refl _,rfl⟩
theorem and255 (x:Int):0≤Go.bits .and .i64 x 255∧Go.bits .and .i64 x 255≤255:=by
  have h:((BitVec.ofInt IntKind.i64.bits x) &&& (BitVec.ofInt IntKind.i64.bits 255)).toNat≤255:=by
    rw[BitVec.toNat_and]
    exact Nat.le_trans Nat.and_le_right (by decide)
  have e:Go.bits .and .i64 x 255=IntKind.i64.wrap ((((BitVec.ofInt IntKind.i64.bits x) &&& (BitVec.ofInt IntKind.i64.bits 255)).toNat:Nat):Int):=rfl
  rw[e,IntKind.wrap_i64]
  omega
theorem byte {s:List Int} (hs:s.length≤1048576) (p e:Int) (hp:0≤p): ∃ b p' e',spec_l01Byte.f s p e=some (b,p',e')∧(0≤b∧b≤255)∧0≤p':=by
  unfold spec_l01Byte.f
  by_cases h:p<(s.length:Int)
  · rw[if_pos h,if_pos hp]
    exact⟨_,_,_,rfl,and255 _,by rw[w64 (by omega) (by omega)];omega⟩
  · rw[if_neg h]
    exact⟨_,_,_,rfl,and255 _,hp⟩
theorem below {s:List Int} (hs:s.length≤1048576) (p e:Int) (hp:0≤p) (n:Int) (h1:1≤n) (h2:n≤256): ∃ r p' e',spec_l01Below.f s p e n=some (r,p',e')∧(0≤r∧r<n)∧0≤p':=by
  obtain⟨b,p',e',hb,hr,hp'⟩:=byte hs p e hp
  unfold spec_l01Below.f
  rw[if_neg (by omega),if_pos h2,hb]
  simp only[Option.bind_some]
  rw[if_neg (by omega)]
  refine⟨_,_,_,rfl,?_,hp'⟩
  rw[Int.tmod_eq_emod_of_nonneg hr.1]
  exact⟨Int.emod_nonneg _ (by omega),Int.emod_lt_of_pos _ (by omega)⟩
theorem once {s:List Int} (hs:s.length≤1048576) (p e:Int) (hp:0≤p) (n:Int) (h1:1≤n) (h2:n≤256): ∃ r p' e',spec_l01Once.f s p e n=some (r,p',e')∧0≤p':=by
  obtain⟨r,p',e',h,_,hp'⟩:=below hs p e hp n h1 h2
  exact⟨_,p',e',by unfold spec_l01Once.f;rw[h];rfl,hp'⟩
theorem pick {s:List Int} (hs:s.length≤1048576) (p e:Int) (hp:0≤p) (l:List Int) (h1:1≤(l.length:Int)) (h2:(l.length:Int)≤256): ∃ v p' e',spec_l01PickInt.f s p e l=some (v,p',e')∧v ∈ l∧0≤p':=by
  obtain⟨r,p',e',h,hr,hp'⟩:=below hs p e hp _ h1 h2
  refine⟨rd l r,p',e',by unfold spec_l01PickInt.f;rw[h];simp only[Option.bind_some];rw[if_pos hr.1,if_pos hr.2],?_,hp'⟩
  obtain⟨i,rfl⟩:=Int.eq_ofNat_of_zero_le hr.1
  have hi:i<l.length:=by omega
  have e:rd l (i:Int)=l[i]:=getD_lt _ hi
  rw[e]
  exact List.getElem_mem hi
theorem half {s:List Int} (hs:s.length≤1048576) (p e:Int) (hp:0≤p): ∃ v p' e',spec_l04Half.f s p e=some (v,p',e')∧(0≤v∧v≤4294967295)∧0≤p':=by
  obtain⟨r,p1,e1,h,hr,hp1⟩:=below hs p e hp 12 (by omega) (by omega)
  obtain⟨v,p2,e2,g,hv,hp2⟩:=pick hs p1 e1 hp1 [0,1,2,3,5,7,255,4294967295,2147483648,r] (by simp) (by simp)
  refine⟨v,p2,e2,by unfold spec_l04Half.f;rw[h];simp only[Option.bind_some];rw[g];rfl,?_,hp2⟩
  simp only[List.mem_cons,List.not_mem_nil,or_false]at hv
  omega
theorem newC (l:List Int) (hl:l.length≤1048576): ∃ e,Evt (fun k=>spec_l01New.f k l) (l,0,e):=by
  have key: ∀ (d i:Nat) (e:Int),i+d=l.length→∃ e',Evt (fun k=>spec_l01New.l0 k l e (i:Int)) (l,0,e'):=by
    intro d
    induction d with
    | zero=>
      intro i e h
      exact⟨e,.succ (.const fun k=>by simp only[spec_l01New.l0];rw[if_neg (by omega)])⟩
    | succ d ih=>
      intro i e h
      by_cases h4:(i:Int)<4000
      · obtain⟨e',K,hK⟩:=ih (i+1) (Go.bits .and .i64 (wrap64 ((wrap64 ((wrap64 (e*131))+(wrap64 (rd l (i:Int)))))+7)) 1073741823) (by omega)
        refine⟨e',.succ ⟨K,fun k hk=>?_⟩⟩
        simp only[spec_l01New.l0]
        rw[if_pos (by omega),if_pos h4,if_pos (by omega),wsucc (show i<l.length by omega) (by omega)]
        exact hK k hk
      · exact⟨e,.succ (.const fun k=>by simp only[spec_l01New.l0];rw[if_pos (by omega),if_neg h4])⟩
  exact key l.length 0 _ (by omega)
theorem modR (y:Int) (hy:0≤y) (n:Int) (hn:1≤n):0≤Int.tmod y n∧Int.tmod y n<n:=by
  rw[Int.tmod_eq_emod_of_nonneg hy]
  exact⟨Int.emod_nonneg _ (by omega),Int.emod_lt_of_pos _ (by omega)⟩
/-- A drawn ring: what it came to, and that it is short. -/
theorem ring_l0 {s:List Int} (hs:s.length≤1048576): ∀ (d i:Nat) (p e:Int) (l:List S33) (a b c:Int),i+d=14→0≤p→l.length≤2*i→(-9223372036854775808≤a∧a≤9223372036854775807)→∃ L a' b' c' p' e',Evt (fun k=>spec_l16Ring.l0 k (i:Int) s p e l a b c) (L,a',b',c',p',e')∧L.length≤28∧(-9223372036854775808≤a'∧a'≤9223372036854775807)∧0≤p':=by
  intro d
  induction d with
  | zero=>
    intro i p e l a b c hi hp hl ha
    obtain⟨r,p1,e1,h1,hr,hp1⟩:=below hs p e hp 14 (by omega) (by omega)
    have n0: ¬ (i:Int)<r:=by omega
    exact⟨l,a,b,c,p1,e1,.succ (.const fun k=>by simp only[spec_l16Ring.l0,h1,Option.bind_some,if_neg n0]),by omega,ha,hp1⟩
  | succ d ih=>
    intro i p e l a b c hi hp hl ha
    obtain⟨r,p1,e1,h1,hr,hp1⟩:=below hs p e hp 14 (by omega) (by omega)
    by_cases hlt:(i:Int)<r
    · obtain⟨t,p2,e2,h2,ht,hp2⟩:=below hs p1 e1 hp1 6 (by omega) (by omega)
      have es:Aside0 _:=⟨wsucc (show i<14 by omega) (by omega)⟩
      by_cases t0:t=0
      · obtain⟨n,p3,e3,h3,hn,hp3⟩:=below hs p2 e2 hp2 3 (by omega) (by omega)
        obtain⟨⟨R1,R2,R3,R4⟩,hS,_,hR,hA⟩:=refilled n l a b c (by omega) ha (by omega)
        dsimp only at hR hA
        obtain⟨L,a',b',c',p',e',⟨K,h⟩,hL⟩:=ih (i+1) p3 e3 R1 R2 R3 R4 (by omega) hp3 (by rw[hR];omega) hA
        refine⟨L,a',b',c',p',e',.succ ⟨K,fun k hk=>?_⟩,hL⟩
        have q:=h k hk
        simp only[spec_l16Ring.l0,h1,Option.bind_some,if_pos hlt,h2,if_pos t0,h3,hS,es.out]
        exact q
      · by_cases t1:t=1
        · obtain⟨⟨R1,R2,R3,R4,R5⟩,hS,_,hR,hA⟩:=drained l a b c (by omega)
          dsimp only at hR hA
          obtain⟨L,a',b',c',p',e',⟨K,h⟩,hL⟩:=ih (i+1) p2 e2 R1 R2 R3 R4 (by omega) hp2 (by omega) (by rw[hA];exact ha)
          refine⟨L,a',b',c',p',e',.succ ⟨K,fun k hk=>?_⟩,hL⟩
          have q:=h k hk
          simp only[spec_l16Ring.l0,h1,Option.bind_some,if_pos hlt,h2,if_neg t0,if_pos t1,hS,es.out]
          exact q
        · obtain⟨n,p3,e3,h3,hn,hp3⟩:=below hs p2 e2 hp2 9 (by omega) (by omega)
          obtain⟨m,p4,e4,h4,hm,hp4⟩:=below hs p3 e3 hp3 9 (by omega) (by omega)
          obtain⟨⟨R1,R2,R3,R4,R5⟩,hS,_,hR,hA⟩:=offered n m l a b c (by omega)
          dsimp only at hR hA
          obtain⟨L,a',b',c',p',e',⟨K,h⟩,hL⟩:=ih (i+1) p4 e4 R1 R2 R3 R4 (by omega) hp4 (by omega) (hA ha)
          refine⟨L,a',b',c',p',e',.succ ⟨K+l.length+10,fun k hk=>?_⟩,hL⟩
          have q:=h k (by omega)
          simp only[spec_l16Ring.l0,h1,Option.bind_some,if_pos hlt,h2,if_neg t0,if_neg t1,h3,h4,hS k (by omega),es.out]
          exact q
    · exact⟨l,a,b,c,p1,e1,.succ (.const fun k=>by simp only[spec_l16Ring.l0,h1,Option.bind_some,if_neg hlt]),by omega,ha,hp1⟩
theorem anyR {s:List Int} (hs:s.length≤1048576) (p e:Int) (hp:0≤p): ∃ L a b c p' e',Evt (fun k=>spec_l16Any.f k s p e) (L,a,b,c,p',e')∧L.length≤29∧(-9223372036854775808≤a∧a≤9223372036854775807):=by
  obtain⟨r,p1,e1,h1,hr,hp1⟩:=below hs p e hp 12 (by omega) (by omega)
  obtain⟨y,p2,e2,h2,hy,hp2⟩:=below hs p1 e1 hp1 60 (by omega) (by omega)
  obtain⟨L,a,b,c,p3,e3,⟨K,h3⟩,hL,ha,_⟩:=ring_l0 hs 14 0 p2 e2 [] 5 0 0 (by omega) hp2 (by simp) (by omega)
  have h3': ∀ k,K≤k→spec_l16Ring.f k s p2 e2=some (L,a,b,c,p3,e3):=fun k hk=>by
    have q:=h3 k hk
    simp only[spec_l16Ring.f,spec_RingNew.f,Option.bind_some]
    exact q
  have n0:([] :List S33).length+L.length<4398046511104:=by simp only[List.length_nil];omega
  have n1:L.length<4398046511104:=by omega
  obtain⟨m2,m3⟩:=modR y hy.1 3 (by omega)
  have three: ∀ a b c:Int,Int.tmod y 3<((([a,b,c] :List Int).length:Nat):Int):=fun a b c=>m3
  by_cases c0:r=0
  · refine⟨_,_,_,_,p3,e3,⟨K,fun k hk=>by simp only[spec_l16Any.f,spec_l16Copy.f,h1,h2,h3' k hk,Option.bind_some,if_pos n0,List.nil_append,if_pos c0,if_pos m2,if_pos (three _ _ _)];rfl⟩,by omega,?_⟩
    obtain⟨i,e⟩:=Int.eq_ofNat_of_zero_le m2
    have hi:i<3:=by omega
    have:i=0∨i=1∨i=2:=by omega
    rw[e]
    rcases this with rfl|rfl|rfl <;> decide
  by_cases c1:r=1
  · exact⟨_,_,_,_,p3,e3,⟨K,fun k hk=>by simp only[spec_l16Any.f,spec_l16Copy.f,h1,h2,h3' k hk,Option.bind_some,if_pos n0,List.nil_append,if_neg c0,if_pos c1,if_pos m2,if_pos (three _ _ _)];rfl⟩,by omega,ha⟩
  by_cases c2:r=2
  · exact⟨_,_,_,_,p3,e3,⟨K,fun k hk=>by simp only[spec_l16Any.f,spec_l16Copy.f,h1,h2,h3' k hk,Option.bind_some,if_pos n0,List.nil_append,if_neg c0,if_neg c1,if_pos c2,if_pos m2,if_pos (three _ _ _)];rfl⟩,by omega,ha⟩
  by_cases c3:r=3
  · refine⟨_,_,_,_,p3,e3,⟨K,fun k hk=>by simp only[spec_l16Any.f,spec_l16Copy.f,h1,h2,h3' k hk,Option.bind_some,if_pos n0,List.nil_append,if_neg c0,if_neg c1,if_neg c2,if_pos c3,if_pos n1];rfl⟩,?_,ha⟩
    simp only[List.length_append,List.length_cons,List.length_nil]
    omega
  exact⟨L,a,b,c,p3,e3,⟨K,fun k hk=>by simp only[spec_l16Any.f,spec_l16Copy.f,h1,h2,h3' k hk,Option.bind_some,if_pos n0,List.nil_append,if_neg c0,if_neg c1,if_neg c2,if_neg c3]⟩,by omega,ha⟩
theorem itemT (l:List Int) (hl:l.length≤1048576): ∃ a b c d,Evt (fun k=>spec_DrawItemOk.f k l) (a,b,c,d):=by
  obtain⟨e,K0,h0⟩:=newC l hl
  dsimp only at h0
  obtain⟨t,p1,e1,h1,ht,hp1⟩:=below hl 0 e (by omega) 4 (by omega) (by omega)
  obtain⟨n,p2,e2,h2,_,hp2⟩:=pick hl p1 e1 hp1 [0,1,1000000000,1000000001,-1] (by simp) (by simp)
  obtain⟨o,p3,e3,h3,hp3⟩:=once hl p2 e2 hp2 2 (by omega) (by omega)
  have J: ∀ (p e a b c d:Int),0≤p→∃ a' b' c' d',∀ k,spec_DrawItemOk.j0 (k+1) l p e a b c d=some (a',b',c',d'):=fun p e a b c d hp=>by
    obtain⟨q,p4,e4,h4,hp4⟩:=once hl p e hp 3 (by omega) (by omega)
    cases q with
    | true=>
      obtain⟨v,p5,e5,h5,_,_⟩:=pick hl p4 e4 hp4 [5,-1,4294967296] (by simp) (by simp)
      exact⟨_,_,_,_,fun k=>by simp only[spec_DrawItemOk.j0,h4,Option.bind_some,if_true,h5];rfl⟩
    | false=>exact⟨_,_,_,_,fun k=>by simp only[spec_DrawItemOk.j0,h4,Option.bind_some,Bool.false_eq_true,if_false];rfl⟩
  cases o with
  | true=>
    obtain⟨v,p4,e4,h4,_,hp4⟩:=half hl p3 e3 hp3
    obtain⟨a,b,c,d,h⟩:=J p4 e4 t v 0 n hp4
    refine⟨a,b,c,d,K0+1,fun k hk=>?_⟩
    obtain⟨k,rfl⟩ : ∃ m,k=m+1:=⟨k - 1,by omega⟩
    simp only[spec_DrawItemOk.f,h0 (k+1) (by omega),Option.bind_some,h1,h2,h3,if_true,h4]
    exact h k
  | false=>
    obtain⟨a,b,c,d,h⟩:=J p3 e3 t 0 0 n hp3
    refine⟨a,b,c,d,K0+1,fun k hk=>?_⟩
    obtain⟨k,rfl⟩ : ∃ m,k=m+1:=⟨k - 1,by omega⟩
    simp only[spec_DrawItemOk.f,h0 (k+1) (by omega),Option.bind_some,h1,h2,h3,Bool.false_eq_true,if_false]
    exact h k
theorem sameR (l:List S33) (hl:l.length≤1000) (a b c:Int):Evt (fun k=>laws_sameRing.f k l a b c l a b c) true:=by
  have h:Evt (fun k=>laws_sameItems.l0 k l l ((0:Nat):Int)) true:=by
    refine down (T:=fun i=>Evt (fun k=>laws_sameItems.l0 k l l (i:Int)) true) (n:=l.length) ?_ ?_ l.length 0 (by omega)
    · have n0: ¬ ((l.length:Nat):Int)<(l.length:Int):=Int.lt_irrefl _
      exact .succ (.const fun k=>by simp only[laws_sameItems.l0,if_neg n0])
    · intro i hi ⟨K,h⟩
      dsimp only at h
      have p1:(i:Int)<(l.length:Int):=by omega
      have p0:(0:Int)≤(i:Int):=by omega
      refine .succ ⟨K,fun k hk=>?_⟩
      simp only[laws_sameItems.l0,if_pos p1,if_pos p0,beq_self_eq_true,Bool.not_true,Bool.or_self,Bool.false_eq_true,if_false,wsucc hi (show l.length≤9223372036854775807 by omega)]
      exact h k hk
  obtain⟨K,h⟩:=h
  refine⟨K,fun k hk=>?_⟩
  have q:=h k hk
  have q:laws_sameItems.l0 k l l 0=some true:=q
  simp only[laws_sameRing.f,laws_sameItems.f,if_true,q,Option.bind_some,beq_self_eq_true]
theorem newOk (k:Nat):impl_RingOk.f (k+2) ([] :List S33) 5 0 0=some true:=by
  have h: ¬ ((([] :List S33).length:Nat):Int)>4:=by decide
  simp[impl_RingOk.f,impl_areItems.f,impl_areItems.l0,impl_RingOk.j0,impl_RingOk.l0,inI]
theorem main (l:List Int) (hl0:l.length≤maxLen): ∃ k,laws_FnRingsTold.f k l=some true:=by
  by_cases hb:(l.length:Int)>1048576
  · exact⟨0,by simp only[laws_FnRingsTold.f,laws_big.f,Option.bind_some,decide_eq_true hb,if_true]⟩
  have hl:l.length≤1048576:=by omega
  obtain⟨e,K0,h0⟩:=newC l hl
  obtain⟨x1,p1,e1,h1,hx1,hp1⟩:=pick hl 0 e (by omega) [0,3,4294967295,-1] (by simp) (by simp)
  obtain⟨x2,p2,e2,h2,hx2,hp2⟩:=pick hl p1 e1 hp1 [0,7,4294967296] (by simp) (by simp)
  obtain⟨A,a1,a2,a3,p3,e3,⟨K1,h3⟩,hA,_⟩:=anyR hl p2 e2 hp2
  obtain⟨n,p4,e4,h4,hn,hp4⟩:=pick hl 0 e (by omega) [0,1,3,5,6,-1,9223372036854775807] (by simp) (by simp)
  obtain⟨B,b1,b2,b3,p5,e5,⟨K2,h5⟩,hB,hb1⟩:=anyR hl p4 e4 hp4
  obtain⟨C,c1,c2,c3,p6,e6,⟨K3,h6⟩,hC,_⟩:=anyR hl 0 e (by omega)
  obtain⟨⟨A1,A2,A3,A4,A5⟩,oS,oI,hA1,_⟩:=offered x1 x2 A a1 a2 a3 (by omega)
  simp only[List.mem_cons,List.not_mem_nil,or_false]at hn
  obtain⟨⟨B1,B2,B3,B4⟩,rS,rI,hB1,_⟩:=refilled n B b1 b2 b3 (by omega) hb1 (by omega)
  obtain⟨⟨C1,C2,C3,C4,C5,C6,C7,C8,C9⟩,dS,dI,hC1,_⟩:=drained C c1 c2 c3 (by omega)
  obtain⟨i1,i2,i3,i4,K4,h7⟩:=itemT l hl
  obtain⟨r,qS,qI⟩:=ring C c1 c2 c3 (by omega)
  dsimp only at h0 h3 h5 h6 h7 hA1 hB1 hC1
  obtain⟨K5,h8⟩:=sameR A1 (by omega) A2 A3 A4
  obtain⟨K6,h9⟩:=sameR B1 (by rw[hB1];omega) B2 B3 B4
  obtain⟨K7,h10⟩:=sameR C1 (by omega) C2 C3 C4
  dsimp only at h8 h9 h10
  have key: ∀ M,K0≤M→K1≤M→K2≤M→K3≤M→K4≤M→K5≤M→K6≤M→K7≤M→A.length+10≤M→C.length+3≤M→laws_FnRingsTold.f M l=some true:=fun M m0 m1 m2 m3 m4 m5 m6 m7 m8 m9=>by
    have hN:impl_RingOk.f M ([] :List S33) 5 0 0=some true:=by
      obtain⟨k,rfl⟩ : ∃ m,M=m+2:=⟨M - 2,by omega⟩
      exact newOk k
    have i0:=itI (⟨i1,i2,i3,i4⟩ :S33)
    have i5:=itS (⟨i1,i2,i3,i4⟩ :S33)
    dsimp only at i0 i5
    simp only[laws_FnRingsTold.f,laws_big.f,decide_eq_false hb,Bool.false_eq_true,if_false,spec_DrawOffered.f,spec_DrawRefilled.f,spec_DrawDrained.f,spec_DrawRingOk.f,h0 M m0,h1,h2,h3 M m1,h4,h5 M m2,h6 M m3,h7 M m4,oS M m8,oI M m8,rS,rI,dS,dI,qS M m9,qI M m9,h8 M m5,h9 M m6,h10 M m7,i0,i5,impl_RingNew.f,hN,Option.bind_some,beq_self_eq_true,Bool.and_self,if_true]
  exact⟨K0+K1+K2+K3+K4+K5+K6+K7+A.length+10+C.length+3,key _ (by omega) (by omega) (by omega) (by omega) (by omega) (by omega) (by omega) (by omega) (by omega) (by omega)⟩

end Go.Proofs.Ytlgndgjbfjefpaa.PFnRingsTold
end
section
/- FnRingsTold: what a drawn ring, right or not, does is what the document tells. No conditions. -/
namespace Go.Proofs.Ytlgndgjbfjefpaa.Pure
open Go Go.RowKit Go.Proofs.Ytlgndgjbfjefpaa.PFnRingsTold Go.Proofs.YtlgndgjbfjefpaaW.PrintWords Go.Proofs.YtlgndgjbfjefpaaW.PrintLast
theorem FnRingsTold : laws_FnRingsTold.Pure := by
 intro l hl _ _; exact main l hl
end Go.Proofs.Ytlgndgjbfjefpaa.Pure
end
section
/- FnRingsTold: the row. No conditions. -/
namespace Go.Proofs.Ytlgndgjbfjefpaa.fnRingsTold
open Go.ChangeShapes Go.WideShapes Go.ChangeAt Go.RowKit
open Go.ChangeMaps (open_string shut_string)
set_option linter.unusedVariables false
theorem own : ownKnob Try.prog.godebug = none := by kernel_rfl
theorem laidOut : laidOutB Try.prog = true := by kernel_rfl
def IsRow (k : IntKind) (w : World) (a : Option Addr) (len cap : Nat) (zs : List Int) : Prop :=
  (a = none ∧ len = 0 ∧ cap = 0 ∧ zs = []) ∨
  ∃ x, a = some x ∧ len ≤ cap ∧ cap ≤ maxLen ∧ zs.length = cap ∧ (∀ i, i < zs.length → w.cell? (x.add i) = some (.int k (zs.getD i 0))) ∧ ∀ n ∈ zs, (Lit.int k n).wf = true
set_option maxRecDepth 100000 in
theorem lifted (os : Os) (started : os.Started) (H : Type) (enc : TypeId × Value → H) :
    ReturnsInHanded {} Try.checked os 4 .any (Rows.fnRingsToldSpec.pre6 enc Try.prog Try.f4 Rows.fnRingsToldRow.domain false) (Rows.fnRingsToldSpec.post enc Try.prog Try.f4 false true false false) := by
  refine returnsInHanded_of_change_sized (C := Try.checked) own started (by kernel_rfl) Try.func4
    (ChangeSpec.witness6 (enc := enc) (C := Try.checked) false ⟨#[], #[.slice none 0 0], []⟩ 8 (by kernel_rfl) (by kernel_rfl) (by kernel_rfl) (by kernel_rfl)) ?_
  intro W base args ds gs before hval0 hW hcnd hsz0 _
  have hsz : (DataW.weightsEach Try.prog (Try.f4.params.toList ++ Rows.fnRingsToldSpec.plain.varTypes Try.prog) (ds ++ gs)).all (· ≤ reachBytes) = true := hsz0
  have hval : ∀ (j : Nat) t v, Try.f4.params[j]? = some t → args[j]? = some v → Value.okWide Try.prog W .any base t v := hval0
  have hW' := hW
  obtain ⟨p, q, hA0, hV, rfl, hfz, hnd⟩ := hW
  have hA : DataW.TrodAll enc Try.prog W 0 (fun _ => true) true Try.f4.params.toList args.toList ds p := hA0
  rw [Try.params4] at hA hval hsz
  obtain ⟨v0, vs0, d0, ds0, p0, q0, hargs, rfl, rfl, h0, r0⟩ := trodAll_cons hA
  obtain ⟨rfl, rfl, rfl⟩ := trodAll_nil r0
  obtain rfl : args = #[v0] := by cases args; simp_all
  obtain ⟨rfl, rfl⟩ := trodVars_none hV
  obtain ⟨a0, len0, cap0, rfl⟩ := okWide_slice Try.underlying22 (hval 0 22 v0 rfl rfl)
  have k0 := h0
  have lt0 : ∀ x ∈ p0, x.block < W.heap.size := by obtain ⟨m, hm⟩ := k0; exact DataW.trod_lt m _ _ _ hm
  obtain ⟨z0, w0⟩ : ∃ zs, IsRow .u8 W a0 len0 cap0 zs := by
    obtain ⟨fuel, hf⟩ := h0
    rcases open_ints Try.underlying22 Try.underlying5 (by kernel_rfl) hf with ⟨hcs, _⟩ | ⟨x, l, c, zs, hcs, _, hl, hm, hz, _, hcell, hwz⟩
    · simp [Value.cells] at hcs
      obtain ⟨rfl, rfl, rfl⟩ := hcs
      exact ⟨[], .inl ⟨rfl, rfl, rfl, rfl⟩⟩
    · simp [Value.cells] at hcs
      obtain ⟨rfl, rfl, rfl⟩ := hcs
      exact ⟨zs, .inr ⟨_, rfl, hl, hm, by simpa using hz, hcell, hwz⟩⟩
  have y0 : len0 * 1 ≤ 140737488351232 := Go.Proofs.YtlgndgjbfjefpaaW.PrintWords.sized_ints hsz (j := 0) (t := 22) rfl rfl Try.underlying22 Try.underlying5 (by kernel_rfl) (by kernel_rfl) h0
  clear hA0 hval0 hsz0 hsz
  refine (PFnRingsTold.laws_FnRingsTold.walk Pure.FnRingsTold a0 len0 cap0 z0 W w0 y0).mono fun e W' ⟨he, bel⟩ => ?_
  subst he
  exact ⟨_, rfl, _, _, _, [], _, [], hW', trodAll_mk1 (shut_bool Try.underlying4 _), (trodAll_cons_mk (Below.trod laidOut (by kernel_rfl) (of_decide_eq_true (by kernel_rfl)) k0 bel lt0) trodAll_mk0), rfl, bel.frame _, fun h => by cases h⟩
theorem over : Rows.fnRingsToldRow.holds Try.pinned (OpenSpec.ofChange Rows.fnRingsToldSpec) :=
  OpenClaim.holds_of_wide 4 Try.f4 rfl rfl rfl rfl rfl rfl rfl ⟨rfl, rfl, rfl, rfl, rfl⟩ rfl rfl rfl rfl rfl (by kernel_rfl) Try.func4 (by kernel_rfl)
    (of_decide_eq_true (by kernel_rfl)) (by unfold Func.isWrapper; first | (rw [if_pos (by decide +kernel)]; kernel_rfl) | (rw [if_neg (by decide +kernel)]; exact ⟨rfl, rfl⟩))
    (fun os started H enc _ => lifted os started H enc)
theorem proved : Rows.FnRingsToldSaid := over
#print axioms proved
end Go.Proofs.Ytlgndgjbfjefpaa.fnRingsTold
namespace Go.Proofs.Ytlgndgjbfjefpaa
/-- The row, under a short name, for the claim. -/
theorem fnRingsTold_holds : Rows.FnRingsToldSaid := fnRingsTold.proved
end Go.Proofs.Ytlgndgjbfjefpaa
end
