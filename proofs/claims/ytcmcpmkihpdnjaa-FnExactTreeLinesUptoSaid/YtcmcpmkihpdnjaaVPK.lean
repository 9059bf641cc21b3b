/- Plain lemmas on numbers and lists for the pure statements: no program, no memory. -/
import Derived.Test.YtcmcpmkihpdnjaaVWMore
namespace Go.Proofs.YtcmcpmkihpdnjaaW.PK
open Go Go.RowKit Go.Proofs.YtcmcpmkihpdnjaaW.PrintWords
theorem w64 {x : Int} (h1 : -9223372036854775808 ≤ x) (h2 : x ≤ 9223372036854775807) : wrap64 x = x := by unfold wrap64; omega
theorem wsucc {i n : Nat} (h : i < n) (hn : n ≤ 9223372036854775807) : wrap64 ((i : Int) + 1) = ((i + 1 : Nat) : Int) := by unfold wrap64; omega
theorem getD_lt {α : Type} {xs : List α} {i : Nat} (z : α) (h : i < xs.length) : xs.getD ((i : Int)).toNat z = xs[i] := by
 rw [Int.toNat_natCast, List.getD_eq_getElem?_getD, List.getElem?_eq_getElem h]
 rfl
theorem take_succ_eq {α : Type} {xs ys : List α} {i : Nat} (hx : i < xs.length) (hy : i < ys.length) (h : xs.take i = ys.take i) (e : xs[i] = ys[i]) : xs.take (i + 1) = ys.take (i + 1) := by
 rw [List.take_succ_eq_append_getElem hx, List.take_succ_eq_append_getElem hy, h, e]
theorem take_set {α : Type} {xs : List α} {i : Nat} (v : α) : (xs.set i v).take i = xs.take i := by
 rw [List.take_set_of_le (Nat.le_refl _)]
/-- Rounds: a thing that is so from K rounds on. -/
theorem ev_of {α : Type} {g : Nat → Option α} {r : α} (K : Nat) (h : ∀ k, K ≤ k → g k = some r) : ∃ K, ∀ k, K ≤ k → g k = some r := ⟨K, h⟩
end Go.Proofs.YtcmcpmkihpdnjaaW.PK
