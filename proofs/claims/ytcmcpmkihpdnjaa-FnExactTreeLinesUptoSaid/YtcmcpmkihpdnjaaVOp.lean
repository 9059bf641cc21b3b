/- What reads as a datum of a type is of the print's kind for that type: one lemma a kind (whole numbers, bools, strings, slices, structs). -/
import Derived.Test.YtcmcpmkihpdnjaaVWMore
import Derived.ChangeArms
import Derived.DataReads
import Derived.ChangeSame
import Derived.ProofKit
namespace Go.Proofs.YtcmcpmkihpdnjaaW.Op
open Go Go.RowKit Go.Proofs.YtcmcpmkihpdnjaaW.PrintWords
set_option linter.unusedSimpArgs false
set_option linter.unusedVariables false
/-- What reads as a datum of type t is of the kind d, and meets F. -/
def Opens (P : Program) {α : Type} (d : Kd α) (t : TypeId) (F : α → Prop) : Prop :=
 ∀ {H : Type} (enc : TypeId × Value → H) (W : World) (sp : Nat → Bool) (held : Bool) (fuel : Nat) (cs : List Value) (x : DataW H × List MemPlace), DataW.trod enc P W 0 sp held fuel t cs = some x → ∃ y, d.K W y cs ∧ F y
theorem Opens.int {P : Program} {t : TypeId} {k : IntKind} (ht : P.underlying t = some (.int k)) : Opens P (Kd.int k) t (fun n => (Lit.int k n).wf = true) := by
 intro H enc W sp held fuel cs x h
 cases fuel with
 | zero => simp [DataW.trod] at h
 | succ n =>
  unfold DataW.trod at h
  rw [ht] at h
  split at h <;> simp_all
  exact ⟨_, rfl, h.1.2⟩
theorem Opens.bool {P : Program} {t : TypeId} (ht : P.underlying t = some .bool) : Opens P Kd.bool t (fun _ => True) := by
 intro H enc W sp held fuel cs x h
 cases fuel with
 | zero => simp [DataW.trod] at h
 | succ n =>
  unfold DataW.trod at h
  rw [ht] at h
  split at h <;> simp_all
  rename_i b
  cases b
  ·exact .inl rfl
  ·exact .inr rfl
theorem Opens.string {P : Program} {t : TypeId} (ht : P.underlying t = some .string) : Opens P Kd.string t (fun s => s.size ≤ maxLen) := by
 intro H enc W sp held fuel cs x h
 cases fuel with
 | zero => simp [DataW.trod] at h
 | succ n =>
  unfold DataW.trod at h
  rw [ht] at h
  split at h <;> simp_all
  exact ⟨_, rfl, h.1⟩
theorem list_of {α : Type} {Q : Nat → α → Prop} : ∀ n, (∀ i, i < n → ∃ y, Q i y) → ∃ xs : List α, xs.length = n ∧ ∀ j p, xs[j]? = some p → Q j p
 | 0, _ => ⟨[], rfl, fun j p h => by simp at h⟩
 | n + 1, h => by
  obtain ⟨xs, hl, hx⟩ := list_of n (fun i hi => h i (by omega))
  obtain ⟨y, hy⟩ := h n (by omega)
  refine ⟨xs ++ [y], by simp [hl], fun j p hj => ?_⟩
  rcases Nat.lt_or_ge j xs.length with h1 | h1
  ·rw [List.getElem?_append_left h1] at hj
   exact hx j p hj
  ·have h2 : j < (xs ++ [y]).length := (List.getElem?_eq_some_iff.1 hj).1
   rw [List.length_append, List.length_singleton] at h2
   have h3 : j = xs.length := by omega
   subst h3
   have h4 : y = p := by simpa using hj
   rw [← h4, hl]
   exact hy
theorem add_add (a : Addr) (i j : Nat) (ha : a.spot = none ∨ 0 < i ∨ 0 < j ∨ True) : (a.add i).add j = a.add (i + j) := by
 unfold Addr.add
 by_cases h1 : i = 0
 ·subst h1
  by_cases h2 : j = 0 <;> simp [h2]
 ·by_cases h2 : j = 0
  ·simp [h1, h2]
  ·have h3 : i + j ≠ 0 := by omega
   simp [h1, h2, Nat.add_assoc]
theorem Opens.slice {P : Program} {α : Type} {d : Kd α} {t e : TypeId} {F : α → Prop} (ht : P.underlying t = some (.slice e)) (hc : P.cellsOf e = d.sz) (h : Opens P d e F) :
  Opens P (Kd.slice e d) t (fun xs => (∀ x ∈ xs, F x) ∧ xs.length ≤ maxLen) := by
 intro H enc W sp held fuel cs x hx
 rcases DataW.trod_slice ht hx with ⟨rfl, _⟩ | ⟨a, len, cap, elems, rest, n, _, rfl, _, _, hl, hm, hlen, hel, _, _⟩
 ·refine ⟨[], ⟨none, 0, rfl, Nat.le_refl _, rfl, by simp, fun h => absurd h (by simp)⟩, by simp, by simp⟩
 ·have each : ∀ i, i < len → ∃ y, F y ∧ ∃ c, c.length = d.sz ∧ d.K W y c ∧ ∀ j u, c[j]? = some u → W.cell? (a.add (i * d.sz + j)) = some u := by
   intro i hi
   have h1 := hel i hi
   rw [List.getElem?_eq_getElem (by omega)] at h1
   obtain ⟨c, hc1, hc2⟩ := Option.bind_eq_some_iff.mp h1
   obtain ⟨y, hy, hF⟩ := h enc W sp held n c _ hc2
   obtain ⟨_, h2, h3⟩ := World.cells?_some hc1
   refine ⟨y, hF, c, d.K_len hy, hy, fun j u hu => ?_⟩
   have hj : j < c.length := (List.getElem?_eq_some_iff.1 hu).1
   have h4 := h3 j (by omega)
   rw [add_add _ _ _ (by simp), hu, hc] at h4
   exact h4
  obtain ⟨xs, hxl, hxs⟩ := list_of len each
  subst hxl
  refine ⟨xs, ⟨some a, cap, rfl, hl, rfl, ?_, fun _ => ⟨a, rfl, fun j p hj => (hxs j p hj).2⟩⟩, fun x hx => ?_, ?_⟩
  ·simp only [maxLen] at hm
   omega
  ·obtain ⟨j, hj⟩ := List.getElem?_of_mem hx
   exact (hxs j x hj).1
  ·simp only [maxLen] at hm ⊢
   omega
/-- A struct's fields from one on, in line. -/
def OpensF (P : Program) {α : Type} (d : Kd α) (fs : List Field) (off : Nat) (F : α → Prop) : Prop :=
 ∀ {H : Type} (enc : TypeId × Value → H) (W : World) (sp : Nat → Bool) (held : Bool) (fuel : Nat) (cs : List Value) (xs : List (DataW H × List MemPlace)),
  (fs.mapM fun f => DataW.trod enc P W 0 sp held fuel f.type ((cs.drop f.offset).take (P.cellsOf f.type))) = some xs → ∃ y, d.K W y ((cs.drop off).take d.sz) ∧ F y
theorem OpensF.last {P : Program} {α : Type} {d : Kd α} {f : Field} {F : α → Prop} (h : Opens P d f.type F) (hs : P.cellsOf f.type = d.sz) : OpensF P d [f] f.offset F := by
 intro H enc W sp held fuel cs xs hx
 rw [List.mapM_cons] at hx
 obtain ⟨y, hy, _⟩ := Option.bind_eq_some_iff.mp hx
 rw [hs] at hy
 exact h enc W sp held fuel _ y hy
theorem OpensF.cons {P : Program} {α β : Type} {d : Kd α} {d' : Kd β} {f : Field} {fs : List Field} {F : α → Prop} {G : β → Prop} (h : Opens P d f.type F) (hs : P.cellsOf f.type = d.sz) (k : OpensF P d' fs (f.offset + d.sz) G) :
  OpensF P (Kd.pair d d') (f :: fs) f.offset (fun x => F x.1 ∧ G x.2) := by
 intro H enc W sp held fuel cs xs hx
 rw [List.mapM_cons] at hx
 obtain ⟨y, hy, hx⟩ := Option.bind_eq_some_iff.mp hx
 obtain ⟨ys, hys, _⟩ := Option.bind_eq_some_iff.mp hx
 rw [hs] at hy
 obtain ⟨u, hu, hF⟩ := h enc W sp held fuel _ y hy
 obtain ⟨v, hv, hG⟩ := k enc W sp held fuel _ ys hys
 refine ⟨(u, v), ⟨_, _, ?_, hu, hv⟩, hF, hG⟩
 show List.take (d.sz + d'.sz) (List.drop f.offset cs) = _
 rw [List.take_add, List.drop_drop]
theorem Opens.struct {P : Program} {α β : Type} {d : Kd α} {t : TypeId} {fs : Array Field} {F : α → Prop} (f : β → α) (g : α → β) (hfg : ∀ x, f (g x) = x) (ht : P.underlying t = some (.struct fs)) (hc : P.cellsOf t = d.sz) (h : OpensF P d fs.toList 0 F) :
  Opens P (Kd.iso d f) t (fun x => F (f x)) := by
 intro H enc W sp held fuel cs x hx
 cases fuel with
 | zero => simp [DataW.trod] at hx
 | succ n =>
  have hlen : cs.length = P.cellsOf t ∧ ∃ xs, (fs.toList.mapM fun f => DataW.trod enc P W 0 sp held n f.type ((cs.drop f.offset).take (P.cellsOf f.type))) = some xs := by
   unfold DataW.trod at hx
   rw [ht] at hx
   split at hx <;> simp_all
   obtain ⟨_, xs, h1, _⟩ := hx
   exact ⟨xs, h1⟩
  obtain ⟨h1, xs, h2⟩ := hlen
  obtain ⟨y, hy, hF⟩ := h enc W sp held n cs xs h2
  refine ⟨g y, ?_, by show F (f (g y)); rw [hfg]; exact hF⟩
  show d.K W (f (g y)) cs
  rw [hfg]
  rw [List.drop_zero, List.take_of_length_le (by omega)] at hy
  exact hy
/-- Facts of a lesser kind. -/
theorem Opens.imp {P : Program} {α : Type} {d : Kd α} {t : TypeId} {F G : α → Prop} (h : Opens P d t F) (hi : ∀ x, F x → G x) : Opens P d t G := by
 intro H enc W sp held fuel cs x hx
 obtain ⟨y, hy, hF⟩ := h enc W sp held fuel cs x hx
 exact ⟨y, hy, hi y hF⟩
section
variable {P : Program} {W : World} {t e : TypeId} {α : Type} {d : Kd α} {F : α → Prop} {H : Type} {enc : TypeId × Value → H} {sp : Nat → Bool} {held : Bool} {v : Value} {x : DataW H} {ps : List MemPlace}
/-- An argument that is a slice. -/
theorem arg_slice (ht : P.underlying t = some (.slice e)) (hc : P.cellsOf e = d.sz) (h : Opens P d e F) (hv : Value.okWide P W .any 0 t v) (hr : DataW.Trod enc P W 0 sp held t v x ps) :
  ∃ (A : Option Addr) (c : Nat) (xs : List α), v = .slice A xs.length c ∧ xs.length ≤ c ∧ d.C W A xs.length xs ∧ (∀ x ∈ xs, F x) ∧ xs.length ≤ maxLen := by
 obtain ⟨a0, len, cap, rfl⟩ := Go.WideShapes.okWide_slice ht hv
 obtain ⟨fuel, hf⟩ := hr
 obtain ⟨xs, ⟨A, c, he, hl, hC⟩, hF, hm⟩ := Opens.slice ht hc h enc W sp held fuel _ _ hf
 have he2 : Value.slice a0 len cap = .slice A xs.length c := by simpa [Value.cells] using he
 exact ⟨A, c, xs, he2, hl, hC, hF, hm⟩
/-- An argument that is a struct. -/
theorem arg_struct {fs : Array Field} (ht : P.underlying t = some (.struct fs)) (h : Opens P d t F) (hv : Value.okWide P W .any 0 t v) (hr : DataW.Trod enc P W 0 sp held t v x ps) :
  ∃ (cs : List Value) (y : α), v = .agg cs.toArray ∧ d.K W y cs ∧ F y := by
 simp only [Value.okWide, ht] at hv
 obtain ⟨cs, rfl, _, _⟩ := hv
 obtain ⟨fuel, hf⟩ := hr
 obtain ⟨y, hK, hF⟩ := h enc W sp held fuel _ _ hf
 exact ⟨cs.toList, y, by simp, hK, hF⟩
/-- An argument of one cell. -/
theorem arg_int {k : IntKind} (ht : P.underlying t = some (.int k)) (hr : DataW.Trod enc P W 0 sp held t v x ps) (hv : Value.okWide P W .any 0 t v) : ∃ n : Int, v = .int k n ∧ (Lit.int k n).wf = true := by
 obtain ⟨fuel, hf⟩ := hr
 obtain ⟨n, hK, hF⟩ := Opens.int ht enc W sp held fuel _ _ hf
 simp only [Value.okWide, ht, Cell.okWide] at hv
 cases v <;> simp_all [Cell.ok, Value.cells, Kd.int, Kd.scalar]
theorem arg_bool (ht : P.underlying t = some .bool) (hr : DataW.Trod enc P W 0 sp held t v x ps) (hv : Value.okWide P W .any 0 t v) : ∃ b : Bool, v = .bool b := by
 simp only [Value.okWide, ht, Cell.okWide] at hv
 cases v <;> simp_all [Cell.ok, Value.cells]
theorem arg_string (ht : P.underlying t = some .string) (hr : DataW.Trod enc P W 0 sp held t v x ps) (hv : Value.okWide P W .any 0 t v) : ∃ s : ByteArray, v = .string s ∧ s.size ≤ maxLen := by
 obtain ⟨fuel, hf⟩ := hr
 obtain ⟨s, hK, hF⟩ := Opens.string ht enc W sp held fuel _ _ hf
 simp only [Value.okWide, ht, Cell.okWide] at hv
 cases v <;> simp_all [Cell.ok, Value.cells, Kd.string, Kd.scalar]
end
end Go.Proofs.YtcmcpmkihpdnjaaW.Op
