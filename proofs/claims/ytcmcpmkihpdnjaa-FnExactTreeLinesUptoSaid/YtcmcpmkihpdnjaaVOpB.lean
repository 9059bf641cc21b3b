/- What reads as a datum is of the print's kind for its type and bears at least so much bulk: one lemma a kind. -/
import Derived.Test.YtcmcpmkihpdnjaaVOp
import Derived.Test.YtcmcpmkihpdnjaaRows
namespace Go.Proofs.YtcmcpmkihpdnjaaW.Op
open Go Go.RowKit Go.Proofs.YtcmcpmkihpdnjaaW.PrintWords Go.Proofs.Ytcmcpmkihpdnjaa
set_option linter.unusedSimpArgs false
set_option linter.unusedVariables false
theorem bulk_one {H : Type} (d : DataW H) : 1 ≤ Rows.uptoBulk d := by
  cases d with
  | lit l => cases l <;> simp [Rows.uptoBulk]
  | nil => simp [Rows.uptoBulk]
  | ptr d => simp [Rows.uptoBulk]
  | slice elems spare => simp [Rows.uptoBulk]
  | agg parts => simp [Rows.uptoBulk]
  | iface t d => simp [Rows.uptoBulk]
  | map entries => simp [Rows.uptoBulk]
  | held h => simp [Rows.uptoBulk]
def OpensB (P : Program) {α : Type} (d : Kd α) (t : TypeId) (F : α → Prop) (m : α → Nat) : Prop :=
  ∀ {H : Type} (enc : TypeId × Value → H) (W : World) (sp : Nat → Bool) (held : Bool) (fuel : Nat) (cs : List Value) (x : DataW H × List MemPlace), DataW.trod enc P W 0 sp held fuel t cs = some x → ∃ y, d.K W y cs ∧ F y ∧ m y ≤ Rows.uptoBulk x.1
theorem Opens.toB {P : Program} {α : Type} {d : Kd α} {t : TypeId} {F : α → Prop} (h : Opens P d t F) : OpensB P d t F (fun _ => 1) := by
  intro H enc W sp held fuel cs x hx
  obtain ⟨y, hy, hF⟩ := h enc W sp held fuel cs x hx
  exact ⟨y, hy, hF, bulk_one _⟩
theorem OpensB.imp {P : Program} {α : Type} {d : Kd α} {t : TypeId} {F G : α → Prop} {m m' : α → Nat} (h : OpensB P d t F m) (hi : ∀ x, F x → G x) (hm : ∀ x, m' x ≤ m x) : OpensB P d t G m' := by
  intro H enc W sp held fuel cs x hx
  obtain ⟨y, hy, hF, hb⟩ := h enc W sp held fuel cs x hx
  exact ⟨y, hy, hi y hF, Nat.le_trans (hm y) hb⟩
theorem sum_bulk {α H : Type} {m : α → Nat} : ∀ (xs : List α) (es : List (DataW H × List MemPlace)), xs.length = es.length → (∀ (j : Nat) (a : α) (b : DataW H × List MemPlace), xs[j]? = some a → es[j]? = some b → m a ≤ Rows.uptoBulk b.1) → (xs.map m).sum ≤ Rows.uptoBulkAll (es.map (·.1))
  | [], _, _, _ => by simp
  | _ :: _, [], h, _ => by simp at h
  | x :: xs, e :: es, h, k => by
    have h1 := sum_bulk xs es (by simpa using h) (fun j a b ha hb => k (j + 1) a b (by simpa using ha) (by simpa using hb))
    have h2 := k 0 x e rfl rfl
    simp only [List.map_cons, List.sum_cons, Rows.uptoBulkAll]
    omega
theorem OpensB.slice {P : Program} {α : Type} {d : Kd α} {t e : TypeId} {F : α → Prop} {m : α → Nat} (ht : P.underlying t = some (.slice e)) (hc : P.cellsOf e = d.sz) (h : OpensB P d e F m) :
    OpensB P (Kd.slice e d) t (fun xs => (∀ x ∈ xs, F x) ∧ xs.length ≤ maxLen) (fun xs => (xs.map m).sum) := by
  intro H enc W sp held fuel cs x hx
  rcases DataW.trod_slice ht hx with ⟨rfl, rfl⟩ | ⟨a, len, cap, elems, rest, n, _, rfl, hxe, _, hl, hm, hlen, hel, _, _⟩
  · refine ⟨[], ⟨none, 0, rfl, Nat.le_refl _, rfl, by simp, fun h => absurd h (by simp)⟩, ⟨by simp, by simp⟩, by simp⟩
  · have each : ∀ i, i < len → ∃ y, (F y ∧ ∃ c, c.length = d.sz ∧ d.K W y c ∧ ∀ j u, c[j]? = some u → W.cell? (a.add (i * d.sz + j)) = some u) ∧ ∀ b, elems[i]? = some b → m y ≤ Rows.uptoBulk b.1 := by
      intro i hi
      have h1 := hel i hi
      rw [List.getElem?_eq_getElem (by omega)] at h1
      obtain ⟨c, hc1, hc2⟩ := Option.bind_eq_some_iff.mp h1
      obtain ⟨y, hy, hF, hb⟩ := h enc W sp held n c _ hc2
      obtain ⟨_, h2, h3⟩ := World.cells?_some hc1
      refine ⟨y, ⟨hF, c, d.K_len hy, hy, fun j u hu => ?_⟩, fun b hb2 => ?_⟩
      · have hj : j < c.length := (List.getElem?_eq_some_iff.1 hu).1
        have h4 := h3 j (by omega)
        rw [add_add _ _ _ (by simp), hu, hc] at h4
        exact h4
      · rw [List.getElem?_eq_getElem (by omega)] at hb2
        rw [← Option.some.inj hb2]
        exact hb
    obtain ⟨xs, hxl, hxs⟩ := list_of len each
    subst hxl
    refine ⟨xs, ⟨some a, cap, rfl, hl, rfl, ?_, fun _ => ⟨a, rfl, fun j p hj => (hxs j p hj).1.2⟩⟩, ⟨fun x hx => ?_, ?_⟩, ?_⟩
    · simp only [maxLen] at hm
      omega
    · obtain ⟨j, hj⟩ := List.getElem?_of_mem hx
      exact (hxs j x hj).1.1
    · simp only [maxLen] at hm ⊢
      omega
    · have hs := sum_bulk (m := m) xs elems (by omega) (fun j a b ha hb => (hxs j a ha).2 b hb)
      rw [hxe]
      simp only [Rows.uptoBulk]
      omega
def OpensFB (P : Program) {α : Type} (d : Kd α) (fs : List Field) (off : Nat) (F : α → Prop) (m : α → Nat) : Prop :=
  ∀ {H : Type} (enc : TypeId × Value → H) (W : World) (sp : Nat → Bool) (held : Bool) (fuel : Nat) (cs : List Value) (xs : List (DataW H × List MemPlace)),
    (fs.mapM fun f => DataW.trod enc P W 0 sp held fuel f.type ((cs.drop f.offset).take (P.cellsOf f.type))) = some xs → ∃ y, d.K W y ((cs.drop off).take d.sz) ∧ F y ∧ m y ≤ Rows.uptoBulkAll (xs.map (·.1))
theorem OpensFB.last {P : Program} {α : Type} {d : Kd α} {f : Field} {F : α → Prop} {m : α → Nat} (h : OpensB P d f.type F m) (hs : P.cellsOf f.type = d.sz) : OpensFB P d [f] f.offset F m := by
  intro H enc W sp held fuel cs xs hx
  rw [List.mapM_cons] at hx
  obtain ⟨y, hy, hx⟩ := Option.bind_eq_some_iff.mp hx
  rw [List.mapM_nil] at hx
  obtain rfl : [y] = xs := Option.some.inj hx
  rw [hs] at hy
  obtain ⟨u, hu, hF, hb⟩ := h enc W sp held fuel _ y hy
  exact ⟨u, hu, hF, by simp only [List.map_cons, List.map_nil, Rows.uptoBulkAll]; omega⟩
theorem OpensFB.cons {P : Program} {α β : Type} {d : Kd α} {d' : Kd β} {f : Field} {fs : List Field} {F : α → Prop} {G : β → Prop} {m : α → Nat} {m' : β → Nat} (h : OpensB P d f.type F m) (hs : P.cellsOf f.type = d.sz) (k : OpensFB P d' fs (f.offset + d.sz) G m') :
    OpensFB P (Kd.pair d d') (f :: fs) f.offset (fun x => F x.1 ∧ G x.2) (fun x => m x.1 + m' x.2) := by
  intro H enc W sp held fuel cs xs hx
  rw [List.mapM_cons] at hx
  obtain ⟨y, hy, hx⟩ := Option.bind_eq_some_iff.mp hx
  obtain ⟨ys, hys, hx⟩ := Option.bind_eq_some_iff.mp hx
  obtain rfl : y :: ys = xs := Option.some.inj hx
  rw [hs] at hy
  obtain ⟨u, hu, hF, hb⟩ := h enc W sp held fuel _ y hy
  obtain ⟨v, hv, hG, hb'⟩ := k enc W sp held fuel _ ys hys
  refine ⟨(u, v), ⟨_, _, ?_, hu, hv⟩, ⟨hF, hG⟩, ?_⟩
  · show List.take (d.sz + d'.sz) (List.drop f.offset cs) = _
    rw [List.take_add, List.drop_drop]
  · simp only [List.map_cons, Rows.uptoBulkAll]
    omega
theorem OpensB.struct {P : Program} {α β : Type} {d : Kd α} {t : TypeId} {fs : Array Field} {F : α → Prop} {m : α → Nat} (f : β → α) (g : α → β) (hfg : ∀ x, f (g x) = x) (ht : P.underlying t = some (.struct fs)) (hc : P.cellsOf t = d.sz) (h : OpensFB P d fs.toList 0 F m) :
    OpensB P (Kd.iso d f) t (fun x => F (f x)) (fun x => m (f x)) := by
  intro H enc W sp held fuel cs x hx
  cases fuel with
  | zero => simp [DataW.trod] at hx
  | succ n =>
    have hlen : cs.length = P.cellsOf t ∧ ∃ xs, (fs.toList.mapM fun f => DataW.trod enc P W 0 sp held n f.type ((cs.drop f.offset).take (P.cellsOf f.type))) = some xs ∧ x.1 = .agg (xs.map (·.1)) := by
      unfold DataW.trod at hx
      rw [ht] at hx
      split at hx <;> simp_all
      obtain ⟨_, xs, h1, h2⟩ := hx
      exact ⟨xs, h1, by rw [← h2]⟩
    obtain ⟨h1, xs, h2, h3⟩ := hlen
    obtain ⟨y, hy, hF, hb⟩ := h enc W sp held n cs xs h2
    refine ⟨g y, ?_, by show F (f (g y)); rw [hfg]; exact hF, ?_⟩
    · show d.K W (f (g y)) cs
      rw [hfg]
      rw [List.drop_zero, List.take_of_length_le (by omega)] at hy
      exact hy
    · show m (f (g y)) ≤ _
      rw [hfg, h3]
      simp only [Rows.uptoBulk]
      omega
section
variable {P : Program} {W : World} {t e : TypeId} {α : Type} {d : Kd α} {F : α → Prop} {m : α → Nat} {H : Type} {enc : TypeId × Value → H} {sp : Nat → Bool} {held : Bool} {v : Value} {x : DataW H} {ps : List MemPlace}
theorem arg_sliceB (ht : P.underlying t = some (.slice e)) (hc : P.cellsOf e = d.sz) (h : OpensB P d e F m) (hv : Value.okWide P W .any 0 t v) (hr : DataW.Trod enc P W 0 sp held t v x ps) :
    ∃ (A : Option Addr) (c : Nat) (xs : List α), v = .slice A xs.length c ∧ xs.length ≤ c ∧ d.C W A xs.length xs ∧ (∀ x ∈ xs, F x) ∧ xs.length ≤ maxLen ∧ (xs.map m).sum ≤ Rows.uptoBulk x := by
  obtain ⟨a0, len, cap, rfl⟩ := Go.WideShapes.okWide_slice ht hv
  obtain ⟨fuel, hf⟩ := hr
  obtain ⟨xs, ⟨A, c, he, hl, hC⟩, ⟨hF, hm⟩, hb⟩ := OpensB.slice ht hc h enc W sp held fuel _ _ hf
  have he2 : Value.slice a0 len cap = .slice A xs.length c := by simpa [Value.cells] using he
  exact ⟨A, c, xs, he2, hl, hC, hF, hm, hb⟩
theorem arg_structB {fs : Array Field} (ht : P.underlying t = some (.struct fs)) (h : OpensB P d t F m) (hv : Value.okWide P W .any 0 t v) (hr : DataW.Trod enc P W 0 sp held t v x ps) :
    ∃ (cs : List Value) (y : α), v = .agg cs.toArray ∧ d.K W y cs ∧ F y ∧ m y ≤ Rows.uptoBulk x := by
  simp only [Value.okWide, ht] at hv
  obtain ⟨cs, rfl, _, _⟩ := hv
  obtain ⟨fuel, hf⟩ := hr
  obtain ⟨y, hK, hF, hb⟩ := h enc W sp held fuel _ _ hf
  exact ⟨cs.toList, y, by simp, hK, hF, hb⟩
end
end Go.Proofs.YtcmcpmkihpdnjaaW.Op
