/- Short forms of steps that the printed walks take again and again: each is one lemma whose side goals are filled in by the same tactics as in the printed text. -/
import Derived.Test.YtfhjjfibblcklaaGreatVWMore
import Derived.Test.YtfhjjfibblcklaaGreatVWNEv
import Derived.Test.YtfhjjfibblcklaaGreatVWGuard
import Derived.Test.YtfhjjfibblcklaaGreatVWInvWords
import Derived.Test.YtfhjjfibblcklaaGreatVWRepsOne
import Derived.Test.YtfhjjfibblcklaaGreatVWEqStruct
import Derived.Test.YtfhjjfibblcklaaGreatVWAt
import Derived.Test.YtfhjjfibblcklaaGreatVWFootNe
import Derived.Test.YtfhjjfibblcklaaGreatVWQPut
import Derived.Test.YtfhjjfibblcklaaGreatVWTab
namespace Go.Proofs.YtfhjjfibblcklaaGreatW.Z
open Go Go.RowKit Go.Proofs.YtfhjjfibblcklaaGreatW.PrintWords Go.Proofs.YtfhjjfibblcklaaGreatW.PrintLast Go.Proofs.YtfhjjfibblcklaaGreatW.PrintMore
set_option linter.unusedVariables false
theorem bE {α β : Type} {x : Option α} {f : α → Option β} {b : β} (h : x.bind f = some b) : ∃ a, Aside0 (x = some a) ∧ f a = some b := by
 obtain ⟨a, h1, h2⟩ := Option.bind_eq_some_iff.mp h
 exact ⟨a, ⟨h1⟩, h2⟩
theorem nE {α β : Type} {v : α} {f : α → Option β} {b : β} (h : (some v).bind f = some b) : ∃ y, Aside0 (y = v) ∧ f y = some b := ⟨v, ⟨rfl⟩, h⟩
theorem iT {α : Type} {a b c : α} (h : (if true = true then a else b) = c) : a = c := (if_pos rfl).symm.trans h
theorem iF {α : Type} {a b c : α} (h : (if false = true then a else b) = c) : b = c := (if_neg (by decide)).symm.trans h
theorem gC {α : Type} {p : Prop} [Decidable p] {a : Option α} {r : α} (h : (if p then a else none) = some r) : p ∧ a = some r := by
 by_cases c : p
 ·rw [if_pos c] at h;exact ⟨c, h⟩
 ·rw [if_neg c] at h;cases h
theorem gD {α : Type} {p : Prop} [Decidable p] {q : Prop} [Decidable q] {a : Option α} {r : α} (h : (if p then a else none) = some r) (e : p → q := by exact id) : decide q = true ∧ a = some r := ⟨decide_eq_true (e (gC h).1), (gC h).2⟩
theorem eT {α : Type} [BEq α] [LawfulBEq α] {a b : α} (h : a = b) : (a == b) = true ∧ (a != b) = false := ⟨beq_iff_eq.mpr h, bne_eq_false_iff_eq.mpr h⟩
theorem eF {α : Type} [BEq α] [LawfulBEq α] {a b : α} (h : ¬ a = b) : (a == b) = false ∧ (a != b) = true := ⟨beq_eq_false_iff_ne.mpr h, bne_iff_ne.mpr h⟩
/-- A store leaves it as it was whether a cell is there. -/
theorem isS (w : World) (a b : Addr) (v : Value) : ((w.setCell a v).cell? b).isSome = (w.cell? b).isSome := by
 unfold World.setCell World.cell?
 simp only [Array.getElem?_modify]
 by_cases h : a.block = b.block
 ·rw [if_pos h]
  cases w.heap[b.block]? with
  | none => rfl
  | some o =>
   cases o <;> simp only [Option.map_some]
   by_cases hs : b.spot.isSome = true
   ·simp [hs]
   ·simp only [hs, Bool.false_eq_true, if_false]
    by_cases ha : a.spot.isSome = true
    ·simp [ha]
    ·simp [ha, Array.getElem?_setIfInBounds]
     split
     ·rename_i c _ _ h1;rw [h1];by_cases h2 : b.off < c.size <;> simp [h2]
     ·rfl
 ·rw [if_neg h]
theorem rG {P : Prop} (h : P := by first | (go_simp; done) | (go_simp; rfl)) : P := h
/-- What is Below, out of HB. -/
theorem cB {P : Prop} (h : P := by repeat (first | (with_reducible first | exact HB.out | apply below_alloc | apply pw_below_drewN | apply below_drew1 | refine below_set ?_ (Aside0.out (by assumption))) | exact HB.out)) : P := h
theorem sB {w W w1 : World} (hb : Below W.heap.size W w1) (h : Below w.heap.size w W := by repeat (first | (with_reducible first | exact HB.out | apply below_alloc | apply pw_below_drewN | apply below_drew1 | refine below_set ?_ (Aside0.out (by assumption))) | exact HB.out)) : Aside0 (Below w.heap.size w w1) := ⟨below_step h hb⟩
theorem gS {w W : World} {g : Nat} (hg : g = W.heap.size) (h : Below w.heap.size w W := by repeat (first | (with_reducible first | exact HB.out | apply below_alloc | apply pw_below_drewN | apply below_drew1 | refine below_set ?_ (Aside0.out (by assumption))) | exact HB.out)) : Aside0 (w.heap.size ≤ g) := ⟨by rw [hg]; exact below_size h⟩
theorem bc {w W : World} {a : Addr} {v : Value} (HB : Aside0 (Below w.heap.size w W)) (h : w.cell? a = some v) : W.cell? a = some v := (HB.out.cell (World.block_lt_of_cell? w _ h)).trans h
/-- What is kept but for one block, out of HK. -/
theorem cK {P : Prop} (h : P := by repeat (first | (with_reducible first | exact HK.out | apply KeepBut.set_ | apply keep_drewN | apply keep_drew | apply keep_alloc | refine keep_far ?_ (Aside0.out (by assumption)) _) | exact HK.out)) : P := h
theorem tK {w W w1 : World} {g : Nat} (hk : KeepBut W w1 g none) (h : KeepBut w W g none := by repeat (first | (with_reducible first | exact HK.out | apply KeepBut.set_ | apply keep_drewN | apply keep_drew | apply keep_alloc | refine keep_far ?_ (Aside0.out (by assumption)) _) | exact HK.out)) : Aside0 (KeepBut w w1 g none) := ⟨KeepBut.trans h hk (.inl rfl)⟩
section
variable {α : Type} {d : Kd α} {e : Nat} {w w0 w1 W : World} {base : Nat} {ok : Nat → Prop} {v : Value} {xs : List α} {g : Nat} {o : Obj} {A : Option Addr} {n c : Nat}
theorem mR (HO : Aside0 (d.R e w0 base ok v xs)) (m : d.R e w0 base ok v xs → d.R e W base ok v xs := by intro h_; (with_reducible repeat (first | apply Kd.R_alloc | apply Kd.R_drewN | apply Kd.R_drew)); exact h_) : d.R e W base ok v xs := m HO.out
theorem rB (HO : Aside0 (d.R e w0 base ok v xs)) (hb : Below W.heap.size W w1) (m : d.R e w0 base ok v xs → d.R e W base ok v xs := by intro h_; (with_reducible repeat (first | apply Kd.R_alloc | apply Kd.R_drewN | apply Kd.R_drew)); exact h_) : Aside0 (d.R e w1 base ok v xs) := ⟨Kd.R_below (m HO.out) hb⟩
/-- What is read, behind stores elsewhere. -/
theorem fR {ok' : Nat → Prop} (h : d.R e w base ok v xs) (hf : ∀ k, ok k → ok' k) (m : d.R e w base ok v xs → d.R e W base ok v xs := by intro h_; repeat (first | (with_reducible first | apply Kd.R_alloc | apply Kd.R_drewN | apply Kd.R_drew | (apply Kd.R_far; case hok => (intro k_ hk_; first | exact hk_.2 | exact hk_.1.2 | exact hk_.1.1.2 | exact hk_.1.1.1.2 | exact hk_.1.1.1.1.2 | exact hk_ | exact hk_.1))) | exact h_)) : d.R e W base ok' v xs := Kd.R_mono (m h) hf
theorem fQ {ok' : Nat → Prop} (h : d.Q e w base ok v xs) (hf : ∀ k, ok k → ok' k) (m : d.Q e w base ok v xs → d.Q e W base ok v xs := by intro h_; repeat (first | (with_reducible first | apply Kd.Q_alloc | apply Kd.Q_drewN | apply Kd.Q_drew | (apply Kd.Q_far; case hok => (intro k_ hk_; first | exact hk_.2 | exact hk_.1.2 | exact hk_.1.1.2 | exact hk_.1.1.1.2 | exact hk_.1.1.1.1.2 | exact hk_ | exact hk_.1))) | exact h_)) : d.Q e W base ok' v xs := Kd.Q_mono (m h) hf
theorem mK (BK : Aside0 (w0.heap[g]? = some o)) (m : w0.heap[g]? = some o → W.heap[g]? = some o := by intro h_; (repeat (first | (with_reducible refine blk_drewN ?_ _) | (with_reducible refine blk_drew ?_) | (with_reducible refine blk_alloc ?_ _) | refine blk_far ?_ (Aside0.out (by assumption)) _)); exact h_) : W.heap[g]? = some o := m BK.out
theorem kB (BK : Aside0 (w0.heap[g]? = some o)) (hb : Below W.heap.size W w1) (m : w0.heap[g]? = some o → W.heap[g]? = some o := by intro h_; (repeat (first | (with_reducible refine blk_drewN ?_ _) | (with_reducible refine blk_drew ?_) | (with_reducible refine blk_alloc ?_ _) | refine blk_far ?_ (Aside0.out (by assumption)) _)); exact h_) : Aside0 (w1.heap[g]? = some o) := ⟨blk_below (m BK.out) hb⟩
theorem eB {u : Value} (HO : Aside0 (d.R e w0 base ok u xs)) (hbase : ∀ k, v.ownBlock = some k → W.heap.size ≤ k) (hb : Below W.heap.size W w1) (m : d.R e w0 base ok u xs → d.R e W base ok u xs := by intro h_; (with_reducible repeat (first | apply Kd.R_alloc | apply Kd.R_drewN | apply Kd.R_drew)); exact h_) : Aside0 (d.R e w1 base (fun k => ok k ∧ some k ≠ v.ownBlock) u xs) := ⟨Kd.R_elder' (m HO.out) hbase hb⟩
end
theorem dA {p : Prop} [Decidable p] (h : decide p = true := by first | (with_reducible assumption) | assumption) : p := of_decide_eq_true h
theorem rS {P : Prop} (h : P := by first | rfl | (simp; done) | (simp [*]; done)) : P := h
theorem oL {P : Prop} (h : P := by first | omega | exact Nat.le_refl _) : P := h
theorem gK {w W : World} {g gb : Nat} (hg : gb = W.heap.size) (h : KeepBut w W g none := by repeat (first | (with_reducible first | exact HK.out | apply KeepBut.set_ | apply keep_drewN | apply keep_drew | apply keep_alloc | refine keep_far ?_ (Aside0.out (by assumption)) _) | exact HK.out)) : Aside0 (w.heap.size ≤ gb) := ⟨by rw [hg]; exact keep_size h⟩
theorem gW {w0 w W : World} {g gb : Nat} (HW : Aside0 (w0.heap.size ≤ w.heap.size)) (hg : gb = W.heap.size) (h : KeepBut w W g none := by repeat (first | (with_reducible first | exact HK.out | apply KeepBut.set_ | apply keep_drewN | apply keep_drew | apply keep_alloc | refine keep_far ?_ (Aside0.out (by assumption)) _) | exact HK.out)) : Aside0 (w0.heap.size ≤ gb) := ⟨Nat.le_trans HW.out (by rw [hg]; exact keep_size h)⟩
section
variable {α : Type} {d : Kd α} {w w0 w1 W : World} {xs : List α} {g g' gb : Nat} {o : Obj} {A : Option Addr} {n : Nat} {row : Option Nat}
theorem cC (h : d.C w0 A n xs) (m : d.C w0 A n xs → d.C W A n xs := by intro h_; repeat (first | exact h_ | (with_reducible refine Kd.C_alloc ?_ _) | (with_reducible refine Kd.C_drewN ?_ _) | (with_reducible refine Kd.C_drew ?_))) : d.C W A n xs := m h
theorem bK (hk : KeepBut W w1 g none) (BK : Aside0 (w0.heap[g']? = some o)) (hne : g' ≠ g) (m : w0.heap[g']? = some o → W.heap[g']? = some o := by intro h_; (repeat (first | (with_reducible refine blk_drewN ?_ _) | (with_reducible refine blk_drew ?_) | (with_reducible refine blk_alloc ?_ _) | refine blk_far ?_ (Aside0.out (by assumption)) _)); exact h_) : Aside0 (w1.heap[g']? = some o) := ⟨KeepBut.blk hk (m BK.out) hne (by simp)⟩
theorem nL (hg : gb = W.heap.size) (BK : Aside0 (w0.heap[g]? = some o)) (m : w0.heap[g]? = some o → W.heap[g]? = some o := by intro h_; (repeat (first | (with_reducible refine blk_drewN ?_ _) | (with_reducible refine blk_drew ?_) | (with_reducible refine blk_alloc ?_ _) | refine blk_far ?_ (Aside0.out (by assumption)) _)); exact h_) : Aside0 (g ≠ gb) := ⟨by rw [hg]; exact Nat.ne_of_lt (blk_lt (m BK.out))⟩
theorem nG (hg : gb = W.heap.size) (BK : Aside0 (w0.heap[g]? = some o)) (m : w0.heap[g]? = some o → W.heap[g]? = some o := by intro h_; (repeat (first | (with_reducible refine blk_drewN ?_ _) | (with_reducible refine blk_drew ?_) | (with_reducible refine blk_alloc ?_ _) | refine blk_far ?_ (Aside0.out (by assumption)) _)); exact h_) : Aside0 (gb ≠ g) := ⟨by rw [hg]; exact Nat.ne_of_gt (blk_lt (m BK.out))⟩
theorem kP {o1 : Obj} (BK : Aside0 (w0.heap[g]? = some o)) (hb : Below W.heap.size W w1) (o' : Obj) (m : w0.heap[g]? = some o → W.heap[g]? = some o1 := by intro h_; repeat (first | (with_reducible first | apply blk_drewN | apply blk_drew | apply blk_alloc | apply blk_set | exact h_ | (apply blk_far; case hp => exact (Aside0.out (by assumption)))) | exact h_)) (e : o1 = o' := by rfl) : Aside0 (w1.heap[g]? = some o') := ⟨blk_below (e ▸ m BK.out) hb⟩
theorem kG {o1 : Obj} (BK : Aside0 (w0.heap[g]? = some o)) (hg : W.grownBy w1 row) (hne : some g ≠ row) (o' : Obj) (m : w0.heap[g]? = some o → W.heap[g]? = some o1 := by intro h_; repeat (first | (with_reducible first | apply blk_drewN | apply blk_drew | apply blk_alloc | apply blk_set | exact h_ | (apply blk_far; case hp => exact (Aside0.out (by assumption)))) | exact h_)) (e : o1 = o' := by rfl) : Aside0 (w1.heap[g]? = some o') := ⟨blk_grown (e ▸ m BK.out) hg hne⟩
theorem kS {o1 : Obj} (BK : Aside0 (w0.heap[g]? = some o)) (o' : Obj) (m : w0.heap[g]? = some o → W.heap[g]? = some o1 := by intro h_; repeat (first | (with_reducible first | apply blk_drewN | apply blk_drew | apply blk_alloc | apply blk_set | exact h_ | (apply blk_far; case hp => exact (Aside0.out (by assumption)))) | exact h_)) (e : o1 = o' := by rfl) : W.heap[g]? = some o' := e ▸ m BK.out
end
/-- An act written out. -/
theorem nP {P : Prop} (h : P := by first | (simp only [putAll, Act.put, List.setIfInBounds_toArray, List.set_cons_zero, List.set_cons_succ]; done) | (simp only [putAll, Act.put, List.setIfInBounds_toArray, List.set_cons_zero, List.set_cons_succ]; rfl)) : P := h
/-- What has come up, as bits. -/
def msk (n b : Nat) : Array Bool := ((List.range n).map fun i => b.testBit i).toArray
section
variable {P : Program} {ops : Array Oper} {md : Region.Mode} {ds : List Nat} {Q : Exit → Act → World → Prop} {S : World → Prop} {T : Bool × List (List Nat × List Nat)} {B : List Nat}
theorem pureZ (i : Nat) (N : Option Tmp) (l' : Array Bool) (hT : rtab md ops = T) {oi : Oper} {v : Value} {fuel : Nat} {l : Array Bool} {a a' : Act} {w : World}
    (h : wpAnyLast P md ops Q S ds fuel l' a' w) (hi : ops[i]? = some oi := by rfl) (hN : oi.dst = N := by rfl) (hc : anyT T l.toList l'.toList i = true := by kernel_rfl)
    (hQ : ∀ c a w, Q (.panic c) (a.put oi.dst v) w → Q (.panic c) a w := by exact fun _ _ _ h => h) (hw : Region.wanted oi (yielded ops a.tmps) = true := by rfl)
    (hy : ∀ w, (execOp a.eval oi).run P w = .ok (.value v) w := by intro w'; go_simp; with_reducible rfl)
    (ha : a.put N v = a' := by simp only [Act.put, List.setIfInBounds_toArray, List.set_cons_zero, List.set_cons_succ, i64_w, i32_w]; rfl) : wpAnyLast P md ops Q S ds (fuel + 1) l a w := pure_ l' hi hN (any_of hT hc) hQ (.inl ⟨hw, hy⟩) ha h
theorem pureU (i : Nat) (N : Option Tmp) (l' : Array Bool) (hT : rtab md ops = T) {oi : Oper} {fuel : Nat} {l : Array Bool} {a a' : Act} {w : World}
    (h : wpAnyLast P md ops Q S ds fuel l' a' w) (hi : ops[i]? = some oi := by rfl) (hN : oi.dst = N := by rfl) (hc : anyT T l.toList l'.toList i = true := by kernel_rfl)
    (hQ : ∀ c a w, Q (.panic c) (a.put oi.dst undef) w → Q (.panic c) a w := by exact fun _ _ _ h => h) (hw : Region.wanted oi (yielded ops a.tmps) = false := by rfl)
    (ha : a.put N undef = a' := by simp only [Act.put, List.setIfInBounds_toArray, List.set_cons_zero, List.set_cons_succ, i64_w, i32_w]; rfl) : wpAnyLast P md ops Q S ds (fuel + 1) l a w := pure_ l' hi hN (any_of hT hc) hQ (.inr ⟨hw, rfl⟩) ha h
theorem normZ (N : Option Tmp) {v : Value} {fuel : Nat} {l : Array Bool} {a a' : Act} {w : World} (h : wpAnyLast P md ops Q S ds fuel l a' w)
    (ha : a.put N v = a' := by simp only [Act.put, List.setIfInBounds_toArray, List.set_cons_zero, List.set_cons_succ, i64_w, i32_w]; rfl) : wpAnyLast P md ops Q S ds fuel l (a.put N v) w := norm_ ha h
theorem takeZ (i : Nat) (N : Option Tmp) (l' : Array Bool) (hT : rtab md ops = T) (hB : waitsOk T.2 B = true) {oi : Oper} {v : Value} {fuel : Nat} {l : Array Bool} {a a' : Act} {w : World} (hS : S w)
    (hi : ops[i]? = some oi := by rfl) (hN : oi.dst = N := by rfl)
    (hy : ∀ w, S w → (execOp a.eval oi).run P w = .ok (.value v) w)
    (h : wpAnyLast P md ops Q S ds fuel l' a' w) (hc : takeW T B ds l.toList l'.toList i = true := by kernel_rfl)
    (hQ : ∀ c a w, Q (.panic c) (a.put oi.dst v) w → Q (.panic c) a w := by exact fun _ _ _ h => h) (hw : Region.wanted oi (yielded ops a.tmps) = true := by rfl)
    (ha : a.put N v = a' := by simp only [Act.put, List.setIfInBounds_toArray, List.set_cons_zero, List.set_cons_succ, i64_w, i32_w]; rfl) : wpAnyLast P md ops Q S ds (fuel + 1) l a w := take_ l' hi hN (take_ofW hT hB hc) hQ (.inl ⟨hw, hy⟩) hS ha h
theorem one_Z (i : Nat) (N : Option Tmp) (l' : Array Bool) (hT : rtab md ops = T) {oi : Oper} {fuel : Nat} {l : Array Bool} {a : Act} {w : World}
    (h : ∀ K : Act → World → Prop, Shut (∀ a' w', S w' → (S w' → wpAnyLast P md ops Q S ds fuel l' a' w') → K a' w') → if Region.wanted oi (yielded ops a.tmps) = true then Oper.wp P oi a w K Q else K (a.put N undef) w)
    (hi : ops[i]? = some oi := by rfl) (hN : oi.dst = N := by rfl) (hc : (readyT T.2 l.toList == [i] && l.toList.set i true == l'.toList) = true := by kernel_rfl) (hd : i ∉ ds := by decide) : wpAnyLast P md ops Q S ds (fuel + 1) l a w := one_ l' hi hN (one_of hT hc) hd h
theorem last_Z (i : Nat) (N : Option Tmp) (l' : Array Bool) (hT : rtab md ops = T) {oi : Oper} {fuel : Nat} {l : Array Bool} {a : Act} {w : World}
    (h : ∀ K : Act → World → Prop, Shut (∀ a' w', wpAnyLast P md ops Q S ds fuel l' a' w' → K a' w') → if Region.wanted oi (yielded ops a.tmps) = true then Oper.wp P oi a w K Q else K (a.put N undef) w)
    (hi : ops[i]? = some oi := by rfl) (hN : oi.dst = N := by rfl) (hc : (readyT T.2 l.toList == [i] && l.toList.set i true == l'.toList) = true := by kernel_rfl) (hd : i ∈ ds := by decide) : wpAnyLast P md ops Q S ds (fuel + 1) l a w := last_ l' hi hN (one_of hT hc) hd h
end
section
variable {w : World} {g t : Nat} {a b c d e f h i : Value}
theorem cz1 (H : Aside0 (w.heap[g]? = some (.cells #[a] t (0, 0)))) : w.cell? ⟨g, 0, none⟩ = some a ∧ w.frozen? ⟨g, 0, none⟩ = false := ⟨(blk_cell H.out 0).trans rfl, blk_frozen H.out 0⟩
theorem cz2 (H : Aside0 (w.heap[g]? = some (.cells #[a, b] t (0, 0)))) : w.cell? ⟨g, 0, none⟩ = some a ∧ w.cell? ⟨g, 1, none⟩ = some b ∧ w.frozen? ⟨g, 0, none⟩ = false ∧ w.frozen? ⟨g, 1, none⟩ = false := ⟨(blk_cell H.out 0).trans rfl, (blk_cell H.out 1).trans rfl, blk_frozen H.out 0, blk_frozen H.out 1⟩
theorem cz3 (H : Aside0 (w.heap[g]? = some (.cells #[a, b, c] t (0, 0)))) : w.cell? ⟨g, 0, none⟩ = some a ∧ w.cell? ⟨g, 1, none⟩ = some b ∧ w.cell? ⟨g, 2, none⟩ = some c ∧ w.frozen? ⟨g, 0, none⟩ = false ∧ w.frozen? ⟨g, 1, none⟩ = false ∧ w.frozen? ⟨g, 2, none⟩ = false := ⟨(blk_cell H.out 0).trans rfl, (blk_cell H.out 1).trans rfl, (blk_cell H.out 2).trans rfl, blk_frozen H.out 0, blk_frozen H.out 1, blk_frozen H.out 2⟩
theorem cz4 (H : Aside0 (w.heap[g]? = some (.cells #[a, b, c, d] t (0, 0)))) : w.cell? ⟨g, 0, none⟩ = some a ∧ w.cell? ⟨g, 1, none⟩ = some b ∧ w.cell? ⟨g, 2, none⟩ = some c ∧ w.cell? ⟨g, 3, none⟩ = some d ∧ w.frozen? ⟨g, 0, none⟩ = false ∧ w.frozen? ⟨g, 1, none⟩ = false ∧ w.frozen? ⟨g, 2, none⟩ = false ∧ w.frozen? ⟨g, 3, none⟩ = false := ⟨(blk_cell H.out 0).trans rfl, (blk_cell H.out 1).trans rfl, (blk_cell H.out 2).trans rfl, (blk_cell H.out 3).trans rfl, blk_frozen H.out 0, blk_frozen H.out 1, blk_frozen H.out 2, blk_frozen H.out 3⟩
theorem cz5 (H : Aside0 (w.heap[g]? = some (.cells #[a, b, c, d, e] t (0, 0)))) : w.cell? ⟨g, 0, none⟩ = some a ∧ w.cell? ⟨g, 1, none⟩ = some b ∧ w.cell? ⟨g, 2, none⟩ = some c ∧ w.cell? ⟨g, 3, none⟩ = some d ∧ w.cell? ⟨g, 4, none⟩ = some e ∧ w.frozen? ⟨g, 0, none⟩ = false ∧ w.frozen? ⟨g, 1, none⟩ = false ∧ w.frozen? ⟨g, 2, none⟩ = false ∧ w.frozen? ⟨g, 3, none⟩ = false ∧ w.frozen? ⟨g, 4, none⟩ = false := ⟨(blk_cell H.out 0).trans rfl, (blk_cell H.out 1).trans rfl, (blk_cell H.out 2).trans rfl, (blk_cell H.out 3).trans rfl, (blk_cell H.out 4).trans rfl, blk_frozen H.out 0, blk_frozen H.out 1, blk_frozen H.out 2, blk_frozen H.out 3, blk_frozen H.out 4⟩
theorem cz6 (H : Aside0 (w.heap[g]? = some (.cells #[a, b, c, d, e, f] t (0, 0)))) : w.cell? ⟨g, 0, none⟩ = some a ∧ w.cell? ⟨g, 1, none⟩ = some b ∧ w.cell? ⟨g, 2, none⟩ = some c ∧ w.cell? ⟨g, 3, none⟩ = some d ∧ w.cell? ⟨g, 4, none⟩ = some e ∧ w.cell? ⟨g, 5, none⟩ = some f ∧ w.frozen? ⟨g, 0, none⟩ = false ∧ w.frozen? ⟨g, 1, none⟩ = false ∧ w.frozen? ⟨g, 2, none⟩ = false ∧ w.frozen? ⟨g, 3, none⟩ = false ∧ w.frozen? ⟨g, 4, none⟩ = false ∧ w.frozen? ⟨g, 5, none⟩ = false := ⟨(blk_cell H.out 0).trans rfl, (blk_cell H.out 1).trans rfl, (blk_cell H.out 2).trans rfl, (blk_cell H.out 3).trans rfl, (blk_cell H.out 4).trans rfl, (blk_cell H.out 5).trans rfl, blk_frozen H.out 0, blk_frozen H.out 1, blk_frozen H.out 2, blk_frozen H.out 3, blk_frozen H.out 4, blk_frozen H.out 5⟩
theorem cz7 (H : Aside0 (w.heap[g]? = some (.cells #[a, b, c, d, e, f, h] t (0, 0)))) : w.cell? ⟨g, 0, none⟩ = some a ∧ w.cell? ⟨g, 1, none⟩ = some b ∧ w.cell? ⟨g, 2, none⟩ = some c ∧ w.cell? ⟨g, 3, none⟩ = some d ∧ w.cell? ⟨g, 4, none⟩ = some e ∧ w.cell? ⟨g, 5, none⟩ = some f ∧ w.cell? ⟨g, 6, none⟩ = some h ∧ w.frozen? ⟨g, 0, none⟩ = false ∧ w.frozen? ⟨g, 1, none⟩ = false ∧ w.frozen? ⟨g, 2, none⟩ = false ∧ w.frozen? ⟨g, 3, none⟩ = false ∧ w.frozen? ⟨g, 4, none⟩ = false ∧ w.frozen? ⟨g, 5, none⟩ = false ∧ w.frozen? ⟨g, 6, none⟩ = false := ⟨(blk_cell H.out 0).trans rfl, (blk_cell H.out 1).trans rfl, (blk_cell H.out 2).trans rfl, (blk_cell H.out 3).trans rfl, (blk_cell H.out 4).trans rfl, (blk_cell H.out 5).trans rfl, (blk_cell H.out 6).trans rfl, blk_frozen H.out 0, blk_frozen H.out 1, blk_frozen H.out 2, blk_frozen H.out 3, blk_frozen H.out 4, blk_frozen H.out 5, blk_frozen H.out 6⟩
theorem cz8 (H : Aside0 (w.heap[g]? = some (.cells #[a, b, c, d, e, f, h, i] t (0, 0)))) : w.cell? ⟨g, 0, none⟩ = some a ∧ w.cell? ⟨g, 1, none⟩ = some b ∧ w.cell? ⟨g, 2, none⟩ = some c ∧ w.cell? ⟨g, 3, none⟩ = some d ∧ w.cell? ⟨g, 4, none⟩ = some e ∧ w.cell? ⟨g, 5, none⟩ = some f ∧ w.cell? ⟨g, 6, none⟩ = some h ∧ w.cell? ⟨g, 7, none⟩ = some i ∧ w.frozen? ⟨g, 0, none⟩ = false ∧ w.frozen? ⟨g, 1, none⟩ = false ∧ w.frozen? ⟨g, 2, none⟩ = false ∧ w.frozen? ⟨g, 3, none⟩ = false ∧ w.frozen? ⟨g, 4, none⟩ = false ∧ w.frozen? ⟨g, 5, none⟩ = false ∧ w.frozen? ⟨g, 6, none⟩ = false ∧ w.frozen? ⟨g, 7, none⟩ = false := ⟨(blk_cell H.out 0).trans rfl, (blk_cell H.out 1).trans rfl, (blk_cell H.out 2).trans rfl, (blk_cell H.out 3).trans rfl, (blk_cell H.out 4).trans rfl, (blk_cell H.out 5).trans rfl, (blk_cell H.out 6).trans rfl, (blk_cell H.out 7).trans rfl, blk_frozen H.out 0, blk_frozen H.out 1, blk_frozen H.out 2, blk_frozen H.out 3, blk_frozen H.out 4, blk_frozen H.out 5, blk_frozen H.out 6, blk_frozen H.out 7⟩
end
section
variable {P : Program} {ops : Array Oper} {rest : List Oper} {o : Oper} {a : Act} {Q : Exit → Act → World → Prop}
theorem gF {W : World} (f : FuncId) {as : Array Operand} {ts : Array TypeId} (h : wpList P ops Q (o :: rest) a W) (_ho : o.op = .call { callee := .value (.func f), args := as, argTypes := ts } := by rfl) : wpList P ops Q (o :: rest) a W := h
theorem gN {W : World} (N : Tmp) (h : wpList P ops Q (o :: rest) a W) (_hN : o.dst = some N := by rfl) : wpList P ops Q (o :: rest) a W := h
theorem gA {W : World} (x y : Tmp) {ts : Array TypeId} (h : wpList P ops Q (o :: rest) a W) (_ho : o.op = .call { callee := .builtin .append, args := #[.tmp x, .tmp y], argTypes := ts } := by rfl) : wpList P ops Q (o :: rest) a W := h
theorem goZ {w : World} (N : Option Tmp) {f : FuncId} {fn : Func} {as : Array Operand} {ts : Array TypeId} (hf : P.funcs[f]? = some fn) (args : Array Value)
    (h : Calls P f args w fun e w' => ∃ v, e = .returned v ∧ wpList P ops Q rest (a.put N v) w')
    (hd : o.dst = N := by rfl) (hg : o.guard = none := by rfl) (hname : (fn.name == "runtime.NumGoroutine") = false := by kernel_rfl) (hb : fn.body.isSome = true := by rfl)
    (hop : o.op = .call { callee := .value (.func f), args := as, argTypes := ts } := by rfl) (hargs : as.map a.eval = args := by (try simp only [List.map_toArray, List.map_cons, List.map_nil]); first | done | rfl | (simp only [List.length_drop, List.length_take]; rfl)) :
    wpList P ops Q (o :: rest) a w := goesL_ N hd hg hf hname hb args hop hargs h
theorem boxZ {W : World} (N : Tmp) (cs : Array Value) (t : TypeId)
    (h : ∀ g, g = W.heap.size → ∀ w1, w1.heap[g]? = some (.cells cs t (0, 0)) → Below W.heap.size W w1 → wpList P ops Q rest (a.put o.dst (.pointer (some ⟨g, 0, none⟩))) w1)
    (hgd : o.guard = none := by rfl) (hd : o.dst = some N := by rfl)
    (hrun : (execOp a.eval o).run P W = .ok (.value (.pointer (some ⟨W.heap.size, 0, none⟩))) (W.alloc (.cells cs t (0, 0))) := by first | (go_simp; done) | (go_simp; rfl)) : wpList P ops Q (o :: rest) a W := box_event hgd hd hrun h
end
theorem aM {p : Prop} (h : p) : Aside0 p := ⟨h⟩
theorem goE {P : Program} {ops : Array Oper} {Q : Exit → Act → World → Prop} {oi : Oper} {N : Option Tmp} {a : Act} {w : World} {K : Act → World → Prop} {f : FuncId} {fn : Func} {as : Array Operand} {ts : Array TypeId} (hf : P.funcs[f]? = some fn) (args : Array Value)
    (h : Calls P f args w fun e w' => ∃ v, e = .returned v ∧ K (a.put N v) w') (hname : (fn.name == "runtime.NumGoroutine") = false := by kernel_rfl) (hb : fn.body.isSome = true := by rfl)
    (hw : Region.wanted oi (yielded ops a.tmps) = true := by rfl) (hN : oi.dst = N := by rfl) (hop : oi.op = .call { callee := .value (.func f), args := as, argTypes := ts } := by rfl) (hargs : as.map a.eval = args := by (try simp only [List.map_toArray, List.map_cons, List.map_nil]); first | done | rfl | (simp only [List.length_drop, List.length_take]; rfl)) : if Region.wanted oi (yielded ops a.tmps) = true then Oper.wp P oi a w K Q else K (a.put N undef) w :=
  goes_ hf hname hb args hw hN hop hargs h
theorem b2 {w W:World}{i n:Int}{e:Addr→Prop}{f0 f1:Addr→Addr}{v0 v1:Addr→Value}(HB:Aside0 (Below w.heap.size w W))(h:0≤i→i<n→ ∃ a,e a∧w.cell? (f0 a)=some (v0 a)∧w.cell? (f1 a)=some (v1 a))(p:0≤i:=by exact dA)(q:i<n:=by exact dA):(0≤i)=True∧(i<n)=True∧ ∃ a,e a∧W.cell? (f0 a)=some (v0 a)∧W.cell? (f1 a)=some (v1 a):=by
  obtain ⟨a,e,x0,x1⟩ := h p q
  exact ⟨eq_true p,eq_true q,a,e,bc HB x0,bc HB x1⟩
theorem b3 {w W:World}{i n:Int}{e:Addr→Prop}{f0 f1 f2:Addr→Addr}{v0 v1 v2:Addr→Value}(HB:Aside0 (Below w.heap.size w W))(h:0≤i→i<n→ ∃ a,e a∧w.cell? (f0 a)=some (v0 a)∧w.cell? (f1 a)=some (v1 a)∧w.cell? (f2 a)=some (v2 a))(p:0≤i:=by exact dA)(q:i<n:=by exact dA):(0≤i)=True∧(i<n)=True∧ ∃ a,e a∧W.cell? (f0 a)=some (v0 a)∧W.cell? (f1 a)=some (v1 a)∧W.cell? (f2 a)=some (v2 a):=by
  obtain ⟨a,e,x0,x1,x2⟩ := h p q
  exact ⟨eq_true p,eq_true q,a,e,bc HB x0,bc HB x1,bc HB x2⟩
theorem b4 {w W:World}{i n:Int}{e:Addr→Prop}{f0 f1 f2 f3:Addr→Addr}{v0 v1 v2 v3:Addr→Value}(HB:Aside0 (Below w.heap.size w W))(h:0≤i→i<n→ ∃ a,e a∧w.cell? (f0 a)=some (v0 a)∧w.cell? (f1 a)=some (v1 a)∧w.cell? (f2 a)=some (v2 a)∧w.cell? (f3 a)=some (v3 a))(p:0≤i:=by exact dA)(q:i<n:=by exact dA):(0≤i)=True∧(i<n)=True∧ ∃ a,e a∧W.cell? (f0 a)=some (v0 a)∧W.cell? (f1 a)=some (v1 a)∧W.cell? (f2 a)=some (v2 a)∧W.cell? (f3 a)=some (v3 a):=by
  obtain ⟨a,e,x0,x1,x2,x3⟩ := h p q
  exact ⟨eq_true p,eq_true q,a,e,bc HB x0,bc HB x1,bc HB x2,bc HB x3⟩
theorem b6 {w W:World}{i n:Int}{e:Addr→Prop}{f0 f1 f2 f3 f4 f5:Addr→Addr}{v0 v1 v2 v3 v4 v5:Addr→Value}(HB:Aside0 (Below w.heap.size w W))(h:0≤i→i<n→ ∃ a,e a∧w.cell? (f0 a)=some (v0 a)∧w.cell? (f1 a)=some (v1 a)∧w.cell? (f2 a)=some (v2 a)∧w.cell? (f3 a)=some (v3 a)∧w.cell? (f4 a)=some (v4 a)∧w.cell? (f5 a)=some (v5 a))(p:0≤i:=by exact dA)(q:i<n:=by exact dA):(0≤i)=True∧(i<n)=True∧ ∃ a,e a∧W.cell? (f0 a)=some (v0 a)∧W.cell? (f1 a)=some (v1 a)∧W.cell? (f2 a)=some (v2 a)∧W.cell? (f3 a)=some (v3 a)∧W.cell? (f4 a)=some (v4 a)∧W.cell? (f5 a)=some (v5 a):=by
  obtain ⟨a,e,x0,x1,x2,x3,x4,x5⟩ := h p q
  exact ⟨eq_true p,eq_true q,a,e,bc HB x0,bc HB x1,bc HB x2,bc HB x3,bc HB x4,bc HB x5⟩
theorem b7 {w W:World}{i n:Int}{e:Addr→Prop}{f0 f1 f2 f3 f4 f5 f6:Addr→Addr}{v0 v1 v2 v3 v4 v5 v6:Addr→Value}(HB:Aside0 (Below w.heap.size w W))(h:0≤i→i<n→ ∃ a,e a∧w.cell? (f0 a)=some (v0 a)∧w.cell? (f1 a)=some (v1 a)∧w.cell? (f2 a)=some (v2 a)∧w.cell? (f3 a)=some (v3 a)∧w.cell? (f4 a)=some (v4 a)∧w.cell? (f5 a)=some (v5 a)∧w.cell? (f6 a)=some (v6 a))(p:0≤i:=by exact dA)(q:i<n:=by exact dA):(0≤i)=True∧(i<n)=True∧ ∃ a,e a∧W.cell? (f0 a)=some (v0 a)∧W.cell? (f1 a)=some (v1 a)∧W.cell? (f2 a)=some (v2 a)∧W.cell? (f3 a)=some (v3 a)∧W.cell? (f4 a)=some (v4 a)∧W.cell? (f5 a)=some (v5 a)∧W.cell? (f6 a)=some (v6 a):=by
  obtain ⟨a,e,x0,x1,x2,x3,x4,x5,x6⟩ := h p q
  exact ⟨eq_true p,eq_true q,a,e,bc HB x0,bc HB x1,bc HB x2,bc HB x3,bc HB x4,bc HB x5,bc HB x6⟩
section
variable {P : Program} {ops : Array Oper} {rest : List Oper} {o : Oper} {a : Act} {Q : Exit → Act → World → Prop} {w : World} {f : FuncId} {fn : Func} {as : Array Operand} {ts : Array TypeId} {args : Array Value}
/-- A call by its contract: what it returns is one value. -/
theorem gX (N : Option Tmp) {v : Value} {R : World → Prop} (hf : P.funcs[f]? = some fn) (c : Calls P f args w fun e w' => e = .returned v ∧ R w') (h : ∀ w', R w' → wpList P ops Q rest (a.put N v) w')
    (hd : o.dst = N := by rfl) (hop : o.op = .call { callee := .value (.func f), args := as, argTypes := ts } := by rfl) (hg : o.guard = none := by rfl) (hname : (fn.name == "runtime.NumGoroutine") = false := by kernel_rfl) (hb : fn.body.isSome = true := by rfl) (hargs : as.map a.eval = args := by (try simp only [List.map_toArray, List.map_cons, List.map_nil]); first | done | rfl | (simp only [List.length_drop, List.length_take]; rfl)) : wpList P ops Q (o :: rest) a w :=
  goesL_ N hd hg hf hname hb args hop hargs (c.mono fun e w' he => ⟨v, he.1, h w' he.2⟩)
theorem gY (N : Option Tmp) {α : Type} {V : α → Value} {R : α → World → Prop} (hf : P.funcs[f]? = some fn) (c : Calls P f args w fun e w' => ∃ x, e = .returned (V x) ∧ R x w') (h : ∀ x w', R x w' → wpList P ops Q rest (a.put N (V x)) w')
    (hd : o.dst = N := by rfl) (hop : o.op = .call { callee := .value (.func f), args := as, argTypes := ts } := by rfl) (hg : o.guard = none := by rfl) (hname : (fn.name == "runtime.NumGoroutine") = false := by kernel_rfl) (hb : fn.body.isSome = true := by rfl) (hargs : as.map a.eval = args := by (try simp only [List.map_toArray, List.map_cons, List.map_nil]); first | done | rfl | (simp only [List.length_drop, List.length_take]; rfl)) : wpList P ops Q (o :: rest) a w :=
  goesL_ N hd hg hf hname hb args hop hargs (c.mono fun e w' ⟨x, h1, h2⟩ => ⟨V x, h1, h x w' h2⟩)
theorem gV (N : Option Tmp) {R : Ending → World → Prop} (hf : P.funcs[f]? = some fn) (c : Calls P f args w R) (h : ∀ e w', R e w' → ∃ v, e = .returned v ∧ wpList P ops Q rest (a.put N v) w')
    (hd : o.dst = N := by rfl) (hop : o.op = .call { callee := .value (.func f), args := as, argTypes := ts } := by rfl) (hg : o.guard = none := by rfl) (hname : (fn.name == "runtime.NumGoroutine") = false := by kernel_rfl) (hb : fn.body.isSome = true := by rfl) (hargs : as.map a.eval = args := by (try simp only [List.map_toArray, List.map_cons, List.map_nil]); first | done | rfl | (simp only [List.length_drop, List.length_take]; rfl)) : wpList P ops Q (o :: rest) a w :=
  goesL_ N hd hg hf hname hb args hop hargs (c.mono h)
end
section
variable {P : Program} {ops : Array Oper} {Q : Exit → Act → World → Prop} {oi : Oper} {N : Option Tmp} {a : Act} {w : World} {K : Act → World → Prop} {f : FuncId} {fn : Func} {as : Array Operand} {ts : Array TypeId} {args : Array Value}
theorem eX {v : Value} {R : World → Prop} (hf : P.funcs[f]? = some fn) (c : Calls P f args w fun e w' => e = .returned v ∧ R w') (h : ∀ w', R w' → K (a.put N v) w') (hname : (fn.name == "runtime.NumGoroutine") = false := by kernel_rfl) (hb : fn.body.isSome = true := by rfl)
    (hw : Region.wanted oi (yielded ops a.tmps) = true := by rfl) (hN : oi.dst = N := by rfl) (hop : oi.op = .call { callee := .value (.func f), args := as, argTypes := ts } := by rfl) (hargs : as.map a.eval = args := by (try simp only [List.map_toArray, List.map_cons, List.map_nil]); first | done | rfl | (simp only [List.length_drop, List.length_take]; rfl)) : if Region.wanted oi (yielded ops a.tmps) = true then Oper.wp P oi a w K Q else K (a.put N undef) w :=
  goes_ hf hname hb args hw hN hop hargs (c.mono fun e w' he => ⟨v, he.1, h w' he.2⟩)
theorem eY {α : Type} {V : α → Value} {R : α → World → Prop} (hf : P.funcs[f]? = some fn) (c : Calls P f args w fun e w' => ∃ x, e = .returned (V x) ∧ R x w') (h : ∀ x w', R x w' → K (a.put N (V x)) w') (hname : (fn.name == "runtime.NumGoroutine") = false := by kernel_rfl) (hb : fn.body.isSome = true := by rfl)
    (hw : Region.wanted oi (yielded ops a.tmps) = true := by rfl) (hN : oi.dst = N := by rfl) (hop : oi.op = .call { callee := .value (.func f), args := as, argTypes := ts } := by rfl) (hargs : as.map a.eval = args := by (try simp only [List.map_toArray, List.map_cons, List.map_nil]); first | done | rfl | (simp only [List.length_drop, List.length_take]; rfl)) : if Region.wanted oi (yielded ops a.tmps) = true then Oper.wp P oi a w K Q else K (a.put N undef) w :=
  goes_ hf hname hb args hw hN hop hargs (c.mono fun e w' ⟨x, h1, h2⟩ => ⟨V x, h1, h x w' h2⟩)
theorem eV {R : Ending → World → Prop} (hf : P.funcs[f]? = some fn) (c : Calls P f args w R) (h : ∀ e w', R e w' → ∃ v, e = .returned v ∧ K (a.put N v) w') (hname : (fn.name == "runtime.NumGoroutine") = false := by kernel_rfl) (hb : fn.body.isSome = true := by rfl)
    (hw : Region.wanted oi (yielded ops a.tmps) = true := by rfl) (hN : oi.dst = N := by rfl) (hop : oi.op = .call { callee := .value (.func f), args := as, argTypes := ts } := by rfl) (hargs : as.map a.eval = args := by (try simp only [List.map_toArray, List.map_cons, List.map_nil]); first | done | rfl | (simp only [List.length_drop, List.length_take]; rfl)) : if Region.wanted oi (yielded ops a.tmps) = true then Oper.wp P oi a w K Q else K (a.put N undef) w :=
  goes_ hf hname hb args hw hN hop hargs (c.mono h)
end
section
variable {α : Type} {d : Kd α} {e : Nat} {w w0 w1 W : World} {base : Nat} {ok : Nat → Prop} {v : Value} {xs : List α} {g : Nat} {o : Obj} {A : Option Addr} {n c : Nat}
theorem rM {ok' : Nat → Prop} (HO : Aside0 (d.R e w0 base ok v xs)) (f : ∀ k, ok k → ok' k) (m : d.R e w0 base ok v xs → d.R e W base ok v xs := by intro h_; (with_reducible repeat (first | apply Kd.R_alloc | apply Kd.R_drewN | apply Kd.R_drew)); exact h_) : d.R e W base ok' v xs := Kd.R_mono (m HO.out) f
theorem sM {ok' : Nat → Prop} (HO : Aside0 (d.S e w0 base ok v xs)) (f : ∀ k, ok k → ok' k) (m : d.S e w0 base ok v xs → d.S e W base ok v xs := by intro h_; (with_reducible repeat (first | apply Kd.S_alloc | apply Kd.S_drewN | apply Kd.S_drew)); exact h_) : d.S e W base ok' v xs := Kd.S_mono (m HO.out) f
theorem oK {P : Prop} (h : P := by have := HK1.out; omega) : P := h
theorem rL (h : d.R e w1 W.heap.size ok v xs) (b : Below w0.heap.size w0 W := by repeat (first | (with_reducible first | exact HB.out | apply below_alloc | apply pw_below_drewN | apply below_drew1 | refine below_set ?_ (Aside0.out (by assumption))) | exact HB.out)) : Aside0 (d.R e w1 w0.heap.size ok v xs) := ⟨Kd.R_lower h (below_size b)⟩
theorem kN {t : TypeId} {cs : Array Value} (BK : Aside0 (w0.heap[g]? = some o)) (hg : W.grownBy w1 v.ownBlock) (HO : Aside0 (d.R e w base ok v xs)) (B2 : Aside0 (w.heap[g]? = some (.cells cs t (0, 0)))) (m : w0.heap[g]? = some o → W.heap[g]? = some o := by intro h_; (repeat (first | (with_reducible refine blk_drewN ?_ _) | (with_reducible refine blk_drew ?_) | (with_reducible refine blk_alloc ?_ _) | refine blk_far ?_ (Aside0.out (by assumption)) _)); exact h_) (ne : e ≠ t := by decide) : Aside0 (w1.heap[g]? = some o) := ⟨blk_grown (m BK.out) hg (Kd.R_ne HO.out B2.out ne)⟩
theorem dR (h : Aside0 (d.R e w base ok v xs)) : Aside0 (d.R e w.drew base ok v xs) := ⟨Kd.R_drew h.out⟩
theorem dB (h : Aside0 (w.heap[g]? = some o)) : Aside0 (w.drew.heap[g]? = some o) := ⟨blk_drew h.out⟩
theorem dW {b : Nat} (h : Aside0 (Below b w0 w)) : Aside0 (Below b w0 w.drew) := ⟨below_drew1 h.out⟩
theorem rW (w : World) : Aside0 (Below w.heap.size w w) := ⟨Below.refl _ _⟩
theorem cH (h : Aside0 (d.C w0 A n xs)) (b : Below w0.heap.size w0 w1 := by exact HB.out) (m : d.C w1 A n xs → d.C W A n xs := by intro h_; repeat (first | exact h_ | (with_reducible refine Kd.C_alloc ?_ _) | (with_reducible refine Kd.C_drewN ?_ _) | (with_reducible refine Kd.C_drew ?_))) : d.C W A n xs := m (Kd.C_below h.out b)
end
section
variable {P : Program} {ops : Array Oper} {md : Region.Mode} {ds : List Nat} {Q : Exit → Act → World → Prop} {S : World → Prop} {T : Bool × List (List Nat × List Nat)} {B : List Nat}
theorem pZ {n b0 : Nat} (i : Nat) (N : Tmp) (b : Nat) {oi : Oper} {v : Value} {fuel : Nat} {a a' : Act} {w : World}
    (h : wpAnyLast P md ops Q S ds fuel (msk n b) a' w) (hT : Aside0 (rtab md ops = T) := by exact HT_) (hi : ops[i]? = some oi := by rfl) (hN : oi.dst = some N := by rfl) (hc : anyT T (msk n b0).toList (msk n b).toList i = true := by kernel_rfl)
    (hQ : ∀ c a w, Q (.panic c) (a.put oi.dst v) w → Q (.panic c) a w := by exact fun _ _ _ h => h) (hw : Region.wanted oi (yielded ops a.tmps) = true := by rfl)
    (hy : ∀ w, (execOp a.eval oi).run P w = .ok (.value v) w := by intro w'; go_simp; with_reducible rfl)
    (ha : a.put (some N) v = a' := by simp only [Act.put, List.setIfInBounds_toArray, List.set_cons_zero, List.set_cons_succ, i64_w, i32_w]; rfl) : wpAnyLast P md ops Q S ds (fuel + 1) (msk n b0) a w := pureZ i (some N) (msk n b) hT.out h hi hN hc hQ hw hy ha
theorem tZ {n b0 : Nat} (i : Nat) (N : Tmp) (b : Nat) {oi : Oper} {v : Value} {fuel : Nat} {a a' : Act} {w : World} (hT : Aside0 (rtab md ops = T) := by exact HT_) (hB : Aside0 (waitsOk T.2 B = true) := by exact HW_) (hS : S w := by exact hHeld) (hi : ops[i]? = some oi := by rfl) (hN : oi.dst = some N := by rfl)
    (y : ∀ w, S w → (execOp a.eval oi).run P w = .ok (.value v) w) (h : wpAnyLast P md ops Q S ds fuel (msk n b) a' w) (hc : takeW T B ds (msk n b0).toList (msk n b).toList i = true := by kernel_rfl)
    (hQ : ∀ c a w, Q (.panic c) (a.put oi.dst v) w → Q (.panic c) a w := by exact fun _ _ _ h => h) (hw : Region.wanted oi (yielded ops a.tmps) = true := by rfl)
    (ha : a.put (some N) v = a' := by simp only [Act.put, List.setIfInBounds_toArray, List.set_cons_zero, List.set_cons_succ, i64_w, i32_w]; rfl) : wpAnyLast P md ops Q S ds (fuel + 1) (msk n b0) a w := takeZ i (some N) (msk n b) hT.out hB.out hS hi hN y h hc hQ hw ha
theorem oZ {n b0 : Nat} (i : Nat) (N : Tmp) (b : Nat) {oi : Oper} {fuel : Nat} {a : Act} {w : World}
    (h : ∀ K : Act → World → Prop, Shut (∀ a' w', S w' → (S w' → wpAnyLast P md ops Q S ds fuel (msk n b) a' w') → K a' w') → if Region.wanted oi (yielded ops a.tmps) = true then Oper.wp P oi a w K Q else K (a.put (some N) undef) w)
    (hT : Aside0 (rtab md ops = T) := by exact HT_) (hi : ops[i]? = some oi := by rfl) (hN : oi.dst = some N := by rfl) (hc : (readyT T.2 (msk n b0).toList == [i] && (msk n b0).toList.set i true == (msk n b).toList) = true := by kernel_rfl) (hd : i ∉ ds := by decide) : wpAnyLast P md ops Q S ds (fuel + 1) (msk n b0) a w := one_Z i (some N) (msk n b) hT.out h hi hN hc hd
theorem sZ {id : Nat} {a : Act} {w : World} (n : Nat) (S : World → Prop) {ds : List Nat} (hT : rtab .any ops = T) (hB : waitsOk T.2 B = true) (hS : S w.drew)
    (h : Aside0 (rtab .any ops = T) → Aside0 (waitsOk T.2 B = true) → S w.drew → wpAnyLast P .any ops Q S ds n (msk n 0) a w.drew) (hds : ds = [] := by rfl) (hm : P.follows .mixedOrders = true := by kernel_rfl) (hn : ops.size = n := by rfl) (hl : Array.replicate n false = msk n 0 := by kernel_rfl) : (Code.region id ops true).wp P Q a w :=
  start_ (msk n 0) hm hn hl hS (h ⟨hT⟩ ⟨hB⟩)
theorem sV {id : Nat} {a : Act} {w : World} (n : Nat) (S : World → Prop) {ds : List Nat} (hT : rtab .any ops = T) (hB : waitsOk T.2 B = true) (hS : S w.drew)
    (h : Aside0 (rtab .any ops = T) → Aside0 (waitsOk T.2 B = true) → S w.drew → wpAnyLast P .any ops Q S ds n (msk n 0) a w.drew) (hm : P.follows .mixedOrders = true := by kernel_rfl) (hn : ops.size = n := by rfl) (hl : Array.replicate n false = msk n 0 := by kernel_rfl) : (Code.region id ops true).wp P Q a w :=
  start_ (msk n 0) hm hn hl hS (h ⟨hT⟩ ⟨hB⟩)
end
theorem rX {α : Type} {d : Kd α} {e : Nat} {w W : World} {base : Nat} {ok : Nat → Prop} {A : Option Addr} {n c : Nat} {xs : List α} (h : Aside0 (d.R e w base ok (.slice A n c) xs)) (m : d.C w A xs.length xs → d.C W A xs.length xs := by intro h_; repeat (first | exact h_ | (with_reducible refine Kd.C_alloc ?_ _) | (with_reducible refine Kd.C_drewN ?_ _) | (with_reducible refine Kd.C_drew ?_))) : d.C W A xs.length xs := m (Kd.R_reads' h.out).2.2
theorem rY {α : Type} {d : Kd α} {e : Nat} {w : World} {base : Nat} {ok : Nat → Prop} {A : Option Addr} {n c : Nat} {xs : List α} (h : Aside0 (d.R e w base ok (.slice A n c) xs)) : n ≤ c := (Kd.R_reads' h.out).2.1
section
variable {α : Type} {d : Kd α} {e : Nat} {w w0 w1 W : World} {base : Nat} {ok : Nat → Prop} {v : Value} {xs : List α}
theorem zSW (HO : Aside0 (d.S e w0 base ok v xs)) (hb : Below W.heap.size W w1) (m : d.S e w0 base ok v xs → d.S e W base ok v xs := by intro h_; (with_reducible repeat (first | apply Kd.S_alloc | apply Kd.S_drewN | apply Kd.S_drew)); exact h_) : Aside0 (d.S e w1 base ok v xs) := ⟨Kd.S_below (m HO.out) hb⟩
theorem zS4 {i : Nat} (h : d.S e w base ok v xs) (hok : ∀ k, ok k → k ≠ i) (a b c x : Value) : d.S e ((((w.setCell ⟨i, 0, none⟩ a).setCell ⟨i, 1, none⟩ b).setCell ⟨i, 2, none⟩ c).setCell ⟨i, 3, none⟩ x) base ok v xs := Kd.S_far (p := ⟨i, 3, none⟩) (Kd.S_far (p := ⟨i, 2, none⟩) (Kd.S_far (p := ⟨i, 1, none⟩) (Kd.S_far (p := ⟨i, 0, none⟩) h hok a) hok b) hok c) hok x
theorem zMS {w : World} {base : Nat} {ok : Nat → Prop} (b : ByteArray) : Kd.M Kd.string w base ok b [.string b] := rfl
theorem zMI {w : World} {base : Nat} {ok : Nat → Prop} (b : Int) : Kd.M (Kd.int .i64) w base ok b [.int .i64 b] := rfl
end
theorem zKT {w W w1 : World} {g : Nat} (hb : Below W.heap.size W w1) (h : KeepBut w W g none := by repeat (first | (with_reducible first | exact HK.out | apply KeepBut.set_ | apply keep_drewN | apply keep_drew | apply keep_alloc | refine keep_far ?_ (Aside0.out (by assumption)) _) | exact HK.out)) : Aside0 (KeepBut w w1 g none) := ⟨KeepBut.trans h (KeepBut.of_below hb g none) (.inl rfl)⟩
end Go.Proofs.YtfhjjfibblcklaaGreatW.Z
