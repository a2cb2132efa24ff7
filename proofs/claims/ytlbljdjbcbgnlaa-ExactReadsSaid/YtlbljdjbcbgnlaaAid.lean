/- Small lemmas for the pure statements: rounds, sums that do not wrap, inductions downward, two functions that come to one answer. No conditions. -/
import Derived.Test.YtlbljdjbcbgnlaaWWords
set_option linter.unusedVariables false
namespace Go.Proofs.Ytlbljdjbcbgnlaa.Aid
open Go.RowKit Go.Proofs.YtlbljdjbcbgnlaaW.PrintWords

theorem ws {i n : Nat} (h : i < n) (hn : n ≤ 9223372036854775807) : wrap64 ((i : Int) + 1) = ((i + 1 : Nat) : Int) := by
  unfold wrap64
  omega
theorem w64 {x : Int} (h0 : -9223372036854775808 ≤ x) (h1 : x ≤ 9223372036854775807) : wrap64 x = x := by
  unfold wrap64
  omega
/-- Downward from n. -/
theorem down {P : Nat → Prop} (n : Nat) (h0 : P n) (h : ∀ i, i < n → P (i + 1) → P i) : ∀ i, i ≤ n → P i := by
  intro i hi
  obtain ⟨d, hd⟩ : ∃ d, n = i + d := ⟨n - i, by omega⟩
  induction d generalizing i with
  | zero =>
    have : i = n := by omega
    subst this
    exact h0
  | succ d ih => exact h i (by omega) (ih (i + 1) (by omega) (by omega))
theorem Ev.pos {α : Type} {c : Prop} [Decidable c] {g f : Nat → Option α} {r : α} (hc : c) (h : Ev g r) : Ev (fun k => if c then g k else f k) r := Ev.congr (fun k => if_pos hc) h
theorem Ev.neg {α : Type} {c : Prop} [Decidable c] {g f : Nat → Option α} {r : α} (hc : ¬ c) (h : Ev f r) : Ev (fun k => if c then g k else f k) r := Ev.congr (fun k => if_neg hc) h
theorem Ev.val {α β : Type} {a : Option α} {x : α} {f : Nat → α → Option β} {r : β} (ha : a = some x) (h : Ev (fun k => f k x) r) : Ev (fun k => a.bind (f k)) r := Ev.congr (fun k => by rw [ha]; rfl) h
theorem Ev.eq {α : Type} {g : Nat → Option α} {r r' : α} (h : Ev g r) (e : r = r') : Ev g r' := e ▸ h
/-- Two that come to one answer, of which something is known. -/
def Two {α : Type} (Q : α → Prop) (g f : Nat → Option α) : Prop := ∃ r, Ev g r ∧ Ev f r ∧ Q r
abbrev Both {α : Type} (g f : Nat → Option α) : Prop := Two (fun _ => True) g f
section
variable {α : Type} {Q : α → Prop} {c : Prop} [Decidable c] {g f g' f' : Nat → Option α}
theorem Both.pos (hc : c) (h : Two Q g g') : Two Q (fun k => if c then g k else f k) (fun k => if c then g' k else f' k) := by
  obtain ⟨r, h1, h2, h3⟩ := h
  exact ⟨r, Ev.pos hc h1, Ev.pos hc h2, h3⟩
theorem Both.neg (hc : ¬ c) (h : Two Q f f') : Two Q (fun k => if c then g k else f k) (fun k => if c then g' k else f' k) := by
  obtain ⟨r, h1, h2, h3⟩ := h
  exact ⟨r, Ev.neg hc h1, Ev.neg hc h2, h3⟩
theorem Both.posl (hc : c) (h : Two Q g g') : Two Q (fun k => if c then g k else f k) g' := by
  obtain ⟨r, h1, h2, h3⟩ := h
  exact ⟨r, Ev.pos hc h1, h2, h3⟩
theorem Both.negl (hc : ¬ c) (h : Two Q f g') : Two Q (fun k => if c then g k else f k) g' := by
  obtain ⟨r, h1, h2, h3⟩ := h
  exact ⟨r, Ev.neg hc h1, h2, h3⟩
theorem Both.posr (hc : c) (h : Two Q g' g) : Two Q g' (fun k => if c then g k else f k) := by
  obtain ⟨r, h1, h2, h3⟩ := h
  exact ⟨r, h1, Ev.pos hc h2, h3⟩
theorem Both.negr (hc : ¬ c) (h : Two Q g' f) : Two Q g' (fun k => if c then g k else f k) := by
  obtain ⟨r, h1, h2, h3⟩ := h
  exact ⟨r, h1, Ev.neg hc h2, h3⟩
end
section
variable {α β : Type} {Q : β → Prop} {R : α → Prop}
theorem Both.bind {g g' : Nat → Option α} {f f' : Nat → α → Option β} (h : Two R g g') (k : ∀ a, R a → Two Q (fun n => f n a) (fun n => f' n a)) : Two Q (fun n => (g n).bind (f n)) (fun n => (g' n).bind (f' n)) := by
  obtain ⟨a, h1, h2, h3⟩ := h
  obtain ⟨r, k1, k2, k3⟩ := k a h3
  exact ⟨r, Ev.bind h1 k1, Ev.bind h2 k2, k3⟩
theorem Both.bindl {g : Nat → Option α} {a : α} {f : Nat → α → Option β} {g' : Nat → Option β} (h : Ev g a) (k : Two Q (fun n => f n a) g') : Two Q (fun n => (g n).bind (f n)) g' := by
  obtain ⟨r, k1, k2, k3⟩ := k
  exact ⟨r, Ev.bind h k1, k2, k3⟩
theorem Both.bindr {g : Nat → Option α} {a : α} {f : Nat → α → Option β} {g' : Nat → Option β} (h : Ev g a) (k : Two Q g' (fun n => f n a)) : Two Q g' (fun n => (g n).bind (f n)) := by
  obtain ⟨r, k1, k2, k3⟩ := k
  exact ⟨r, k1, Ev.bind h k2, k3⟩
theorem Both.vall {a : Option α} {x : α} {f : Nat → α → Option β} {g' : Nat → Option β} (ha : a = some x) (k : Two Q (fun n => f n x) g') : Two Q (fun n => a.bind (f n)) g' := by
  obtain ⟨r, k1, k2, k3⟩ := k
  exact ⟨r, Ev.val ha k1, k2, k3⟩
theorem Both.valr {a : Option α} {x : α} {f : Nat → α → Option β} {g' : Nat → Option β} (ha : a = some x) (k : Two Q g' (fun n => f n x)) : Two Q g' (fun n => a.bind (f n)) := by
  obtain ⟨r, k1, k2, k3⟩ := k
  exact ⟨r, k1, Ev.val ha k2, k3⟩
end
section
variable {α : Type} {Q : α → Prop}
theorem Two.now (r : α) (h : Q r) : Two Q (fun _ => some r) (fun _ => some r) := ⟨r, Ev.now r, Ev.now r, h⟩
theorem Both.now (r : α) : Both (fun _ => some r) (fun _ => some r) := ⟨r, Ev.now r, Ev.now r, trivial⟩
theorem Both.step {g f g' f' : Nat → Option α} (h : ∀ k, g (k + 1) = f k) (h' : ∀ k, g' (k + 1) = f' k) (k : Two Q f f') : Two Q g g' := by
  obtain ⟨r, k1, k2, k3⟩ := k
  exact ⟨r, Ev.step h k1, Ev.step h' k2, k3⟩
theorem Both.stepl {g f g' : Nat → Option α} (h : ∀ k, g (k + 1) = f k) (k : Two Q f g') : Two Q g g' := by
  obtain ⟨r, k1, k2, k3⟩ := k
  exact ⟨r, Ev.step h k1, k2, k3⟩
theorem Both.stepr {g f g' : Nat → Option α} (h : ∀ k, g (k + 1) = f k) (k : Two Q g' f) : Two Q g' g := by
  obtain ⟨r, k1, k2, k3⟩ := k
  exact ⟨r, k1, Ev.step h k2, k3⟩
theorem Two.of {g f : Nat → Option α} {r : α} (h : Ev g r) (k : Ev f r) (q : Q r) : Two Q g f := ⟨r, h, k, q⟩
theorem Both.of {g f : Nat → Option α} {r : α} (h : Ev g r) (k : Ev f r) : Both g f := ⟨r, h, k, trivial⟩
theorem Two.imp {Q' : α → Prop} {g f : Nat → Option α} (h : Two Q g f) (k : ∀ r, Q r → Q' r) : Two Q' g f := by
  obtain ⟨r, h1, h2, h3⟩ := h
  exact ⟨r, h1, h2, k r h3⟩
theorem Two.any {g f : Nat → Option α} (h : Two Q g f) : Both g f := h.imp (fun _ _ => trivial)
end
/-- A value out of a conditional: what a small function answers. -/
theorem some_ite {α : Type} {c : Prop} [Decidable c] {a b : α} : (if c then some a else some b) = some (if c then a else b) := by split <;> rfl
theorem getD_mem {α : Type} {l : List α} {i : Nat} (h : i < l.length) (z : α) : l.getD i z ∈ l := by
  rw [List.getD_eq_getElem?_getD, List.getElem?_eq_getElem h]
  exact List.getElem_mem h
theorem drop_cons_getD {α : Type} {l : List α} {i : Nat} (h : i < l.length) (z : α) : l.drop i = l.getD i z :: l.drop (i + 1) := by
  rw [List.getD_eq_getElem?_getD, List.getElem?_eq_getElem h]
  exact List.drop_eq_getElem_cons h

end Go.Proofs.Ytlbljdjbcbgnlaa.Aid
