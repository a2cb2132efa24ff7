/- What clocks.Check answers, as a plain function. -/
import Derived.Test.YtodgaaggmlgenaaDoorPCw3
import Derived.Test.YtodgaaggmlgenaaDoorPCx7
set_option linter.unusedSectionVars false
namespace Go.Proofs.YtodgaaggmlgenaaDoor.PC
open Go.Sort Go.RowKit Go.Proofs.YtodgaaggmlgenaaDoorW.PrintWords Go.Proofs.YtodgaaggmlgenaaDoorW.PrintLast Go.Proofs.YtodgaaggmlgenaaDoorW.PrintMore
set_option linter.unusedVariables false
set_option linter.unusedSimpArgs false

theorem ba_loop (b : ByteArray) : ∀ (n i : Nat) (r : List UInt8), n = b.size - i → ByteArray.toList.loop b i r = r.reverse ++ b.data.toList.drop i
  | 0, i, r, h => by
    unfold ByteArray.toList.loop
    rw [if_neg (by omega), List.drop_eq_nil_of_le (by rw [Array.length_toList]; show b.size ≤ i; omega), List.append_nil]
  | n + 1, i, r, h => by
    unfold ByteArray.toList.loop
    have hi : i < b.size := by omega
    have hi2 : i < b.data.toList.length := by rw [Array.length_toList]; exact hi
    rw [if_pos hi, ba_loop b n (i + 1) _ (by omega), List.drop_eq_getElem_cons hi2]
    simp [ByteArray.get!, getElem!_pos, hi]
theorem ba_toList (b : ByteArray) : b.toList = b.data.toList := by
  unfold ByteArray.toList
  rw [ba_loop b _ 0 [] rfl]; simp
theorem ba_nil (b : ByteArray) : b.toList = [] ↔ b.size = 0 := by
  rw [ba_toList]
  constructor
  · intro h
    have := congrArg List.length h
    rw [Array.length_toList] at this
    exact this
  · intro h
    apply List.eq_nil_of_length_eq_zero
    rw [Array.length_toList]
    exact h

theorem w64' {x : Int} (h0 : -9223372036854775808 ≤ x) (h1 : x ≤ 9223372036854775807) : wrap64 x = x := by
  unfold wrap64
  omega
def chB (c : Int) : Bool := decide (33 ≤ c) && decide (c ≤ 126)
def nmB (s : ByteArray) : Bool := (List.range s.size).all (fun j => chB (bt s (j : Int))) && decide (0 < s.size) && decide (s.size ≤ 128)

theorem nm_go (s : ByteArray) (hs : s.size ≤ 4611686018427387904) : ∀ (n i : Nat), n + i = s.size → clocks_name.l0 (n + 1) s (s.size : Int) (i : Int) = some ((List.range' i n).all (fun j => chB (bt s (j : Int))) && decide (0 < s.size) && decide (s.size ≤ 128))
  | 0, i, h => by
    simp only [clocks_name.l0]
    rw [if_neg (by omega)]
    by_cases h0 : s.size = 0
    · rw [if_pos ((ba_nil s).mpr h0)]; simp [h0]
    · rw [if_neg (fun e => h0 ((ba_nil s).mp e))]
      have e1 : decide (0 < s.size) = true := decide_eq_true (by omega)
      have e2 : decide ((s.size : Int) ≤ 128) = decide (s.size ≤ 128) := decide_eq_decide.mpr (by omega)
      rw [e1, e2]; simp
  | n + 1, i, h => by
    have e : wrap64 ((i : Int) + 1) = ((i + 1 : Nat) : Int) := by
      rw [w64' (by omega) (by omega)]; omega
    have ih := nm_go s hs n (i + 1) (by omega)
    rw [clocks_name.l0, if_pos (by omega), if_pos (by omega), if_pos (by omega), e, ih, List.range'_succ, List.all_cons]
    by_cases c1 : bt s (i : Int) < 33
    · rw [if_pos c1]
      have : chB (bt s (i : Int)) = false := by unfold chB; rw [decide_eq_false (by omega)]; rfl
      rw [this]; rfl
    · rw [if_neg c1]
      by_cases c2 : bt s (i : Int) > 126
      · rw [if_pos c2]
        have : chB (bt s (i : Int)) = false := by unfold chB; rw [decide_eq_false (p := bt s (i : Int) ≤ 126) (by omega)]; simp
        rw [this]; rfl
      · rw [if_neg c2]
        have : chB (bt s (i : Int)) = true := by unfold chB; rw [decide_eq_true (by omega), decide_eq_true (by omega)]; rfl
        rw [this]; rfl
theorem nm_tot (s : ByteArray) (hs : s.size ≤ 4611686018427387904) : clocks_name.f (s.size + 1) s = some (nmB s) := by
  have := nm_go s hs s.size 0 (by omega)
  unfold clocks_name.f nmB
  rw [List.range_eq_range']
  exact this
theorem nm_size {s : ByteArray} (h : nmB s = true) : s.size ≤ 128 := by
  unfold nmB at h
  simp only [Bool.and_eq_true, decide_eq_true_eq] at h
  exact h.2
set_option maxRecDepth 10000 in
theorem nm_call (s : ByteArray) (hs : s.size ≤ 140737488355328) (w : World) : Calls Tryd.prog 27 #[.string s] w fun e w' => e = .returned (.bool (nmB s)) ∧ Below w.heap.size w w' := by
  refine (clocks_name.calls (s.size + 1) s (nmB s) w (nm_tot s (by omega))).mono ?_
  rintro e w' ⟨rfl, h⟩
  exact ⟨rfl, h.below⟩

/-- The first thing that is wrong, among n, from i on; 0: nothing. -/
def firstErr (f : Nat → Int) : Nat → Nat → Int
  | 0, _ => 0
  | n + 1, i => if f i = 0 then firstErr f n (i + 1) else f i
theorem firstErr_zero {f : Nat → Int} : ∀ (n i : Nat), (∀ j, i ≤ j → j < i + n → f j = 0) → firstErr f n i = 0
  | 0, _, _ => rfl
  | n + 1, i, h => by
    rw [firstErr, if_pos (h i (by omega) (by omega))]
    exact firstErr_zero n (i + 1) (fun j h1 h2 => h j (by omega) (by omega))
theorem firstErr_at {f : Nat → Int} : ∀ (n i m : Nat), i ≤ m → m < i + n → (∀ j, i ≤ j → j < m → f j = 0) → f m ≠ 0 → firstErr f n i = f m
  | 0, i, m, h1, h2, _, _ => by omega
  | n + 1, i, m, h1, h2, h, hm => by
    rw [firstErr]
    by_cases e : i = m
    · subst e; rw [if_neg hm]
    · rw [if_pos (h i (by omega) (by omega))]
      exact firstErr_at n (i + 1) m (by omega) (by omega) (fun j a b => h j (by omega) b) hm
theorem firstErr_all {f : Nat → Int} : ∀ (n i : Nat), firstErr f n i = 0 → ∀ j, i ≤ j → j < i + n → f j = 0
  | 0, i, _, j, h1, h2 => by omega
  | n + 1, i, h, j, h1, h2 => by
    rw [firstErr] at h
    by_cases e : f i = 0
    · rw [if_pos e] at h
      by_cases ej : j = i
      · subst ej; exact e
      · exact firstErr_all n (i + 1) h j (by omega) (by omega)
    · rw [if_neg e] at h; exact absurd h e

def badI (x : S51) : Bool := decide (x.f1.f0 < 0) || decide (x.f1.f1 < x.f1.f0) || decide (16777216 < x.f1.f1)
def badO (x : S53) : Bool := decide (x.f1 < 1) || decide (16777216 < x.f1)
def badP (x : S49) : Bool := (!(x.f0.size == 0) && !(nmB x.f0)) || (!(x.f1.size == 0) && !(nmB x.f1))
def badC (x : S49) : Bool := decide (x.f2 < 0) || decide (16 < x.f2) || (x.f2 == 1)
def errI (l : List S51) (i : Nat) : Int := if nmB (l.getD i z51).f0 = false then 9 else if badI (l.getD i z51) = true then 2 else if (l.take i).any (nmq51 (l.getD i z51).f0) = true then 6 else 0
def errO (l : List S53) (i : Nat) : Int := if nmB (l.getD i z53).f0 = false then 9 else if badO (l.getD i z53) = true then 2 else if (l.take i).any (nmq53 (l.getD i z53).f0) = true then 6 else 0
def errP (l : List S49) (i : Nat) : Int := if badP (l.getD i z49) = true then 9 else if badC (l.getD i z49) = true then 2 else 0
def CheckV (p : Int) (l1 : List S51) (l2 : List S53) (l3 : List S49) : Int :=
  if p < 1 ∨ 67108864 < p then 2 else if 128 < l1.length ∨ 128 < l2.length ∨ 64 < l3.length then 3
  else if firstErr (errI l1) l1.length 0 = 0 then (if firstErr (errO l2) l2.length 0 = 0 then firstErr (errP l3) l3.length 0 else firstErr (errO l2) l2.length 0) else firstErr (errI l1) l1.length 0

def Small (p : Int) (l1 : List S51) (l2 : List S53) (l3 : List S49) : Prop := p < 100 ∧ (∀ x ∈ l1, x.f1.f0 < 100 ∧ x.f1.f1 < 100) ∧ (∀ x ∈ l2, x.f1 < 100) ∧ ∀ x ∈ l3, x.f2 < 100
def StrOk (l1 : List S51) (l2 : List S53) (l3 : List S49) : Prop := (∀ x ∈ l1, x.f0.size ≤ 140737488355328) ∧ (∀ x ∈ l2, x.f0.size ≤ 140737488355328) ∧ ∀ x ∈ l3, x.f0.size ≤ 140737488355328 ∧ x.f1.size ≤ 140737488355328
def TabS (w : World) (p : Int) (l1 : List S51) (l2 : List S53) (l3 : List S49) : Prop := TB w.heap.size w ∨ Small p l1 l2 l3

theorem mem_at {α : Type} {l : List α} {x : α} (z : α) (h : x ∈ l) : ∃ i, i < l.length ∧ l.getD i z = x := by
  obtain ⟨i, hi, e⟩ := List.getElem_of_mem h
  exact ⟨i, hi, by rw [List.getD_eq_getElem?_getD, List.getElem?_eq_getElem hi]; exact e⟩
theorem errI_ok {l : List S51} {i : Nat} (h : errI l i = 0) : nmB (l.getD i z51).f0 = true ∧ badI (l.getD i z51) = false := by
  unfold errI at h
  split at h
  · omega
  · split at h
    · omega
    · rename_i q1 q2
      exact ⟨(Bool.not_eq_false _).mp q1, (Bool.not_eq_true _).mp q2⟩
theorem errO_ok {l : List S53} {i : Nat} (h : errO l i = 0) : nmB (l.getD i z53).f0 = true ∧ badO (l.getD i z53) = false := by
  unfold errO at h
  split at h
  · omega
  · split at h
    · omega
    · rename_i q1 q2
      exact ⟨(Bool.not_eq_false _).mp q1, (Bool.not_eq_true _).mp q2⟩
theorem errP_ok {l : List S49} {i : Nat} (h : errP l i = 0) : badP (l.getD i z49) = false ∧ badC (l.getD i z49) = false := by
  unfold errP at h
  split at h
  · omega
  · split at h
    · omega
    · rename_i q1 q2
      exact ⟨(Bool.not_eq_true _).mp q1, (Bool.not_eq_true _).mp q2⟩
/-- Limits in which nothing is wrong can be written. -/
theorem fits {w : World} {p : Int} {l1 : List S51} {l2 : List S53} {l3 : List S49} (hT : TabS w p l1 l2 l3) (hp : 1 ≤ p ∧ p ≤ 67108864) (n1 : l1.length ≤ 128) (n2 : l2.length ≤ 128) (n3 : l3.length ≤ 64)
    (h1 : ∀ j, j < l1.length → errI l1 j = 0) (h2 : ∀ j, j < l2.length → errO l2 j = 0) (h3 : ∀ j, j < l3.length → errP l3 j = 0) :
    ∃ lim, okL w.heap.size w lim ∧ okN lim p ∧ okI lim l1 ∧ okO lim l2 ∧ okP lim l3 := by
  have b1 : ∀ x ∈ l1, x.f0.size ≤ 128 ∧ 0 ≤ x.f1.f0 ∧ x.f1.f0 ≤ x.f1.f1 ∧ x.f1.f1 ≤ 16777216 := by
    intro x hx
    obtain ⟨i, hi, rfl⟩ := mem_at z51 hx
    have a := errI_ok (h1 i hi)
    have c := a.2
    unfold badI at c
    simp only [Bool.or_eq_false_iff, decide_eq_false_iff_not] at c
    exact ⟨nm_size a.1, by omega, by omega, by omega⟩
  have b2 : ∀ x ∈ l2, x.f0.size ≤ 128 ∧ 1 ≤ x.f1 ∧ x.f1 ≤ 16777216 := by
    intro x hx
    obtain ⟨i, hi, rfl⟩ := mem_at z53 hx
    have a := errO_ok (h2 i hi)
    have c := a.2
    unfold badO at c
    simp only [Bool.or_eq_false_iff, decide_eq_false_iff_not] at c
    exact ⟨nm_size a.1, by omega, by omega⟩
  have b3 : ∀ x ∈ l3, x.f0.size ≤ 128 ∧ x.f1.size ≤ 128 ∧ 0 ≤ x.f2 ∧ x.f2 ≤ 16 := by
    intro x hx
    obtain ⟨i, hi, rfl⟩ := mem_at z49 hx
    have a := errP_ok (h3 i hi)
    have c := a.2
    unfold badC at c
    simp only [Bool.or_eq_false_iff, decide_eq_false_iff_not] at c
    have d := a.1
    unfold badP at d
    simp only [Bool.or_eq_false_iff, Bool.and_eq_false_iff, Bool.not_eq_false', beq_iff_eq] at d
    refine ⟨?_, ?_, by omega, by omega⟩
    · rcases d.1 with e | e
      · omega
      · exact nm_size e
    · rcases d.2 with e | e
      · omega
      · exact nm_size e
  rcases hT with ht | ⟨s0, s1, s2, s3⟩
  · refine ⟨1000000000, .inr ⟨by omega, ht⟩, ⟨by omega, by omega⟩, ⟨n1, fun x hx => ?_⟩, ⟨n2, fun x hx => ?_⟩, ⟨n3, fun x hx => ?_⟩⟩
    · have := b1 x hx; exact ⟨this.1, ⟨by omega, by omega⟩, ⟨by omega, by omega⟩⟩
    · have := b2 x hx; exact ⟨this.1, ⟨by omega, by omega⟩⟩
    · have := b3 x hx; exact ⟨this.1, this.2.1, ⟨by omega, by omega⟩⟩
  · refine ⟨100, .inl (by omega), ⟨by omega, by omega⟩, ⟨n1, fun x hx => ?_⟩, ⟨n2, fun x hx => ?_⟩, ⟨n3, fun x hx => ?_⟩⟩
    · have := b1 x hx; have q := s1 x hx; exact ⟨this.1, ⟨by omega, by omega⟩, ⟨by omega, by omega⟩⟩
    · have := b2 x hx; have q := s2 x hx; exact ⟨this.1, ⟨by omega, by omega⟩⟩
    · have := b3 x hx; have q := s3 x hx; exact ⟨this.1, this.2.1, ⟨by omega, by omega⟩⟩
theorem wr_len {B : Nat} {w : World} {lim p : Int} {l1 : List S51} {l2 : List S53} {l3 : List S49} (hL : okL B w lim) (hp : okN lim p) (h1 : okI lim l1) (h2 : okO lim l2) (h3 : okP lim l3) : (wrL p l1 l2 l3).length ≤ 100000 := by
  have np := okL_lt hL hp
  unfold wrL
  exact len3 (perSz p np.1 np.2) (cat_len inB l1 (fun y hy => inSz hL y (h1.2 y hy))) h1.1 (cat_len outB l2 (fun y hy => outSz hL y (h2.2 y hy))) h2.1 (cat_len pathB l3 (fun y hy => pathSz hL y (h3.2 y hy))) h3.1
end Go.Proofs.YtodgaaggmlgenaaDoor.PC
