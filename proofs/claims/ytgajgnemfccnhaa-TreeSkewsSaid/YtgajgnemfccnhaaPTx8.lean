-- PRINTED by print.py (a twelfth state) out of the translation. Not trusted: Lean checks it.
import Derived.Test.YtgajgnemfccnhaaPTx0
import Derived.Test.YtgajgnemfccnhaaPTx1
import Derived.Test.YtgajgnemfccnhaaPTx2
import Derived.Test.YtgajgnemfccnhaaPTx3
import Derived.Test.YtgajgnemfccnhaaPTx5
namespace Go.Proofs.Ytgajgnemfccnhaa.PT
open Go.RowKit Go.Proofs.YtgajgnemfccnhaaW.PrintWords Go.Proofs.YtgajgnemfccnhaaW.PrintLast Go.Proofs.YtgajgnemfccnhaaW.PrintMore
attribute [local go_sem] max2_int min2_int max_two min_two max_three min_three max_four min_four   -- for this text's walks alone
set_option linter.unusedVariables false
set_option linter.unusedSimpArgs false

-- the contract of function 4 (maskwright/masklaw4.TreeSkews): written by hand
/-! ### masklaw4_TreeSkews: function 4 -/
def masklaw4_TreeSkews.f (l0 : List (S38)) : Option Bool := some true
abbrev SkWin := S38
def sk_lo (l : List SkWin) (i : Nat) : Int := (l.getD i z38).f0
def sk_hi (l : List SkWin) (i : Nat) : Int := (l.getD i z38).f1
/-- Within the bounds of the law. -/
def sk_bad (x : SkWin) : Bool := !(decide (-1099511627776 ≤ x.f0 ∧ x.f0 ≤ 1099511627776)) || !(decide (-1099511627776 ≤ x.f1 ∧ x.f1 ≤ 1099511627776))
/-- The greatest difference over some pairs. -/
def SkMx (l : List SkWin) (m : Int) (Pr : Nat → Nat → Prop) : Prop := 0 ≤ m ∧ (∀ i j, Pr i j → sk_hi l i - sk_lo l j ≤ m) ∧ (m = 0 ∨ ∃ i j, Pr i j ∧ m = sk_hi l i - sk_lo l j)
theorem SkMx.one {l : List SkWin} {m m' : Int} {Pr : Nat → Nat → Prop} (h : SkMx l m Pr) (h' : SkMx l m' Pr) : m = m' := by
  obtain ⟨a, b, c⟩ := h
  obtain ⟨a', b', c'⟩ := h'
  rcases c with c | ⟨i, j, p, c⟩
  · rcases c' with c' | ⟨i', j', p', c'⟩
    · omega
    · have := b _ _ p'; omega
  · have := b' _ _ p
    rcases c' with c' | ⟨i', j', p', c'⟩
    · omega
    · have := b _ _ p'; omega
theorem SkMx.imp {l : List SkWin} {m : Int} {Pr Pr' : Nat → Nat → Prop} (h : SkMx l m Pr) (e : ∀ i j, Pr i j ↔ Pr' i j) : SkMx l m Pr' := by
  obtain ⟨a, b, c⟩ := h
  refine ⟨a, fun i j p => b i j ((e i j).2 p), ?_⟩
  rcases c with c | ⟨i, j, p, c⟩
  · exact .inl c
  · exact .inr ⟨i, j, (e i j).1 p, c⟩
/-- One pair more: the test as the law has it. -/
theorem SkMx.add {l : List SkWin} {m : Int} {Pr : Nat → Nat → Prop} (h : SkMx l m Pr) (i j : Nat) : SkMx l (if m < sk_hi l i - sk_lo l j then sk_hi l i - sk_lo l j else m) (fun a b => Pr a b ∨ (a = i ∧ b = j)) := by
  obtain ⟨a, b, c⟩ := h
  split
  · rename_i hlt
    refine ⟨by omega, ?_, .inr ⟨i, j, .inr ⟨rfl, rfl⟩, rfl⟩⟩
    rintro x y (p | ⟨rfl, rfl⟩)
    · have := b x y p; omega
    · omega
  · rename_i hge
    refine ⟨a, ?_, ?_⟩
    · rintro x y (p | ⟨rfl, rfl⟩)
      · exact b x y p
      · omega
    · rcases c with c | ⟨x, y, p, c⟩
      · exact .inl c
      · exact .inr ⟨x, y, .inl p, c⟩
/-- Many pairs more, by the least of their times. -/
theorem SkMx.adds {l : List SkWin} {m : Int} {Pr : Nat → Nat → Prop} (h : SkMx l m Pr) (i : Nat) (least : Int) (J : Nat → Prop) (h1 : ∀ j, J j → least ≤ sk_lo l j) (h2 : ∃ j, J j ∧ least = sk_lo l j) :
    SkMx l (mx m (sk_hi l i - least)) (fun a b => Pr a b ∨ (a = i ∧ J b)) := by
  obtain ⟨j, hj, rfl⟩ := h2
  obtain ⟨a, b, c⟩ := h
  unfold mx
  split
  · rename_i hlt
    refine ⟨by omega, ?_, .inr ⟨i, j, .inr ⟨rfl, hj⟩, rfl⟩⟩
    rintro x y (p | ⟨rfl, q⟩)
    · have := b x y p; omega
    · have := h1 y q; omega
  · rename_i hge
    refine ⟨a, ?_, ?_⟩
    · rintro x y (p | ⟨rfl, q⟩)
      · exact b x y p
      · have := h1 y q; omega
    · rcases c with c | ⟨x, y, p, c⟩
      · exact .inl c
      · exact .inr ⟨x, y, .inl p, c⟩

def SkBd (l : List SkWin) : Prop := ∀ i, i < l.length → -1099511627776 ≤ sk_lo l i ∧ sk_lo l i ≤ 1099511627776 ∧ -1099511627776 ≤ sk_hi l i ∧ sk_hi l i ≤ 1099511627776
theorem sk_bd_of {l : List SkWin} (h : l.any sk_bad = false) : SkBd l := by
  intro i hi'
  have hm : l.getD i z38 ∈ l := by
    rw [List.getD_eq_getElem?_getD, List.getElem?_eq_getElem hi']
    exact List.getElem_mem hi'
  have := List.any_eq_false.1 h _ hm
  simp only [sk_bad, Bool.or_eq_true, Bool.not_eq_true', decide_eq_false_iff_not, not_or, Classical.not_not] at this
  exact ⟨this.1.1, this.1.2, this.2.1, this.2.2⟩
theorem sk_w {x : Int} (h0 : -9223372036854775808 ≤ x) (h1 : x ≤ 9223372036854775807) : wrap64 x = x := by
  unfold wrap64
  omega
theorem Ev.pos' {α : Type} {c : Prop} [Decidable c] {g f : Nat → Option α} {r : α} (hc : c) (h : Ev g r) : Ev (fun k => if c then g k else f k) r := Ev.congr (fun k => if_pos hc) h
theorem Ev.neg' {α : Type} {c : Prop} [Decidable c] {g f : Nat → Option α} {r : α} (hc : ¬ c) (h : Ev f r) : Ev (fun k => if c then g k else f k) r := Ev.congr (fun k => if_neg hc) h

/-- From index i on, each element has the least time from there on. -/
def SkSuf (l T : List SkWin) (i : Nat) : Prop := T.length = l.length ∧ (∀ j, i ≤ j → j < l.length → (∀ q, j ≤ q → q < l.length → sk_lo T j ≤ sk_lo l q) ∧ ∃ q, j ≤ q ∧ q < l.length ∧ sk_lo T j = sk_lo l q) ∧ ∀ j, j < i → sk_lo T j = sk_lo l j

theorem sk_rd_lo (T : List SkWin) (i : Nat) : (rd_T38 T (i : Int)).f0 = sk_lo T i := rfl
theorem sk_rd_hi (T : List SkWin) (i : Nat) : (rd_T38 T (i : Int)).f1 = sk_hi T i := rfl

theorem skew_l1 (l T : List SkWin) (hn : l.length ≤ 400) (hb : SkBd l) (hT : SkSuf l T 0) : ∀ d i, d + i = l.length → ∀ (m before : Int), SkMx l m (fun a b => a < i ∧ b < l.length ∧ a ≠ b) → (i = 0 → before = sk_lo l 0) → (0 < i → (∀ q, q < i → before ≤ sk_lo l q) ∧ ∃ q, q < i ∧ before = sk_lo l q) →
    ∃ r, Ev (fun k => tree_Skew.l1 k l m T before l (l.length : Int) (i : Int)) r ∧ SkMx l r (fun a b => a < l.length ∧ b < l.length ∧ a ≠ b) := by
  intro d
  induction d with
  | zero =>
    intro i hi' m before hm _ _
    refine ⟨m, ?_, ?_⟩
    · refine Ev.step (fun k => by rw [tree_Skew.l1]) ?_
      exact Ev.neg' (by omega) (Ev.now _)
    · have : i = l.length := by omega
      subst this
      exact hm
  | succ d ih =>
    intro i hi' m before hm hb0 hb1
    have hlt : i < l.length := by omega
    obtain ⟨b1, b2, b3, b4⟩ := hb i hlt
    have hw : wrap64 ((i : Int) + 1) = ((i + 1 : Nat) : Int) := by rw [sk_w (by omega) (by omega)]; omega
    -- behind it
    have behind : ∀ (m' before' : Int), SkMx l m' (fun a b => (a < i ∧ b < l.length ∧ a ≠ b) ∨ (a = i ∧ b < i)) → (i + 1 = 0 → before' = sk_lo l 0) → (0 < i + 1 → (∀ q, q < i + 1 → before' ≤ sk_lo l q) ∧ ∃ q, q < i + 1 ∧ before' = sk_lo l q) →
        ∃ r, Ev (fun k => if ((i + 1 : Nat) : Int) < (l.length : Int) then (if 0 ≤ ((i + 1 : Nat) : Int) then (if ((i + 1 : Nat) : Int) < (T.length : Int) then (tree_Skew.l1 k l (mx m' (wrap64 (sk_hi l i - sk_lo T (i + 1)))) T before' l (l.length : Int) ((i + 1 : Nat) : Int)) else none) else none) else (tree_Skew.l1 k l m' T before' l (l.length : Int) ((i + 1 : Nat) : Int))) r ∧ SkMx l r (fun a b => a < l.length ∧ b < l.length ∧ a ≠ b) := by
      intro m' before' hm' p1 p2
      by_cases hnext : i + 1 < l.length
      · obtain ⟨s1, q, s2, s3, s4⟩ := hT.2.1 (i + 1) (by omega) hnext
        have bq := hb q s3
        rw [sk_w (x := sk_hi l i - sk_lo T (i + 1)) (by omega) (by omega)]
        have hm2 := hm'.adds i (sk_lo T (i + 1)) (fun b => i + 1 ≤ b ∧ b < l.length) (fun j hj => s1 j hj.1 hj.2) ⟨q, ⟨s2, s3⟩, s4⟩
        obtain ⟨r, hr, hr'⟩ := ih (i + 1) (by omega) _ before' (hm2.imp (fun a b => by omega)) p1 p2
        exact ⟨r, Ev.pos' (by omega) (Ev.pos' (by omega) (Ev.pos' (by rw [hT.1]; omega) hr)), hr'⟩
      · obtain ⟨r, hr, hr'⟩ := ih (i + 1) (by omega) m' before' (hm'.imp (fun a b => by omega)) p1 p2
        exact ⟨r, Ev.neg' (by omega) hr, hr'⟩
    by_cases h0 : i = 0
    · subst h0
      have hb0' := hb0 rfl
      obtain ⟨r, hr, hr'⟩ := behind m before (hm.imp (fun a b => by omega)) (by omega) (fun _ => ⟨fun q hq => by rw [hb0']; have : q = 0 := by omega
                                                                                                                 subst this; exact Int.le_refl _, 0, by omega, hb0'⟩)
      refine ⟨r, ?_, hr'⟩
      refine Ev.step (fun k => by rw [tree_Skew.l1]) ?_
      refine Ev.pos' (by omega) (Ev.pos' (by omega) (Ev.pos' (by omega) (Ev.neg' (by omega) ?_)))
      rw [hw]
      exact hr
    · obtain ⟨c1, q, c2, c3⟩ := hb1 (by omega)
      have bq := hb q (by omega)
      have hm2 := hm.adds i before (fun b => b < i) (fun j hj => c1 j hj) ⟨q, c2, c3⟩
      have hmn : (∀ q, q < i + 1 → mn before (sk_lo l i) ≤ sk_lo l q) ∧ ∃ q, q < i + 1 ∧ mn before (sk_lo l i) = sk_lo l q := by
        unfold mn
        constructor
        · intro q' hq'
          by_cases e : q' = i
          · subst e; split <;> omega
          · have := c1 q' (by omega)
            split <;> omega
        · split
          · exact ⟨i, by omega, rfl⟩
          · exact ⟨q, by omega, c3⟩
      obtain ⟨r, hr, hr'⟩ := behind _ (mn before (sk_lo l i)) (hm2.imp (fun a b => by omega)) (by omega) (fun _ => hmn)
      refine ⟨r, ?_, hr'⟩
      refine Ev.step (fun k => by rw [tree_Skew.l1]) ?_
      refine Ev.pos' (by omega) (Ev.pos' (by omega) (Ev.pos' (by omega) (Ev.pos' (by omega) ?_)))
      rw [hw, sk_rd_hi, sk_rd_lo, sk_rd_lo, sk_w (x := sk_hi l i - before) (by omega) (by omega)]
      exact hr

theorem sk_lo_set (T : List SkWin) (i j : Nat) (x : SkWin) (h : i < T.length) : sk_lo (T.set i x) j = if i = j then x.f0 else sk_lo T j := by
  unfold sk_lo
  simp only [List.getD_eq_getElem?_getD, List.getElem?_set]
  by_cases e : i = j
  · subst e
    simp [h]
  · simp [e]

theorem skew_l0 (l : List SkWin) (h2 : 2 ≤ l.length) (hn : l.length ≤ 400) (hb : SkBd l) : ∀ i, i + 1 ≤ l.length → ∀ T, SkSuf l T i →
    ∃ r, Ev (fun k => tree_Skew.l0 k l 0 T ((i : Int) - 1)) r ∧ SkMx l r (fun a b => a < l.length ∧ b < l.length ∧ a ≠ b) := by
  intro i
  induction i with
  | zero =>
    intro _ T hT
    obtain ⟨r, hr, hr'⟩ := skew_l1 l T hn hb hT l.length 0 (by omega) 0 (sk_lo l 0) ⟨by omega, fun i j p => by omega, .inl rfl⟩ (fun _ => rfl) (fun h => by omega)
    refine ⟨r, ?_, hr'⟩
    refine Ev.step (fun k => by rw [tree_Skew.l0]) ?_
    exact Ev.neg' (by omega) (Ev.pos' (by omega) hr)
  | succ i ih =>
    intro hi' T hT
    have e1 : ((i + 1 : Nat) : Int) - 1 = (i : Int) := by omega
    have hw : wrap64 ((i : Int) + 1) = ((i + 1 : Nat) : Int) := by rw [sk_w (by omega) (by omega)]; omega
    have hw' : wrap64 ((i : Int) - 1) = (i : Int) - 1 := sk_w (by omega) (by omega)
    obtain ⟨t1, t2, t3⟩ := hT
    obtain ⟨s1, q, s2, s3, s4⟩ := t2 (i + 1) (by omega) (by omega)
    have si := t3 i (by omega)
    have := ih (by omega) (T.set i (⟨mn (sk_lo T i) (sk_lo T (i + 1)), sk_hi T i⟩ : SkWin)) ⟨by rw [List.length_set]; exact t1, ?_, ?_⟩
    · obtain ⟨r, hr, hr'⟩ := this
      refine ⟨r, ?_, hr'⟩
      refine Ev.step (fun k => by rw [tree_Skew.l0]) ?_
      rw [e1, hw, hw']
      exact Ev.pos' (by omega) (Ev.pos' (by omega) (Ev.pos' (by omega) (Ev.pos' (by omega) (Ev.pos' (by omega) hr))))
    · intro j hj hj'
      rw [sk_lo_set _ _ _ _ (by omega)]
      by_cases e : i = j
      · subst e
        rw [if_pos rfl]
        show (∀ q, i ≤ q → q < l.length → mn (sk_lo T i) (sk_lo T (i + 1)) ≤ sk_lo l q) ∧ ∃ q, i ≤ q ∧ q < l.length ∧ mn (sk_lo T i) (sk_lo T (i + 1)) = sk_lo l q
        unfold mn
        constructor
        · intro q' h1 h2'
          by_cases e : q' = i
          · subst e; split <;> omega
          · have := s1 q' (by omega) h2'
            split <;> omega
        · split
          · exact ⟨q, by omega, s3, s4⟩
          · exact ⟨i, by omega, by omega, si⟩
      · rw [if_neg e]
        obtain ⟨u1, q', u2, u3, u4⟩ := t2 j (by omega) hj'
        exact ⟨u1, q', u2, u3, u4⟩
    · intro j hj
      rw [sk_lo_set _ _ _ _ (by omega), if_neg (by omega)]
      exact t3 j (by omega)

theorem skew_ev (l : List SkWin) (hn : l.length ≤ 400) (hb : SkBd l) : ∃ r, Ev (fun k => tree_Skew.f k l) r ∧ SkMx l r (fun a b => a < l.length ∧ b < l.length ∧ a ≠ b) := by
  unfold tree_Skew.f
  by_cases h2 : (l.length : Int) < 2
  · exact ⟨0, Ev.pos' h2 (Ev.now _), by omega, fun i j p => by omega, .inl rfl⟩
  · obtain ⟨r, hr, hr'⟩ := skew_l0 l (by omega) hn hb (l.length - 1) (by omega) l ⟨rfl, fun j h1 h2' => ⟨fun q h3 h4 => by
        have : q = j := by omega
        subst this; exact Int.le_refl _, j, Nat.le_refl _, h2', rfl⟩, fun j _ => rfl⟩
    refine ⟨r, Ev.neg' h2 ?_, hr'⟩
    have e : tree_Window_48.f l = some l := by
      unfold tree_Window_48.f
      rw [if_pos (by omega)]
    rw [e]
    simp only [Option.bind_some]
    rw [show ((l.length - 1 : Nat) : Int) - 1 = (l.length : Int) - 2 by omega] at hr
    rw [sk_w (x := (l.length : Int) - 2) (by omega) (by omega)]
    exact hr

/-! the closure, IndexFunc, ContainsFunc -/
theorem sk_in_dec (n a b : Int) : maskref4_In.f n a b = some (decide (a ≤ n ∧ n ≤ b)) := by
  unfold maskref4_In.f
  by_cases h : a ≤ n
  · rw [if_pos h]
    simp [h]
  · rw [if_neg h]
    simp [h]
set_option maxHeartbeats 1000000 in
set_option maxRecDepth 100000 in
theorem sk_clo.calls (x : SkWin) (w : World) : Calls Try.prog 15 #[.agg #[.int .i64 x.f0, .int .i64 x.f1]] w fun e w' => e = .returned (.bool (sk_bad x)) ∧ Below w.heap.size w w' := by
  have HB := below_alloc (Below.refl w.heap.size w) (.cells #[.int .i64 x.f0, .int .i64 x.f1] 38)
  cases h1 : decide (-1099511627776 ≤ x.f0 ∧ x.f0 ≤ 1099511627776) with
  | false =>
    have hb : sk_bad x = true := by simp [sk_bad, h1]
    rw [hb]
    go_enter Try.func15, Try.ntmps15
    go_wp2_with fail
    refine (maskref4_In.calls x.f0 (-1099511627776) 1099511627776 false _ (by rw [sk_in_dec, h1])).mono ?_
    rintro e w1 ⟨rfl, hw1⟩
    replace HB := below_step HB hw1.below
    clear hw1
    go_wp2
    go_ret
    exact ⟨rfl, HB⟩
  | true =>
    have hb : sk_bad x = !(decide (-1099511627776 ≤ x.f1 ∧ x.f1 ≤ 1099511627776)) := by simp [sk_bad, h1]
    rw [hb]
    generalize h2 : decide (-1099511627776 ≤ x.f1 ∧ x.f1 ≤ 1099511627776) = b2
    have B0 : (w.alloc (.cells #[.int .i64 x.f0, .int .i64 x.f1] 38)).heap[w.heap.size]? = some (.cells #[.int .i64 x.f0, .int .i64 x.f1] 38 (0, 0)) := blk_new w _
    go_enter Try.func15, Try.ntmps15
    go_wp2_with fail
    refine (maskref4_In.calls x.f0 (-1099511627776) 1099511627776 true _ (by rw [sk_in_dec, h1])).mono ?_
    rintro e w1 ⟨rfl, hw1⟩
    replace HB := below_step HB hw1.below
    replace B0 := blk_below B0 hw1.below
    clear hw1
    have c1 := blk_cell B0 1
    simp at c1
    clear B0
    go_wp2_with fail
    refine (maskref4_In.calls x.f1 (-1099511627776) 1099511627776 b2 _ (by rw [sk_in_dec, h2])).mono ?_
    rintro e w2 ⟨rfl, hw2⟩
    replace HB := below_step HB hw2.below
    clear hw2 c1
    go_wp2
    go_ret
    exact ⟨rfl, HB⟩

set_option maxHeartbeats 1000000 in
set_option maxRecDepth 100000 in
theorem sk_idx.calls (A0 : Option Addr) (c0 : Nat) (l : List SkWin) (w : World) (hr : Kd.C k38 w A0 l.length l) :
    Calls Try.prog 47 #[.slice A0 l.length c0, .func (.func 15) #[] #[]] w fun e w' => (∃ i : Int, e = .returned (.int .i64 i) ∧ decide (0 ≤ i) = l.any sk_bad) ∧ Below w.heap.size w w' := by
  have h63 : l.length ≤ 9223372036854775807 := hr.2.1
  have HR := Aside0.mk hr
  clear hr
  go_enter Try.func47, Try.ntmps47
  go_wp2
  go_loopw [8] (fun v wr => ∃ i : Int, 0 ≤ i ∧ i ≤ l.length ∧ v = .int .i64 i ∧ Aside0 (Below w.heap.size w wr) ∧ Aside0 (l.any sk_bad = (l.drop i.toNat).any sk_bad)) (fun v _ => (l.length - (intOf v).toNat))
  case atStart => exact ⟨0, by omega, by omega, rfl, ⟨Below.refl _ _⟩, ⟨by simp⟩⟩
  case round =>
    obtain ⟨i, h0, h1, rfl, hb, ha⟩ := hrel
    by_cases hlt : i < l.length
    · obtain ⟨ad, rfl, c0_, c1_⟩ := at_T38 (Kd.C_below HR.out hb.out) i h0 hlt
      go_wp2_with fail
      refine (sk_clo.calls (rd_T38 l i) _).mono ?_
      rintro e w1 ⟨rfl, hw1⟩
      clear c0_ c1_
      have hb1 := Aside0.mk (below_step hb.out hw1)
      clear hw1 hb
      have hdrop : l.drop i.toNat = rd_T38 l i :: l.drop (i.toNat + 1) := by
        unfold rd_T38
        have hn : i.toNat < l.length := by omega
        rw [List.getD_eq_getElem?_getD, List.getElem?_eq_getElem hn]
        exact List.drop_eq_getElem_cons hn
      have hany : l.any sk_bad = (sk_bad (rd_T38 l i) || (l.drop (i.toNat + 1)).any sk_bad) := by rw [ha.out, hdrop, List.any_cons]
      clear hdrop ha
      cases hbv : sk_bad (rd_T38 l i) with
      | true =>
        have hA := Aside0.mk (show l.any sk_bad = true by rw [hany, hbv]; rfl)
        clear hany hbv
        go_wp2
        go_ret
        exact ⟨⟨i, rfl, by rw [hA.out]; exact decide_eq_true h0⟩, hb1.out⟩
      | false =>
        have hA := Aside0.mk (show l.any sk_bad = (l.drop (i + 1).toNat).any sk_bad by rw [hany, hbv, Bool.false_or, show (i + 1).toNat = i.toNat + 1 by omega])
        clear hany hbv
        go_wp2
        go_roundw
        case rel => exact ⟨i + 1, by omega, by omega, by go_num, hb1, hA⟩
        case measure => simp [intOf]; omega
    · have hend : i.toNat = l.length := by omega
      have hA := Aside0.mk (show l.any sk_bad = false by rw [ha.out, hend, List.drop_length]; rfl)
      clear ha hend
      go_wp2
      go_ret
      exact ⟨⟨-1, rfl, by rw [hA.out]; rfl⟩, hb.out⟩

set_option maxHeartbeats 1000000 in
set_option maxRecDepth 100000 in
theorem sk_has.calls (A0 : Option Addr) (c0 : Nat) (l : List SkWin) (w : World) (hr : Kd.C k38 w A0 l.length l) :
    Calls Try.prog 14 #[.slice A0 l.length c0, .func (.func 15) #[] #[]] w fun e w' => e = .returned (.bool (l.any sk_bad)) ∧ Below w.heap.size w w' := by
  go_enter Try.func14, Try.ntmps14
  go_wp2_with fail
  refine (sk_idx.calls A0 c0 l w hr).mono ?_
  rintro e w1 ⟨⟨i, rfl, hi⟩, hb⟩
  have H := Aside0.mk hi
  clear hi
  go_wp2
  go_ret
  exact ⟨by first | (rw [H.out]; rfl) | (rw [← H.out]; rfl), hb⟩

def masklaw4_TreeSkews.T12 : Bool × List (List Nat × List Nat) := (true, [([], []), ([], []), ([0, 1], [0, 1]), ([2], [2]), ([3], [3]), ([], []), ([], []), ([5, 6], [5, 6]), ([7], [7]), ([8], [8]), ([4, 9], [4, 9]), ([10, 0, 1, 2, 3, 4, 5, 6, 7, 8, 9, 10], [10])])
def masklaw4_TreeSkews.B12 : List Nat := [0, 0, 3, 7, 15, 0, 0, 96, 224, 480, 1023, 2047]
theorem masklaw4_TreeSkews.tab12 : rtab .any (opsOf Try.f4 12) = masklaw4_TreeSkews.T12 := by kernel_rfl
theorem masklaw4_TreeSkews.bits12 : waitsOk masklaw4_TreeSkews.T12.2 masklaw4_TreeSkews.B12 = true := by kernel_rfl
set_option maxHeartbeats 2000000 in
set_option maxRecDepth 100000 in
theorem masklaw4_TreeSkews.calls (A0 : Option Addr) (c0 : Nat) (l0 : List (S38)) (r : Bool) (w : World) (hr0 : Kd.C k38 w A0 l0.length l0) (hc0 : l0.length ≤ c0) (h : masklaw4_TreeSkews.f l0 = some r) :
    Calls Try.prog 4 #[.slice A0 l0.length c0] w fun e w' => e = .returned (.bool r) ∧ Below w.heap.size w w' := by
  obtain rfl := Option.some.inj h
  clear h
  have h63 : l0.length ≤ 9223372036854775807 := hr0.2.1
  have HR := Aside0.mk hr0
  clear hr0
  by_cases hbig : 400 < l0.length
  · have hd : decide ((400 : Int) < (l0.length : Int)) = true := decide_eq_true (by omega)
    go_enter Try.func4, Try.ntmps4
    go_wp2_with fail
    refine (masklaw4_trees.calls true _ rfl).mono ?_
    rintro e w1 ⟨rfl, hb1⟩
    go_wp2
    go_ret
    exact ⟨rfl, hb1⟩
  · have hd : decide ((400 : Int) < (l0.length : Int)) = false := decide_eq_false (by omega)
    go_enter Try.func4, Try.ntmps4
    go_wp2_with fail
    refine (masklaw4_trees.calls true _ rfl).mono ?_
    rintro e w1 ⟨rfl, hb1⟩
    have HB := Aside0.mk hb1
    clear hb1
    go_wp2_with fail
    refine (sk_has.calls A0 c0 l0 w1 (Kd.C_below HR.out HB.out)).mono ?_
    rintro e w2 ⟨rfl, hb2⟩
    have HB2 := Aside0.mk (below_step HB.out hb2)
    clear hb2 HB
    cases hbad : l0.any sk_bad with
    | true =>
      clear hbad
      go_wp2
      go_ret
      exact ⟨rfl, HB2.out⟩
    | false =>
      have HD := Aside0.mk (sk_bd_of hbad)
      clear hbad
      go_wp2_with fail
      go_loopw [3, 18] (fun v3 v18 wr => ∃ m i : Int, v3 = .int .i64 m ∧ v18 = .int .i64 i ∧ 0 ≤ i ∧ i ≤ l0.length ∧ Aside0 (SkMx l0 m (fun a b => (a : Int) < i ∧ b < l0.length ∧ a ≠ b)) ∧ Aside0 (Below w.heap.size w wr)) (fun _ v18 _ => (l0.length - (intOf v18).toNat))
      case atStart => exact ⟨0, 0, rfl, rfl, by omega, by omega, ⟨by omega, fun a b p => by omega, .inl rfl⟩, HB2⟩
      case round =>
        clear HB2
        obtain ⟨m, i, rfl, rfl, h0, h1, HM, HB2⟩ := hrel
        by_cases hlt : i < l0.length
        · have e1 : decide (i < (l0.length : Int)) = true := decide_eq_true hlt
          go_wp2_with fail
          go_loopw [3, 23] (fun v3 v23 wr => ∃ m j : Int, v3 = .int .i64 m ∧ v23 = .int .i64 j ∧ 0 ≤ j ∧ j ≤ l0.length ∧ Aside0 (SkMx l0 m (fun a b => ((a : Int) < i ∧ b < l0.length ∧ a ≠ b) ∨ ((a : Int) = i ∧ (b : Int) < j ∧ a ≠ b))) ∧ Aside0 (Below w.heap.size w wr)) (fun _ v23 _ => (l0.length - (intOf v23).toNat))
          case atStart => exact ⟨m, 0, rfl, rfl, by omega, by omega, ⟨HM.out.imp (fun a b => by omega)⟩, HB2⟩
          case round =>
            clear HB2 HM
            obtain ⟨m, j, rfl, rfl, g0, g1, HM, HB2⟩ := hrel
            by_cases hlj : j < l0.length
            · have hbi := HD.out i.toNat (by omega)
              have hbj := HD.out j.toNat (by omega)
              replace HB2 := Aside0.mk (below_drew1 HB2.out)
              obtain ⟨ad, rfl, ci0, ci1⟩ := at_T38 (Kd.C_below HR.out HB2.out) i h0 hlt
              obtain ⟨ad', e', cj0, cj1⟩ := at_T38 (Kd.C_below HR.out HB2.out) j g0 hlj
              obtain rfl : ad = ad' := by injection e'
              have hwr : IntKind.i64.wrap ((rd_T38 l0 i).f1 - (rd_T38 l0 j).f0) = (rd_T38 l0 i).f1 - (rd_T38 l0 j).f0 := (i64_w _).trans (sk_w (by have z1 := hbi.2.2.1; have z2 := hbj.2.1; unfold sk_hi at z1; unfold sk_lo at z2; unfold rd_T38; omega) (by have z1 := hbi.2.2.2; have z2 := hbj.1; unfold sk_hi at z1; unfold sk_lo at z2; unfold rd_T38; omega))
              have e2 : decide (j < (l0.length : Int)) = true := decide_eq_true hlj
              go_wp2_with fail
              refine start_ (n := 12) (S := fun w' => w'.cell? (ad.add (i.toNat * 2)) = some (.int .i64 (rd_T38 l0 i).f0) ∧ w'.cell? ⟨(ad.add (i.toNat * 2)).block, (ad.add (i.toNat * 2)).off + 1, none⟩ = some (.int .i64 (rd_T38 l0 i).f1) ∧ w'.cell? (ad.add (j.toNat * 2)) = some (.int .i64 (rd_T38 l0 j).f0) ∧ w'.cell? ⟨(ad.add (j.toNat * 2)).block, (ad.add (j.toNat * 2)).off + 1, none⟩ = some (.int .i64 (rd_T38 l0 j).f1)) (ds := []) #[false, false, false, false, false, false, false, false, false, false, false, false] (by kernel_rfl) rfl rfl ⟨ci0, ci1, cj0, cj1⟩ (fun hHeld => ?_); refine with_tabW masklaw4_TreeSkews.tab12 masklaw4_TreeSkews.bits12 (fun HT_ HW_ => ?_)
              generalize wr.drew = w7 at HB2 ci0 ci1 cj0 cj1 hHeld ⊢
              refine pure_ (i := 0) (N := some 26) (v := ?_) (a' := ?_) #[true, false, false, false, false, false, false, false, false, false, false, false] rfl rfl (any_of HT_.out (by kernel_rfl)) (fun _ _ _ h => h) (Or.inl ⟨by rfl, ?_⟩) ?_ ?_
              rotate_left
              · intro w'
                go_simp
                with_reducible rfl
              rotate_left
              · simp only [Act.put, List.setIfInBounds_toArray, List.set_cons_zero, List.set_cons_succ, i64_w, i32_w]
                rfl
              refine pure_ (i := 1) (N := some 27) (v := ?_) (a' := ?_) #[true, true, false, false, false, false, false, false, false, false, false, false] rfl rfl (any_of HT_.out (by kernel_rfl)) (fun _ _ _ h => h) (Or.inl ⟨by rfl, ?_⟩) ?_ ?_
              rotate_left
              · intro w'
                go_simp
                with_reducible rfl
              rotate_left
              · simp only [Act.put, List.setIfInBounds_toArray, List.set_cons_zero, List.set_cons_succ, i64_w, i32_w]
                rfl
              refine pure_ (i := 2) (N := some 28) (v := ?_) (a' := ?_) #[true, true, true, false, false, false, false, false, false, false, false, false] rfl rfl (any_of HT_.out (by kernel_rfl)) (fun _ _ _ h => h) (Or.inl ⟨by rfl, ?_⟩) ?_ ?_
              rotate_left
              · intro w'
                go_simp
                with_reducible rfl
              rotate_left
              · simp only [Act.put, List.setIfInBounds_toArray, List.set_cons_zero, List.set_cons_succ, i64_w, i32_w]
                rfl
              refine pure_ (i := 3) (N := some 29) (v := ?_) (a' := ?_) #[true, true, true, true, false, false, false, false, false, false, false, false] rfl rfl (any_of HT_.out (by kernel_rfl)) (fun _ _ _ h => h) (Or.inl ⟨by rfl, ?_⟩) ?_ ?_
              rotate_left
              · intro w'
                go_simp
                with_reducible rfl
              rotate_left
              · simp only [Act.put, List.setIfInBounds_toArray, List.set_cons_zero, List.set_cons_succ, i64_w, i32_w]
                rfl
              refine pure_ (i := 5) (N := some 31) (v := ?_) (a' := ?_) #[true, true, true, true, false, true, false, false, false, false, false, false] rfl rfl (any_of HT_.out (by kernel_rfl)) (fun _ _ _ h => h) (Or.inl ⟨by rfl, ?_⟩) ?_ ?_
              rotate_left
              · intro w'
                go_simp
                with_reducible rfl
              rotate_left
              · simp only [Act.put, List.setIfInBounds_toArray, List.set_cons_zero, List.set_cons_succ, i64_w, i32_w]
                rfl
              refine pure_ (i := 6) (N := some 32) (v := ?_) (a' := ?_) #[true, true, true, true, false, true, true, false, false, false, false, false] rfl rfl (any_of HT_.out (by kernel_rfl)) (fun _ _ _ h => h) (Or.inl ⟨by rfl, ?_⟩) ?_ ?_
              rotate_left
              · intro w'
                go_simp
                with_reducible rfl
              rotate_left
              · simp only [Act.put, List.setIfInBounds_toArray, List.set_cons_zero, List.set_cons_succ, i64_w, i32_w]
                rfl
              refine pure_ (i := 7) (N := some 33) (v := ?_) (a' := ?_) #[true, true, true, true, false, true, true, true, false, false, false, false] rfl rfl (any_of HT_.out (by kernel_rfl)) (fun _ _ _ h => h) (Or.inl ⟨by rfl, ?_⟩) ?_ ?_
              rotate_left
              · intro w'
                go_simp
                with_reducible rfl
              rotate_left
              · simp only [Act.put, List.setIfInBounds_toArray, List.set_cons_zero, List.set_cons_succ, i64_w, i32_w]
                rfl
              refine pure_ (i := 8) (N := some 34) (v := ?_) (a' := ?_) #[true, true, true, true, false, true, true, true, true, false, false, false] rfl rfl (any_of HT_.out (by kernel_rfl)) (fun _ _ _ h => h) (Or.inl ⟨by rfl, ?_⟩) ?_ ?_
              rotate_left
              · intro w'
                go_simp
                with_reducible rfl
              rotate_left
              · simp only [Act.put, List.setIfInBounds_toArray, List.set_cons_zero, List.set_cons_succ, i64_w, i32_w]
                rfl
              refine take_ (i := 4) (N := some 30) (v := ?_) (a' := ?_) #[true, true, true, true, true, true, true, true, true, false, false, false] rfl rfl (take_ofW HT_.out HW_.out (by kernel_rfl)) (fun _ _ _ h => h) (Or.inl ⟨by rfl, ?_⟩) hHeld ?_ ?_
              rotate_left
              · rintro w' ⟨s0, s1, s2, s3⟩
                go_simp
                with_reducible rfl
              rotate_left
              · simp only [Act.put, List.setIfInBounds_toArray, List.set_cons_zero, List.set_cons_succ, i64_w, i32_w]
                rfl
              refine take_ (i := 9) (N := some 35) (v := ?_) (a' := ?_) #[true, true, true, true, true, true, true, true, true, true, false, false] rfl rfl (take_ofW HT_.out HW_.out (by kernel_rfl)) (fun _ _ _ h => h) (Or.inl ⟨by rfl, ?_⟩) hHeld ?_ ?_
              rotate_left
              · rintro w' ⟨s0, s1, s2, s3⟩
                go_simp
                with_reducible rfl
              rotate_left
              · simp only [Act.put, List.setIfInBounds_toArray, List.set_cons_zero, List.set_cons_succ, i64_w, i32_w]
                rfl
              refine pure_ (i := 10) (N := some 36) (v := ?_) (a' := ?_) #[true, true, true, true, true, true, true, true, true, true, true, false] rfl rfl (any_of HT_.out (by kernel_rfl)) (fun _ _ _ h => h) (Or.inl ⟨by rfl, ?_⟩) ?_ ?_
              rotate_left
              · intro w'
                go_simp
                with_reducible rfl
              rotate_left
              · simp only [Act.put, List.setIfInBounds_toArray, List.set_cons_zero, List.set_cons_succ, i64_w, i32_w]
                rfl
              refine pure_ (i := 11) (N := some 6) (v := ?_) (a' := ?_) #[true, true, true, true, true, true, true, true, true, true, true, true] rfl rfl (any_of HT_.out (by kernel_rfl)) (fun _ _ _ h => h) (Or.inl ⟨by rfl, ?_⟩) ?_ ?_
              rotate_left
              · intro w'
                go_simp
                with_reducible rfl
              rotate_left
              · simp only [Act.put, List.setIfInBounds_toArray, List.set_cons_zero, List.set_cons_succ, i64_w, i32_w]
                rfl
              refine done_ (done_of HT_.out (by kernel_rfl)) ?_
              by_cases hij : i = j
              · have e3 : decide (i = j) = true := decide_eq_true hij
                have HM' := Aside0.mk (show SkMx l0 m (fun a b => ((a : Int) < i ∧ b < l0.length ∧ a ≠ b) ∨ ((a : Int) = i ∧ (b : Int) < j + 1 ∧ a ≠ b)) from HM.out.imp (fun a b => by omega))
                clear HM hbi hbj
                go_wp2
                go_roundw
                case rel => exact ⟨m, j + 1, rfl, by go_num, by omega, by omega, HM', HB2⟩
                case measure => simp [intOf]; omega
              · have e3 : decide (i = j) = false := decide_eq_false hij
                have HM' := Aside0.mk (show SkMx l0 (if m < (rd_T38 l0 i).f1 - (rd_T38 l0 j).f0 then (rd_T38 l0 i).f1 - (rd_T38 l0 j).f0 else m) (fun a b => ((a : Int) < i ∧ b < l0.length ∧ a ≠ b) ∨ ((a : Int) = i ∧ (b : Int) < j + 1 ∧ a ≠ b)) from (HM.out.add i.toNat j.toNat).imp (fun a b => by omega))
                clear HM hbi hbj
                generalize (rd_T38 l0 i).f1 - (rd_T38 l0 j).f0 = d at HM' hwr
                by_cases hmd : m < d
                · have e4 : decide (m < d) = true := decide_eq_true hmd
                  rw [if_pos hmd] at HM'
                  go_wp2
                  go_roundw
                  case rel => exact ⟨d, j + 1, rfl, by go_num, by omega, by omega, HM', HB2⟩
                  case measure => simp [intOf]; omega
                · have e4 : decide (m < d) = false := decide_eq_false hmd
                  rw [if_neg hmd] at HM'
                  go_wp2
                  go_roundw
                  case rel => exact ⟨m, j + 1, rfl, by go_num, by omega, by omega, HM', HB2⟩
                  case measure => simp [intOf]; omega
            · have e2 : decide (j < (l0.length : Int)) = false := decide_eq_false hlj
              have HM' := Aside0.mk (show SkMx l0 m (fun a b => (a : Int) < i + 1 ∧ b < l0.length ∧ a ≠ b) from HM.out.imp (fun a b => by omega))
              clear HM
              go_wp2
              go_roundw
              case rel => exact ⟨m, i + 1, rfl, by go_num, by omega, by omega, HM', HB2⟩
              case measure => simp [intOf]; omega
        · have e1 : decide (i < (l0.length : Int)) = false := decide_eq_false hlt
          obtain ⟨r, ⟨k, hk⟩, hr⟩ := skew_ev l0 (by omega) HD.out
          have hrm : r = m := hr.one (HM.out.imp (fun a b => by omega))
          subst hrm
          clear hr
          go_wp2_with fail
          refine (tree_Skew.calls k A0 c0 l0 r _ (Kd.C_below HR.out HB2.out) hc0 (hk k (Nat.le_refl _))).mono ?_
          rintro e w4 ⟨rfl, hb4⟩
          have HB3 := below_step HB2.out hb4
          go_wp2
          go_ret
          exact ⟨by simp, HB3⟩

end Go.Proofs.Ytgajgnemfccnhaa.PT
