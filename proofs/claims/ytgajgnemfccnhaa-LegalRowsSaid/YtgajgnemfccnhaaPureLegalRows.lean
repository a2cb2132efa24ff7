/- The pure statement of the law LegalRows, proved: the table of least sums gives the first of the best places, and so does the trial of all. No conditions. -/
import Derived.Test.YtgajgnemfccnhaaStmLegalRows
import Derived.Test.YtgajgnemfccnhaaAid
namespace Go.Proofs.Ytgajgnemfccnhaa.Pure
open Go.RowKit Go.Proofs.YtgajgnemfccnhaaW.PrintWords Go.Proofs.Ytgajgnemfccnhaa.Opn Go.Proofs.Ytgajgnemfccnhaa.PL Go.Proofs.Ytgajgnemfccnhaa.SLegalRows Go.Proofs.Ytgajgnemfccnhaa.Aid
set_option linter.unusedVariables false
set_option linter.unusedSimpArgs false
set_option linter.unusedSectionVars false

/-- The first of the best of d + 1 candidates from k on. -/
def sel (f : Nat → List Int × Int) : Nat → Nat → List Int × Int
  | k, 0 => f k
  | k, d + 1 => if (f k).2 ≤ (sel f (k + 1) d).2 then f k else sel f (k + 1) d
theorem sel_s (f : Nat → List Int × Int) (k d : Nat) : sel f k (d + 1) = if (f k).2 ≤ (sel f (k + 1) d).2 then f k else sel f (k + 1) d := rfl
theorem sel_0 (f : Nat → List Int × Int) (k : Nat) : sel f k 0 = f k := rfl
def rst (cs : List (Int × Int)) : Nat := (cs.map (fun c => c.2.toNat)).sum
theorem rst_cons (c : Int × Int) (cs : List (Int × Int)) : rst (c :: cs) = c.2.toNat + rst cs := rfl
/-- The best places of some cells from place k on, and their sum. -/
def bp (F : Int) (S : Nat) : List (Int × Int) → Nat → List Int × Int
  | [], _ => ([], 0)
  | (a, w) :: cs, k => sel (fun p => ((F + (p : Int)) :: (bp F S cs (p + w.toNat)).1, (F + (p : Int) - a) * (F + (p : Int) - a) + (bp F S cs (p + w.toNat)).2)) k (S - w.toNat - rst cs - k)
theorem bp_s (F : Int) (S : Nat) (a w : Int) (cs : List (Int × Int)) (k : Nat) : bp F S ((a, w) :: cs) k = sel (fun p => ((F + (p : Int)) :: (bp F S cs (p + w.toNat)).1, (F + (p : Int) - a) * (F + (p : Int) - a) + (bp F S cs (p + w.toNat)).2)) k (S - w.toNat - rst cs - k) := rfl
def okC (cs : List (Int × Int)) : Prop := ∀ c ∈ cs, -1000 ≤ c.1 ∧ c.1 ≤ 1000 ∧ 1 ≤ c.2 ∧ c.2 ≤ 40
theorem sel_bound (f : Nat → List Int × Int) (M : Int) : ∀ d k, (∀ p, k ≤ p → p ≤ k + d → 0 ≤ (f p).2 ∧ (f p).2 ≤ M) → 0 ≤ (sel f k d).2 ∧ (sel f k d).2 ≤ M := by
  intro d
  induction d with
  | zero => intro k h; exact h k (Nat.le_refl _) (Nat.le_refl _)
  | succ d ih =>
    intro k h
    unfold sel
    split
    · exact h k (Nat.le_refl _) (by omega)
    · exact ih (k + 1) (fun p h1 h2 => h p (by omega) (by omega))
theorem sq_bound {x : Int} (h0 : -1080 ≤ x) (h1 : x ≤ 1080) : 0 ≤ x * x ∧ x * x ≤ 1166400 := by
  constructor
  · rcases Int.le_total 0 x with h | h
    · exact Int.mul_nonneg h h
    · exact Int.mul_nonneg_of_nonpos_of_nonpos h h
  · have := Int.natAbs_mul_self' x
    have h2 : x.natAbs ≤ 1080 := by omega
    have h3 : x.natAbs * x.natAbs ≤ 1080 * 1080 := Nat.mul_le_mul h2 h2
    rw [← Int.natAbs_mul_self' x]
    have h4 : ((x.natAbs * x.natAbs : Nat) : Int) ≤ ((1080 * 1080 : Nat) : Int) := Int.ofNat_le.2 h3
    simpa using h4
section
variable (F : Int) (S : Nat) (hF : 0 ≤ F) (hFS : F + (S : Int) ≤ 40)
include hF hFS
theorem bp_bound : ∀ (cs : List (Int × Int)) (k : Nat), okC cs → k + rst cs ≤ S → 0 ≤ (bp F S cs k).2 ∧ (bp F S cs k).2 ≤ (cs.length : Int) * 1166400 := by
  intro cs
  induction cs with
  | nil => intro k _ _; simp [bp]
  | cons c cs ih =>
    obtain ⟨a, w⟩ := c
    intro k hok hk
    rw [rst_cons] at hk
    simp only [] at hk
    obtain ⟨a0, a1, w0, w1⟩ := hok (a, w) (by simp)
    simp only [] at a0 a1 w0 w1
    unfold bp
    refine sel_bound _ _ _ _ (fun p p0 p1 => ?_)
    obtain ⟨b0, b1⟩ := ih (p + w.toNat) (fun c hc => hok c (List.mem_cons_of_mem _ hc)) (by omega)
    obtain ⟨s0, s1⟩ := sq_bound (x := F + (p : Int) - a) (by omega) (by omega)
    simp only [List.length_cons]
    constructor
    · omega
    · have : ((cs.length + 1 : Nat) : Int) * 1166400 = (cs.length : Int) * 1166400 + 1166400 := by omega
      omega

/-! the reference: all are tried -/
omit hF hFS in
theorem okZ {wn wd : List Int} (ha : ∀ a ∈ wn, -1000 ≤ a ∧ a ≤ 1000) (hw : ∀ w ∈ wd, 1 ≤ w ∧ w ≤ 40) : okC (wn.zip wd) := by
  rintro ⟨a, w⟩ h
  obtain ⟨h1, h2⟩ := List.of_mem_zip h
  exact ⟨(ha a h1).1, (ha a h1).2, (hw w h2).1, (hw w h2).2⟩
def rw_ (wd : List Int) : Nat := (wd.map Int.toNat).sum
omit hF hFS in
theorem rst_zip : ∀ (wn wd : List Int), wn.length = wd.length → rst (wn.zip wd) = rw_ wd := by
  intro wn
  induction wn with
  | nil => intro wd h; cases wd with
    | nil => rfl
    | cons _ _ => simp at h
  | cons a wn ih => intro wd h; cases wd with
    | nil => simp at h
    | cons w wd => rw [List.zip_cons_cons, rst_cons, ih wd (by simpa using h)]; rfl
omit hF hFS in
theorem rw_take (wd : List Int) (i : Nat) : rw_ (wd.take i) ≤ rw_ wd := by
  unfold rw_
  conv => rhs; rw [← List.take_append_drop i wd]
  rw [List.map_append, List.sum_append]
  omega
omit hF hFS in
theorem rw_succ (wd : List Int) (i : Nat) (hi : i < wd.length) : rw_ (wd.take (i + 1)) = rw_ (wd.take i) + (rd wd (i : Int)).toNat := by
  unfold rw_
  rw [List.take_succ_eq_append_getElem hi, List.map_append, List.sum_append]
  unfold rd
  rw [Int.toNat_natCast, List.getD_eq_getElem?_getD, List.getElem?_eq_getElem hi]
  simp
omit hF hFS in
theorem rd_mem' {l : List Int} {i : Nat} (h : i < l.length) : rd l (i : Int) ∈ l := by
  unfold rd
  rw [Int.toNat_natCast]
  exact getD_mem h 0
omit hF hFS in
theorem sel_len (f : Nat → List Int × Int) (m : Nat) : ∀ d k, (∀ p, (f p).1.length = m) → (sel f k d).1.length = m := by
  intro d
  induction d with
  | zero => intro k h; exact h k
  | succ d ih =>
    intro k h
    unfold sel
    split
    · exact h k
    · exact ih (k + 1) h
omit hF hFS in
theorem bp_len : ∀ (cs : List (Int × Int)) (k : Nat), (bp F S cs k).1.length = cs.length := by
  intro cs
  induction cs with
  | nil => intro k; rfl
  | cons c cs ih =>
    obtain ⟨a, w⟩ := c
    intro k
    unfold bp
    exact sel_len _ _ _ _ (fun p => by simp [ih])
theorem try_l1 (a w : Int) (wn wd : List Int) (a0 : -1000 ≤ a) (a1 : a ≤ 1000) (w0 : 1 ≤ w) (w1 : w ≤ 40) (h40 : wn.length ≤ 39) (hl : wn.length = wd.length) (hok : okC (wn.zip wd))
    (sub : ∀ k : Nat, k + rst (wn.zip wd) ≤ S → Ev (fun n => maskref4_BestRow.f n wn wd (F + (k : Int)) (F + (S : Int))) (bp F S (wn.zip wd) k)) :
    ∀ (Fr : Int) (d p : Nat), p + w.toNat + rst (wn.zip wd) + d = S + 1 → ∀ (b : List Int) (l : Int), (l = -1 ∨ 0 ≤ l ∧ l ≤ 100000000) → b.length ≤ 40 →
      Ev (fun n => maskref4_BestRow.l1 n (a :: wn) (w :: wd) b l ((rst (wn.zip wd) : Nat) : Int) (F + (p : Int)) Fr (F + (S : Int)))
        (if d = 0 then (b, l) else if 0 ≤ l ∧ l ≤ (sel (fun p => ((F + (p : Int)) :: (bp F S (wn.zip wd) (p + w.toNat)).1, (F + (p : Int) - a) * (F + (p : Int) - a) + (bp F S (wn.zip wd) (p + w.toNat)).2)) p (d - 1)).2 then (b, l) else sel (fun p => ((F + (p : Int)) :: (bp F S (wn.zip wd) (p + w.toNat)).1, (F + (p : Int) - a) * (F + (p : Int) - a) + (bp F S (wn.zip wd) (p + w.toNat)).2)) p (d - 1)) := by
  intro Fr d
  generalize hf : (fun p : Nat => ((F + (p : Int)) :: (bp F S (wn.zip wd) (p + w.toNat)).1, (F + (p : Int) - a) * (F + (p : Int) - a) + (bp F S (wn.zip wd) (p + w.toNat)).2)) = f
  have hz : (wn.zip wd).length ≤ 39 := by rw [List.length_zip]; omega
  induction d with
  | zero =>
    intro p hp b l hb hbl
    have e1 : Aside0 (wrap64 (wrap64 (F + (p : Int) + rd (w :: wd) 0) + ((rst (wn.zip wd) : Nat) : Int)) = F + (p : Int) + w + ((rst (wn.zip wd) : Nat) : Int)) := ⟨by
      rw [show rd (w :: wd) 0 = w from rfl, w64 (x := F + (p : Int) + w) (by omega) (by omega), w64 (by omega) (by omega)]⟩
    refine Ev.step (fun n => by rw [maskref4_BestRow.l1]) ?_
    rw [e1.out, if_pos rfl]
    exact Ev.pos (by simp <;> omega) (Ev.neg (by omega) (Ev.now _))
  | succ d ih =>
    intro p hp b l hb hbl
    have e1 : Aside0 (wrap64 (wrap64 (F + (p : Int) + rd (w :: wd) 0) + ((rst (wn.zip wd) : Nat) : Int)) = F + (p : Int) + w + ((rst (wn.zip wd) : Nat) : Int)) := ⟨by
      rw [show rd (w :: wd) 0 = w from rfl, w64 (x := F + (p : Int) + w) (by omega) (by omega), w64 (by omega) (by omega)]⟩
    have e2 : Aside0 (wrap64 (F + (p : Int) + rd (w :: wd) 0) = F + ((p + w.toNat : Nat) : Int)) := ⟨by
      rw [show rd (w :: wd) 0 = w from rfl, w64 (by omega) (by omega)]; omega⟩
    have e3 : Aside0 (wrap64 (F + (p : Int) + 1) = F + ((p + 1 : Nat) : Int)) := ⟨by rw [w64 (by omega) (by omega)]; omega⟩
    have e4 : Aside0 (wrap64 (F + (p : Int) - rd (a :: wn) 0) = F + (p : Int) - a) := ⟨by rw [show rd (a :: wn) 0 = a from rfl, w64 (by omega) (by omega)]⟩
    obtain ⟨s0, s1⟩ := sq_bound (x := F + (p : Int) - a) (by omega) (by omega)
    obtain ⟨b0, b1⟩ := bp_bound F S hF hFS (wn.zip wd) (p + w.toNat) hok (by omega)
    have hlen := bp_len F S (wn.zip wd) (p + w.toNat)
    have hsub := sub (p + w.toNat) (by omega)
    have hfp : f p = ((F + (p : Int)) :: (bp F S (wn.zip wd) (p + w.toNat)).1, (F + (p : Int) - a) * (F + (p : Int) - a) + (bp F S (wn.zip wd) (p + w.toNat)).2) := by rw [← hf]
    generalize bp F S (wn.zip wd) (p + w.toNat) = r at b0 b1 hlen hsub hfp
    have e5 : Aside0 (wrap64 (r.2 + wrap64 (wrap64 (F + (p : Int) - rd (a :: wn) 0) * wrap64 (F + (p : Int) - rd (a :: wn) 0))) = (f p).2) := ⟨by
      rw [e4.out, hfp]
      generalize (F + (p : Int) - a) * (F + (p : Int) - a) = sq at s0 s1 ⊢
      rw [w64 (x := sq) (by omega) (by omega), w64 (by omega) (by omega)]
      exact Int.add_comm _ _⟩
    have v0 : 0 ≤ (f p).2 ∧ (f p).2 ≤ 100000000 := by
      rw [hfp]
      simp only []
      generalize (F + (p : Int) - a) * (F + (p : Int) - a) = sq at s0 s1 ⊢
      omega
    have hb1 : (f p).1 = [F + (p : Int)] ++ r.1 := by rw [hfp]; rfl
    have hbl1 : ([F + (p : Int)] ++ r.1).length ≤ 40 := by simp; omega
    have n1 := ih (p + 1) (by omega) ([F + (p : Int)] ++ r.1) (f p).2 (.inr v0) hbl1
    have n2 := ih (p + 1) (by omega) b l hb hbl
    rw [if_neg (by omega : ¬ d + 1 = 0), show d + 1 - 1 = d by omega]
    refine Ev.step (fun n => by rw [maskref4_BestRow.l1]) ?_
    rw [e1.out, e2.out, e3.out]
    refine Ev.pos (by simp <;> omega) (Ev.pos (by omega) (Ev.pos (by simp <;> omega) (Ev.pos (by simp <;> omega) ?_)))
    refine Ev.bind hsub (Ev.pos (by simp <;> omega) ?_)
    rw [e5.out]
    -- the new one is taken
    have new : ¬ (0 ≤ l ∧ l ≤ (f p).2) → Ev (fun n => (some ([F + (p : Int)] : List Int)).bind fun y => (if y.length + r.1.length < 17592186044416 then (maskref4_BestRow.l1 n (a :: wn) (w :: wd) (y ++ r.1) (f p).2 ((rst (wn.zip wd) : Nat) : Int) (F + ((p + 1 : Nat) : Int)) Fr (F + (S : Int))) else none)) (if 0 ≤ l ∧ l ≤ (sel f p d).2 then (b, l) else sel f p d) := by
      intro hn
      refine Ev.val rfl (Ev.pos (by simp; omega) (Ev.eq n1 ?_))
      cases d with
      | zero =>
        rw [if_pos rfl, sel_0, if_neg hn, ← hb1]
      | succ d' =>
        rw [if_neg (by omega), show d' + 1 - 1 = d' by omega, ← hb1, sel_s]
        by_cases hc : (f p).2 ≤ (sel f (p + 1) d').2
        · rw [if_pos hc, if_pos ⟨v0.1, hc⟩, if_neg hn]
        · rw [if_neg hc, if_neg (fun h => hc h.2), if_neg (by omega)]
    by_cases hl0 : l < 0
    · exact Ev.pos hl0 (new (by omega))
    · refine Ev.neg hl0 ?_
      by_cases hl1 : (f p).2 < l
      · exact Ev.pos hl1 (new (by omega))
      · refine Ev.neg hl1 (Ev.eq n2 ?_)
        cases d with
        | zero =>
          rw [if_pos rfl, sel_0, if_pos (by omega)]
        | succ d' =>
          rw [if_neg (by omega), show d' + 1 - 1 = d' by omega]
          rw [sel_s]
          by_cases hc : (f p).2 ≤ (sel f (p + 1) d').2
          · rw [if_pos hc, if_pos (by omega), if_pos (by omega)]
          · rw [if_neg hc]
theorem best_ev : ∀ (wn wd : List Int), wn.length = wd.length → wn.length ≤ 40 → (∀ a ∈ wn, -1000 ≤ a ∧ a ≤ 1000) → (∀ w ∈ wd, 1 ≤ w ∧ w ≤ 40) → ∀ k : Nat, k + rst (wn.zip wd) ≤ S → Ev (fun n => maskref4_BestRow.f n wn wd (F + (k : Int)) (F + (S : Int))) (bp F S (wn.zip wd) k) := by
  intro wn
  induction wn with
  | nil =>
    intro wd hl _ _ _ k _
    refine Ev.step (fun n => by rw [maskref4_BestRow.f]) ?_
    exact Ev.pos (by simp) (Ev.now _)
  | cons a wn ih =>
    intro wd hl h40 ha hw k hk
    rcases wd with _ | ⟨w, wd⟩
    · simp at hl
    · have hl' : wn.length = wd.length := by simpa using hl
      have h40' : wn.length ≤ 39 := by simp at h40; omega
      have ha' : ∀ a ∈ wn, -1000 ≤ a ∧ a ≤ 1000 := fun x hx => ha x (List.mem_cons_of_mem _ hx)
      have hw' : ∀ w ∈ wd, 1 ≤ w ∧ w ≤ 40 := fun x hx => hw x (List.mem_cons_of_mem _ hx)
      rw [List.zip_cons_cons, rst_cons] at hk
      simp only [] at hk
      obtain ⟨a0, a1⟩ := ha a (by simp)
      obtain ⟨w0, w1⟩ := hw w (by simp)
      have hr := rst_zip wn wd hl'
      have tail := try_l1 F S hF hFS a w wn wd a0 a1 w0 w1 h40' hl' (okZ ha' hw') (fun k hk => ih wd hl' (by omega) ha' hw' k hk) (F + (k : Int)) (S + 1 - (k + w.toNat + rst (wn.zip wd))) k (by omega) [] (-1) (.inl rfl) (by simp)
      refine Ev.step (fun n => by rw [maskref4_BestRow.f]) (Ev.neg (by simp; omega) (Ev.pos (by simp; omega) ?_))
      show Ev (fun n => maskref4_BestRow.l0 n (a :: wn) (w :: wd) (-1) 0 wd (wd.length : Int) 0 (F + (k : Int)) (F + (S : Int))) _
      refine down (P := fun i => Ev (fun n => maskref4_BestRow.l0 n (a :: wn) (w :: wd) (-1) ((rw_ (wd.take i) : Nat) : Int) wd (wd.length : Int) (i : Int) (F + (k : Int)) (F + (S : Int))) (bp F S ((a :: wn).zip (w :: wd)) k)) wd.length ?_ ?_ 0 (by omega)
      · rw [List.take_length]
        refine Ev.step (fun n => by rw [maskref4_BestRow.l0]) (Ev.neg (by omega) ?_)
        rw [hr] at tail
        refine Ev.eq tail ?_
        rw [if_neg (by omega), if_neg (by omega), List.zip_cons_cons, bp_s, hr, show S + 1 - (k + w.toNat + rw_ wd) - 1 = S - w.toNat - rw_ wd - k by omega]
      · intro i hi ih2
        obtain ⟨d0, d1⟩ := hw' _ (rd_mem' hi)
        have t1 := rw_take wd i
        rw [rw_succ wd i hi] at ih2
        have e1 : Aside0 (wrap64 ((i : Int) + 1) = ((i + 1 : Nat) : Int)) := ⟨ws hi (by omega)⟩
        have e2 : Aside0 (wrap64 (((rw_ (wd.take i) : Nat) : Int) + rd wd (i : Int)) = ((rw_ (wd.take i) + (rd wd (i : Int)).toNat : Nat) : Int)) := ⟨by rw [w64 (by omega) (by omega)]; omega⟩
        refine Ev.step (fun n => by rw [maskref4_BestRow.l0]) (Ev.pos (by omega) (Ev.pos (by omega) (Ev.pos (by omega) ?_)))
        rw [e1.out, e2.out]
        exact ih2

/-! the program: a table of least sums -/
variable (wn wd : List Int) (hl : wn.length = wd.length) (h40 : wn.length ≤ 40) (ha : ∀ a ∈ wn, -1000 ≤ a ∧ a ≤ 1000) (hw : ∀ w ∈ wd, 1 ≤ w ∧ w ≤ 40)
def Zz (wn wd : List Int) (i : Nat) : List (Int × Int) := (wn.drop i).zip (wd.drop i)
omit hF hFS in
theorem zz_cons {wn wd : List Int} (hl : wn.length = wd.length) {i : Nat} (hi : i < wn.length) : Zz wn wd i = (rd wn (i : Int), rd wd (i : Int)) :: Zz wn wd (i + 1) := by
  unfold Zz rd
  rw [Int.toNat_natCast, drop_cons_getD hi 0, drop_cons_getD (by omega : i < wd.length) 0, List.zip_cons_cons]
omit hF hFS in
theorem zz_end {wn wd : List Int} : Zz wn wd wn.length = [] := by unfold Zz; simp
def ent (F : Int) (S : Nat) (wn wd : List Int) (i k : Nat) : Int := if k + rst (Zz wn wd i) ≤ S then (bp F S (Zz wn wd i) k).2 else -1
def vl (F : Int) (S : Nat) (wn wd : List Int) (i k : Nat) : Int := (F + (k : Int) - rd wn (i : Int)) * (F + (k : Int) - rd wn (i : Int)) + (bp F S (Zz wn wd (i + 1)) (k + (rd wd (i : Int)).toNat)).2
include hl h40 ha hw
omit hF hFS in
theorem okZz (i : Nat) : okC (Zz wn wd i) := okZ (fun a h => ha a (List.mem_of_mem_drop h)) (fun w h => hw w (List.mem_of_mem_drop h))
omit hF hFS in
theorem zz_len (i : Nat) : (Zz wn wd i).length ≤ 40 := by unfold Zz; rw [List.length_zip, List.length_drop]; omega
theorem ent_bound (i k : Nat) : -1 ≤ ent F S wn wd i k ∧ ent F S wn wd i k ≤ 46656000 ∧ (k + rst (Zz wn wd i) ≤ S → 0 ≤ ent F S wn wd i k) := by
  have hz := zz_len wn wd hl h40 ha hw i
  unfold ent
  by_cases h : k + rst (Zz wn wd i) ≤ S
  · rw [if_pos h]
    have := bp_bound F S hF hFS _ _ (okZz wn wd hl h40 ha hw i) h
    omega
  · rw [if_neg h]; omega
theorem vl_bound {i k : Nat} (hi : i < wn.length) (h : k + rst (Zz wn wd i) ≤ S) : 0 ≤ vl F S wn wd i k ∧ vl F S wn wd i k ≤ 48000000 := by
  obtain ⟨a0, a1⟩ := ha _ (rd_mem' hi)
  obtain ⟨w0, w1⟩ := hw _ (rd_mem' (by omega : i < wd.length))
  have hz := zz_len wn wd hl h40 ha hw (i + 1)
  rw [zz_cons hl hi, rst_cons] at h
  simp only [] at h
  have b := bp_bound F S hF hFS _ (k + (rd wd (i : Int)).toNat) (okZz wn wd hl h40 ha hw (i + 1)) (by omega)
  obtain ⟨s0, s1⟩ := sq_bound (x := F + (k : Int) - rd wn (i : Int)) (by omega) (by omega)
  unfold vl
  generalize (F + (k : Int) - rd wn (i : Int)) * (F + (k : Int) - rd wn (i : Int)) = sq at s0 s1 ⊢
  omega
theorem ent_step {i m : Nat} (hi : i < wn.length) (hm : m ≤ S) (t : Int) (ht : t = if m < S then ent F S wn wd i (m + 1) else -1) :
    ent F S wn wd i m = if m + rst (Zz wn wd i) ≤ S then (if t < 0 then vl F S wn wd i m else if vl F S wn wd i m ≤ t then vl F S wn wd i m else t) else t := by
  obtain ⟨w0, w1⟩ := hw _ (rd_mem' (by omega : i < wd.length))
  have hr : rst (Zz wn wd i) = (rd wd (i : Int)).toNat + rst (Zz wn wd (i + 1)) := by rw [zz_cons hl hi, rst_cons]
  by_cases h : m + rst (Zz wn wd i) ≤ S
  · rw [if_pos h]
    unfold ent
    rw [if_pos h]
    have hb : ∀ k, bp F S (Zz wn wd i) k = sel (fun p => ((F + (p : Int)) :: (bp F S (Zz wn wd (i + 1)) (p + (rd wd (i : Int)).toNat)).1, (F + (p : Int) - rd wn (i : Int)) * (F + (p : Int) - rd wn (i : Int)) + (bp F S (Zz wn wd (i + 1)) (p + (rd wd (i : Int)).toNat)).2)) k (S - (rd wd (i : Int)).toNat - rst (Zz wn wd (i + 1)) - k) := by
      intro k
      rw [zz_cons hl hi]
      rfl
    rw [hb m]
    by_cases h1 : m + 1 + rst (Zz wn wd i) ≤ S
    · have ht' : t = ent F S wn wd i (m + 1) := by rw [ht, if_pos (by omega)]
      have hp := (ent_bound F S hF hFS wn wd hl h40 ha hw i (m + 1)).2.2 h1
      rw [if_neg (by omega), ht']
      unfold ent
      rw [if_pos h1, hb (m + 1)]
      rw [show S - (rd wd (i : Int)).toNat - rst (Zz wn wd (i + 1)) - m = (S - (rd wd (i : Int)).toNat - rst (Zz wn wd (i + 1)) - (m + 1)) + 1 by omega]
      rw [sel]
      unfold vl
      split <;> rfl
    · have ht' : t = -1 := by
        rw [ht]
        split
        · unfold ent
          rw [if_neg h1]
        · rfl
      rw [if_pos (by omega), show S - (rd wd (i : Int)).toNat - rst (Zz wn wd (i + 1)) - m = 0 by omega]
      rfl
  · rw [if_neg h, ht]
    unfold ent
    rw [if_neg h]
    split
    · rw [if_neg (by omega)]
    · rfl

def Rw (F : Int) (S : Nat) (wn wd : List Int) (X : List (List Int)) (j : Nat) : Prop := (rd_L6 X (j : Int)).length = S + 1 ∧ ∀ k : Nat, k ≤ S → rd (rd_L6 X (j : Int)) (k : Int) = ent F S wn wd j k
theorem cost_ev {i k : Nat} (hi : i < wn.length) (hk : k ≤ S) (X : List (List Int)) (hX : Rw F S wn wd X (i + 1)) :
    legal_cost.f (rd wn (i : Int)) (rd wd (i : Int)) (F + (k : Int)) (rd_L6 X ((i + 1 : Nat) : Int)) F (F + (S : Int)) = some (if k + rst (Zz wn wd i) ≤ S then (vl F S wn wd i k, true) else (0, false)) := by
  obtain ⟨a0, a1⟩ := ha _ (rd_mem' hi)
  obtain ⟨w0, w1⟩ := hw _ (rd_mem' (by omega : i < wd.length))
  obtain ⟨x1, x2⟩ := hX
  have hr : rst (Zz wn wd i) = (rd wd (i : Int)).toNat + rst (Zz wn wd (i + 1)) := by rw [zz_cons hl hi, rst_cons]
  have e1 : Aside0 (wrap64 (wrap64 (F + (k : Int) + rd wd (i : Int)) - F) = ((k + (rd wd (i : Int)).toNat : Nat) : Int)) := ⟨by rw [w64 (x := F + (k : Int) + rd wd (i : Int)) (by omega) (by omega), w64 (by omega) (by omega)]; omega⟩
  unfold legal_cost.f
  rw [e1.out, x1]
  by_cases h1 : k + (rd wd (i : Int)).toNat ≤ S
  · rw [if_neg (by omega), if_pos (by omega), if_pos (by omega), x2 _ h1]
    unfold ent
    by_cases h2 : k + (rd wd (i : Int)).toNat + rst (Zz wn wd (i + 1)) ≤ S
    · have hv := vl_bound F S hF hFS wn wd hl h40 ha hw hi (k := k) (by omega)
      have b := bp_bound F S hF hFS _ _ (okZz wn wd hl h40 ha hw (i + 1)) h2
      obtain ⟨s0, s1⟩ := sq_bound (x := F + (k : Int) - rd wn (i : Int)) (by omega) (by omega)
      rw [if_pos h2, if_neg (by omega), if_pos (by omega)]
      congr 2
      have e2 : Aside0 (wrap64 (F + (k : Int) - rd wn (i : Int)) = F + (k : Int) - rd wn (i : Int)) := ⟨w64 (by omega) (by omega)⟩
      rw [e2.out]
      unfold vl at hv ⊢
      generalize (F + (k : Int) - rd wn (i : Int)) * (F + (k : Int) - rd wn (i : Int)) = sq at s0 s1 hv ⊢
      rw [w64 (x := sq) (by omega) (by omega), w64 (by omega) (by omega)]
    · rw [if_neg h2, if_pos (by omega), if_neg (by omega)]
  · rw [if_pos (by omega), if_neg (by omega)]
omit hF hFS hl h40 ha hw in
theorem rdl_set (X : List (List Int)) (i j : Nat) (R : List Int) (h : i < X.length) : rd_L6 (X.set i R) (j : Int) = if i = j then R else rd_L6 X (j : Int) := by
  unfold rd_L6
  rw [Int.toNat_natCast, List.getD_eq_getElem?_getD, List.getD_eq_getElem?_getD, List.getElem?_set]
  by_cases e : i = j
  · subst e; simp [h]
  · simp [e]
omit hF hFS hl h40 ha hw in
theorem rd_set' (X : List Int) (i j : Nat) (x : Int) (h : i < X.length) : rd (X.set i x) (j : Int) = if i = j then x else rd X (j : Int) := by
  unfold rd
  rw [Int.toNat_natCast, List.getD_eq_getElem?_getD, List.getD_eq_getElem?_getD, List.getElem?_set]
  by_cases e : i = j
  · subst e; simp [h]
  · simp [e]
/-- Rows behind i are made; row i from m on, its entry m being t. -/
def InvT (F : Int) (S : Nat) (wn wd : List Int) (X : List (List Int)) (i m : Nat) : Prop := X.length = wn.length + 1 ∧ (∀ j, i < j → j ≤ wn.length → Rw F S wn wd X j) ∧ (rd_L6 X (i : Int)).length = S + 1 ∧ ∀ k : Nat, m ≤ k → k ≤ S → rd (rd_L6 X (i : Int)) (k : Int) = ent F S wn wd i k
theorem row_j2 {i m : Nat} (hi : i < wn.length) (hm : m ≤ S) (r : List Int × Int) (nx : ∀ X, InvT F S wn wd X i m → Ev (fun n => legal_Row.l1 n wn wd X ((S + 1 : Nat) : Int) (i : Int) ((m : Int) - 1) F (F + (S : Int))) r)
    (X : List (List Int)) (hX : InvT F S wn wd X i (m + 1)) (ht : rd (rd_L6 X (i : Int)) (m : Int) = if m < S then ent F S wn wd i (m + 1) else -1) :
    Ev (fun n => legal_Row.j2 n wn wd X ((S + 1 : Nat) : Int) (i : Int) (m : Int) F (F + (S : Int))) r := by
  obtain ⟨x1, x2, x3, x4⟩ := hX
  have hs := ent_step F S hF hFS wn wd hl h40 ha hw hi hm _ ht
  have e1 : Aside0 (wrap64 ((i : Int) + 1) = ((i + 1 : Nat) : Int)) := ⟨ws hi (by omega)⟩
  have e2 : Aside0 (wrap64 (F + (m : Int)) = F + (m : Int)) := ⟨w64 (by omega) (by omega)⟩
  have e3 : Aside0 (wrap64 ((m : Int) - 1) = (m : Int) - 1) := ⟨w64 (by omega) (by omega)⟩
  have hc := cost_ev F S hF hFS wn wd hl h40 ha hw hi hm X (x2 (i + 1) (by omega) (by omega))
  have keep : rd (rd_L6 X (i : Int)) (m : Int) = ent F S wn wd i m → ∀ v, Ev (fun n => legal_Row.j3 n wn wd X ((S + 1 : Nat) : Int) (i : Int) (m : Int) v false F (F + (S : Int))) r := by
    intro h v
    refine Ev.step (fun n => by rw [legal_Row.j3]) (Ev.neg (by simp) ?_)
    rw [e3.out]
    refine nx X ⟨x1, x2, x3, fun k k1 k2 => ?_⟩
    by_cases e : k = m
    · subst e; exact h
    · exact x4 k (by omega) k2
  have put : ∀ v, v = ent F S wn wd i m → Ev (fun n => legal_Row.j3 n wn wd X ((S + 1 : Nat) : Int) (i : Int) (m : Int) v true F (F + (S : Int))) r := by
    intro v h
    refine Ev.step (fun n => by rw [legal_Row.j3]) (Ev.pos rfl (Ev.pos (by omega) (Ev.pos (by omega) (Ev.pos (by omega) (Ev.pos (by omega) ?_)))))
    rw [e3.out, Int.toNat_natCast, Int.toNat_natCast]
    refine nx _ ⟨by rw [List.length_set, x1], fun j j1 j2 => ?_, ?_, fun k k1 k2 => ?_⟩
    · have := x2 j j1 j2
      unfold Rw at this ⊢
      rw [rdl_set _ _ _ _ (by omega), if_neg (by omega)]
      exact this
    · rw [rdl_set _ _ _ _ (by omega), if_pos rfl, List.length_set, x3]
    · rw [rdl_set _ _ _ _ (by omega), if_pos rfl, rd_set' _ _ _ _ (by omega)]
      by_cases e : m = k
      · subst e; rw [if_pos rfl]; exact h
      · rw [if_neg e]; exact x4 k (by omega) k2
  refine Ev.step (fun n => by rw [legal_Row.j2]) ?_
  rw [e1.out, e2.out]
  refine Ev.pos (by omega) (Ev.pos (by omega) (Ev.pos (by omega) (Ev.pos (by omega) (Ev.pos (by omega) ?_))))
  refine Ev.val hc ?_
  by_cases h : m + rst (Zz wn wd i) ≤ S
  · rw [if_pos h] at hs ⊢
    refine Ev.pos rfl (Ev.pos (by omega) (Ev.pos (by omega) (Ev.pos (by omega) ?_)))
    by_cases h1 : rd (rd_L6 X (i : Int)) (m : Int) < 0
    · rw [if_pos h1] at hs
      exact Ev.pos h1 (put _ hs.symm)
    · rw [if_neg h1] at hs
      refine Ev.neg h1 ?_
      by_cases h2 : vl F S wn wd i m ≤ rd (rd_L6 X (i : Int)) (m : Int)
      · rw [if_pos h2] at hs
        rw [decide_eq_true h2]
        exact put _ hs.symm
      · rw [if_neg h2] at hs
        rw [decide_eq_false h2]
        exact keep hs.symm _
  · rw [if_neg h] at hs ⊢
    exact Ev.neg (by simp) (keep hs.symm _)
theorem row_l1 {i : Nat} (hi : i < wn.length) (r : List Int × Int) (nx : ∀ X, InvT F S wn wd X i 0 → Ev (fun n => legal_Row.l0 n wn wd X ((S + 1 : Nat) : Int) ((i : Int) - 1) F (F + (S : Int))) r) :
    ∀ m : Nat, m ≤ S + 1 → ∀ X, InvT F S wn wd X i m → Ev (fun n => legal_Row.l1 n wn wd X ((S + 1 : Nat) : Int) (i : Int) ((m : Int) - 1) F (F + (S : Int))) r := by
  intro m
  induction m with
  | zero =>
    intro _ X hX
    have e3 : Aside0 (wrap64 ((i : Int) - 1) = (i : Int) - 1) := ⟨w64 (by omega) (by omega)⟩
    refine Ev.step (fun n => by rw [legal_Row.l1]) (Ev.neg (by omega) ?_)
    rw [e3.out]
    exact nx X hX
  | succ m ih =>
    intro hm X hX
    obtain ⟨x1, x2, x3, x4⟩ := hX
    have e0 : ((m + 1 : Nat) : Int) - 1 = (m : Int) := by omega
    have e1 : Aside0 (wrap64 ((m : Int) + 1) = ((m + 1 : Nat) : Int)) := ⟨by rw [w64 (by omega) (by omega)]; omega⟩
    rw [e0]
    have j2 := row_j2 F S hF hFS wn wd hl h40 ha hw hi (by omega : m ≤ S) r (ih (by omega))
    refine Ev.step (fun n => by rw [legal_Row.l1]) (Ev.pos (by omega) (Ev.pos (by omega) (Ev.pos (by omega) (Ev.pos (by omega) (Ev.pos (by omega) ?_)))))
    rw [e1.out, Int.toNat_natCast, Int.toNat_natCast]
    refine Ev.val rfl ?_
    have y0 : rd_L6 (X.set i ((rd_L6 X (i : Int)).set m (-1))) (i : Int) = (rd_L6 X (i : Int)).set m (-1) := by rw [rdl_set _ _ _ _ (by omega), if_pos rfl]
    have yj : ∀ (R : List Int) j, i < j → rd_L6 (X.set i R) (j : Int) = rd_L6 X (j : Int) := fun R j hj => by rw [rdl_set _ _ _ _ (by omega), if_neg (by omega)]
    by_cases h : m < S
    · refine Ev.pos (by omega) (Ev.pos (by omega) (Ev.pos (by rw [y0, List.length_set]; omega) (Ev.pos (by rw [y0, List.length_set]; omega) ?_)))
      rw [y0]
      have hlen : (X.set i ((rd_L6 X (i : Int)).set m (-1))).length = wn.length + 1 := by rw [List.length_set, x1]
      refine j2 _ ⟨by rw [List.length_set, hlen], fun j j1 j3 => ?_, ?_, fun k k1 k2 => ?_⟩ ?_
      · have := x2 j j1 j3
        unfold Rw at this ⊢
        rw [rdl_set _ _ _ _ (by omega), if_neg (by omega), yj _ _ j1]
        exact this
      · rw [rdl_set _ _ _ _ (by omega), if_pos rfl, List.length_set, List.length_set, x3]
      · rw [rdl_set _ _ _ _ (by omega), if_pos rfl, rd_set' _ _ _ _ (by rw [List.length_set]; omega), if_neg (by omega), rd_set' _ _ _ _ (by omega), if_neg (by omega)]
        exact x4 k k1 k2
      · rw [rdl_set _ _ _ _ (by omega), if_pos rfl, rd_set' _ _ _ _ (by rw [List.length_set]; omega), if_pos rfl, if_pos h, rd_set' _ _ _ _ (by omega), if_neg (by omega)]
        exact x4 (m + 1) (Nat.le_refl _) (by omega)
    · refine Ev.neg (by omega) (j2 _ ⟨by rw [List.length_set, x1], fun j j1 j3 => ?_, ?_, fun k k1 k2 => ?_⟩ ?_)
      · have := x2 j j1 j3
        unfold Rw at this ⊢
        rw [yj _ _ j1]
        exact this
      · rw [y0, List.length_set, x3]
      · omega
      · rw [y0, rd_set' _ _ _ _ (by omega), if_pos rfl, if_neg h]
/-- Rows i and on are made. -/
def InvR (F : Int) (S : Nat) (wn wd : List Int) (X : List (List Int)) (i : Nat) : Prop := X.length = wn.length + 1 ∧ ∀ j, i ≤ j → j ≤ wn.length → Rw F S wn wd X j
theorem bp_at {i at_ d : Nat} (hi : i < wn.length) (h : at_ + rst (Zz wn wd i) + d = S) :
    ent F S wn wd i at_ = (bp F S (Zz wn wd i) at_).2 ∧ (vl F S wn wd i at_ = ent F S wn wd i at_ → bp F S (Zz wn wd i) at_ = ((F + (at_ : Int)) :: (bp F S (Zz wn wd (i + 1)) (at_ + (rd wd (i : Int)).toNat)).1, vl F S wn wd i at_)) ∧ (vl F S wn wd i at_ ≠ ent F S wn wd i at_ → d ≠ 0 ∧ bp F S (Zz wn wd i) at_ = bp F S (Zz wn wd i) (at_ + 1)) := by
  have hr : rst (Zz wn wd i) = (rd wd (i : Int)).toNat + rst (Zz wn wd (i + 1)) := by rw [zz_cons hl hi, rst_cons]
  have e0 : ent F S wn wd i at_ = (bp F S (Zz wn wd i) at_).2 := by unfold ent; rw [if_pos (by omega)]
  refine ⟨e0, ?_⟩
  rw [e0]
  generalize hf : (fun p : Nat => ((F + (p : Int)) :: (bp F S (Zz wn wd (i + 1)) (p + (rd wd (i : Int)).toNat)).1, (F + (p : Int) - rd wn (i : Int)) * (F + (p : Int) - rd wn (i : Int)) + (bp F S (Zz wn wd (i + 1)) (p + (rd wd (i : Int)).toNat)).2)) = f
  have hb : ∀ k, bp F S (Zz wn wd i) k = sel f k (S - (rd wd (i : Int)).toNat - rst (Zz wn wd (i + 1)) - k) := by
    intro k
    rw [zz_cons hl hi, ← hf]
    rfl
  have hv : f at_ = ((F + (at_ : Int)) :: (bp F S (Zz wn wd (i + 1)) (at_ + (rd wd (i : Int)).toNat)).1, vl F S wn wd i at_) := by rw [← hf]; rfl
  rw [← hv, hb at_, hb (at_ + 1)]
  have hv2 : vl F S wn wd i at_ = (f at_).2 := by rw [hv]
  rw [hv2]
  rcases d with _ | d
  · rw [show S - (rd wd (i : Int)).toNat - rst (Zz wn wd (i + 1)) - at_ = 0 by omega, sel_0]
    exact ⟨fun _ => rfl, fun h => absurd rfl h⟩
  · rw [show S - (rd wd (i : Int)).toNat - rst (Zz wn wd (i + 1)) - at_ = (S - (rd wd (i : Int)).toNat - rst (Zz wn wd (i + 1)) - (at_ + 1)) + 1 by omega, sel_s]
    by_cases hc : (f at_).2 ≤ (sel f (at_ + 1) (S - (rd wd (i : Int)).toNat - rst (Zz wn wd (i + 1)) - (at_ + 1))).2
    · rw [if_pos hc]
      exact ⟨fun _ => rfl, fun h => absurd rfl h⟩
    · rw [if_neg hc]
      exact ⟨fun h => by omega, fun _ => ⟨by omega, rfl⟩⟩
theorem row_l2 (X : List (List Int)) (hX : InvR F S wn wd X 0) : ∀ i, i ≤ wn.length → ∀ (k : Nat) (out : List Int), k + rst (Zz wn wd i) ≤ S → out.length = i → Ev (fun n => legal_Row.l2 n wn wd X out (k : Int) (wn.length : Int) (i : Int) F (F + (S : Int))) (out ++ (bp F S (Zz wn wd i) k).1, 0) := by
  obtain ⟨x1, x2⟩ := hX
  refine down wn.length ?_ ?_
  · intro k out hk ho
    refine Ev.step (fun n => by rw [legal_Row.l2]) (Ev.neg (by omega) ?_)
    rw [zz_end]
    refine Ev.eq (Ev.now _) ?_
    rw [bp, List.append_nil]
  · intro i hi ih k out hk ho
    obtain ⟨w0, w1⟩ := hw _ (rd_mem' (by omega : i < wd.length))
    have hr : rst (Zz wn wd i) = (rd wd (i : Int)).toNat + rst (Zz wn wd (i + 1)) := by rw [zz_cons hl hi, rst_cons]
    obtain ⟨r1, r2⟩ := x2 i (by omega) (by omega)
    have e1 : Aside0 (wrap64 ((i : Int) + 1) = ((i + 1 : Nat) : Int)) := ⟨ws hi (by omega)⟩
    have l3 : ∀ d a : Nat, a + rst (Zz wn wd i) + d = S → Ev (fun n => legal_Row.l3 n wn wd X out (a : Int) (i : Int) (wn.length : Int) (i : Int) F (F + (S : Int))) (out ++ (bp F S (Zz wn wd i) a).1, 0) := by
      intro d
      induction d with
      | zero =>
        intro a ha2
        obtain ⟨y1, y2, y3⟩ := bp_at F S hF hFS wn wd hl h40 ha hw (at_ := a) hi ha2
        have e2 : Aside0 (wrap64 (F + (a : Int)) = F + (a : Int)) := ⟨w64 (by omega) (by omega)⟩
        have e3 : Aside0 (wrap64 ((a : Int) + rd wd (i : Int)) = ((a + (rd wd (i : Int)).toNat : Nat) : Int)) := ⟨by rw [w64 (by omega) (by omega)]; omega⟩
        have hc := cost_ev F S hF hFS wn wd hl h40 ha hw hi (by omega : a ≤ S) X (x2 (i + 1) (by omega) (by omega))
        rw [if_pos (by omega)] at hc
        have hv : vl F S wn wd i a = ent F S wn wd i a := Decidable.byContradiction fun h => (y3 h).1 rfl
        refine Ev.step (fun n => by rw [legal_Row.l3]) ?_
        rw [e1.out, e2.out]
        refine Ev.pos (by omega) (Ev.pos (by omega) (Ev.pos (by omega) (Ev.pos (by omega) (Ev.pos (by omega) ?_))))
        refine Ev.val hc (Ev.pos rfl (Ev.pos (by omega) (Ev.pos (by omega) (Ev.pos (by omega) ?_))))
        rw [r2 a (by omega), beq_iff_eq.2 hv]
        refine Ev.step (fun n => by rw [legal_Row.j6]) (Ev.pos rfl (Ev.pos (by omega) (Ev.pos (by omega) (Ev.pos (by omega) ?_))))
        rw [e1.out, e2.out, e3.out, y2 hv]
        refine Ev.eq (ih _ _ (by omega) (by rw [List.length_append, ho]; rfl)) ?_
        rw [List.append_assoc]
        rfl
      | succ d ih2 =>
        intro a ha2
        obtain ⟨y1, y2, y3⟩ := bp_at F S hF hFS wn wd hl h40 ha hw (at_ := a) hi ha2
        have e2 : Aside0 (wrap64 (F + (a : Int)) = F + (a : Int)) := ⟨w64 (by omega) (by omega)⟩
        have e3 : Aside0 (wrap64 ((a : Int) + rd wd (i : Int)) = ((a + (rd wd (i : Int)).toNat : Nat) : Int)) := ⟨by rw [w64 (by omega) (by omega)]; omega⟩
        have e4 : Aside0 (wrap64 ((a : Int) + 1) = ((a + 1 : Nat) : Int)) := ⟨ws (n := S) (by omega) (by omega)⟩
        have hc := cost_ev F S hF hFS wn wd hl h40 ha hw hi (by omega : a ≤ S) X (x2 (i + 1) (by omega) (by omega))
        rw [if_pos (by omega)] at hc
        refine Ev.step (fun n => by rw [legal_Row.l3]) ?_
        rw [e1.out, e2.out]
        refine Ev.pos (by omega) (Ev.pos (by omega) (Ev.pos (by omega) (Ev.pos (by omega) (Ev.pos (by omega) ?_))))
        refine Ev.val hc (Ev.pos rfl (Ev.pos (by omega) (Ev.pos (by omega) (Ev.pos (by omega) ?_))))
        rw [r2 a (by omega)]
        by_cases hv : vl F S wn wd i a = ent F S wn wd i a
        · rw [beq_iff_eq.2 hv]
          refine Ev.step (fun n => by rw [legal_Row.j6]) (Ev.pos rfl (Ev.pos (by omega) (Ev.pos (by omega) (Ev.pos (by omega) ?_))))
          rw [e1.out, e2.out, e3.out, y2 hv]
          refine Ev.eq (ih _ _ (by omega) (by rw [List.length_append, ho]; rfl)) ?_
          rw [List.append_assoc]
          rfl
        · rw [beq_eq_false_iff_ne.2 hv]
          refine Ev.step (fun n => by rw [legal_Row.j6]) (Ev.neg (by simp) ?_)
          rw [e4.out, (y3 hv).2]
          exact ih2 (a + 1) (by omega)
    refine Ev.step (fun n => by rw [legal_Row.l2]) (Ev.pos (by omega) ?_)
    exact l3 (S - (k + rst (Zz wn wd i))) k (by omega)
theorem row_l0 (hz : rst (Zz wn wd 0) ≤ S) : ∀ i, i ≤ wn.length → ∀ X, InvR F S wn wd X i → Ev (fun n => legal_Row.l0 n wn wd X ((S + 1 : Nat) : Int) ((i : Int) - 1) F (F + (S : Int))) ((bp F S (Zz wn wd 0) 0).1, 0) := by
  intro i
  induction i with
  | zero =>
    intro _ X hX
    refine Ev.step (fun n => by rw [legal_Row.l0]) (Ev.neg (by omega) ?_)
    exact row_l2 F S hF hFS wn wd hl h40 ha hw X hX 0 (by omega) 0 [] (by omega) rfl
  | succ i ih =>
    intro hi X hX
    obtain ⟨x1, x2⟩ := hX
    rw [show ((i + 1 : Nat) : Int) - 1 = (i : Int) by omega]
    have e1 : Aside0 (wrap64 (((S + 1 : Nat) : Int) - 1) = ((S + 1 : Nat) : Int) - 1) := ⟨w64 (by omega) (by omega)⟩
    refine Ev.step (fun n => by rw [legal_Row.l0]) (Ev.pos (by omega) (Ev.pos (by omega) (Ev.pos (by omega) (Ev.pos (by omega) (Ev.pos (by omega) ?_)))))
    rw [e1.out, Int.toNat_natCast, Int.toNat_natCast]
    refine row_l1 F S hF hFS wn wd hl h40 ha hw hi _ (fun Y hY => ?_) (S + 1) (Nat.le_refl _) _ ⟨by rw [List.length_set, x1], fun j j1 j2 => ?_, ?_, fun k k1 k2 => ?_⟩
    · obtain ⟨y1, y2, y3, y4⟩ := hY
      refine ih (by omega) Y ⟨y1, fun j j1 j2 => ?_⟩
      by_cases e : i = j
      · subst e; exact ⟨y3, fun k hk => y4 k (by omega) hk⟩
      · exact y2 j (by omega) j2
    · have := x2 j (by omega) j2
      unfold Rw at this ⊢
      rw [rdl_set _ _ _ _ (by omega), if_neg (by omega)]
      exact this
    · rw [rdl_set _ _ _ _ (by omega), if_pos rfl, List.length_replicate]
    · omega
end

/-! the faults -/
theorem rw_le : ∀ wd : List Int, (∀ w ∈ wd, w ≤ 40) → rw_ wd ≤ 40 * wd.length := by
  intro wd
  induction wd with
  | nil => intro _; simp [rw_]
  | cons w wd ih =>
    intro h
    have h1 := ih (fun x hx => h x (List.mem_cons_of_mem _ hx))
    have h2 := h w (by simp)
    show (w.toNat + (wd.map Int.toNat).sum) ≤ _
    unfold rw_ at h1
    rw [List.length_cons]
    omega
theorem fault_l1 (wd : List Int) (h : wd.length ≤ 40) (hw : ∀ w ∈ wd, 1 ≤ w ∧ w ≤ 40) (R : Int) (r0 : 0 ≤ R) (r1 : R ≤ 40) : Ev (fun n => maskref4_RowFault.l1 n R wd (wd.length : Int) 0) (if R < ((rw_ wd : Nat) : Int) then 14 else 0) := by
  have hle := rw_le wd (fun w hw' => (hw w hw').2)
  have key := down (P := fun i => Ev (fun n => maskref4_RowFault.l1 n (R - ((rw_ (wd.take i) : Nat) : Int)) wd (wd.length : Int) (i : Int)) (if R < ((rw_ wd : Nat) : Int) then 14 else 0)) wd.length ?_ ?_ 0 (by omega)
  · refine Ev.congr (fun n => ?_) key
    rw [List.take_zero, show rw_ [] = 0 from rfl, show R - ((0 : Nat) : Int) = R by omega]
    rfl
  · rw [List.take_length]
    refine Ev.step (fun n => by rw [maskref4_RowFault.l1]) (Ev.neg (by omega) ?_)
    by_cases hc : R < ((rw_ wd : Nat) : Int)
    · rw [if_pos hc]; exact Ev.pos (by omega) (Ev.now _)
    · rw [if_neg hc]; exact Ev.neg (by omega) (Ev.now _)
  · intro i hi ih
    obtain ⟨d0, d1⟩ := hw _ (rd_mem' hi)
    have t1 := rw_take wd i
    rw [rw_succ wd i hi] at ih
    have e1 : Aside0 (wrap64 ((i : Int) + 1) = ((i + 1 : Nat) : Int)) := ⟨ws hi (by omega)⟩
    have e2 : Aside0 (wrap64 (R - ((rw_ (wd.take i) : Nat) : Int) - rd wd (i : Int)) = R - ((rw_ (wd.take i) + (rd wd (i : Int)).toNat : Nat) : Int)) := ⟨by rw [w64 (by omega) (by omega)]; omega⟩
    refine Ev.step (fun n => by rw [maskref4_RowFault.l1]) (Ev.pos (by omega) (Ev.pos (by omega) (Ev.pos (by omega) ?_)))
    rw [e1.out, e2.out]
    exact ih
theorem in_eq (x lo hi : Int) : maskref4_In.f x lo hi = some (decide (lo ≤ x ∧ x ≤ hi)) := by
  unfold maskref4_In.f
  by_cases h : lo ≤ x <;> simp [h]
/-- What stands when a row has no fault. -/
def Good (wn wd : List Int) (F T : Int) : Prop := wn.length = wd.length ∧ wn.length ≤ 40 ∧ (∀ a ∈ wn, -1000 ≤ a ∧ a ≤ 1000) ∧ (∀ w ∈ wd, 1 ≤ w ∧ w ≤ 40) ∧ 0 ≤ F ∧ F ≤ T ∧ T ≤ 40 ∧ ((rw_ wd : Nat) : Int) ≤ T - F
theorem all_rd {l : List Int} {p : Int → Prop} (h : ∀ j : Nat, j < l.length → p (rd l (j : Int))) : ∀ x ∈ l, p x := by
  intro x hx
  obtain ⟨j, hj, e⟩ := List.getElem_of_mem hx
  have := h j hj
  unfold rd at this
  rw [Int.toNat_natCast, List.getD_eq_getElem?_getD, List.getElem?_eq_getElem hj] at this
  rw [← e]
  exact this
theorem row_loop (wn wd : List Int) (F T : Int) (hl : wn.length = wd.length) (h40 : wn.length ≤ 40) (f0 : 0 ≤ F) (f1 : F ≤ T) (f2 : T ≤ 40) : ∀ d i : Nat, i + d = wn.length → (∀ j : Nat, j < i → (-1000 ≤ rd wn (j : Int) ∧ rd wn (j : Int) ≤ 1000) ∧ (1 ≤ rd wd (j : Int) ∧ rd wd (j : Int) ≤ 40)) → rw_ (wd.take i) ≤ 40 * i →
    Two (fun e => e = 0 → Good wn wd F T) (fun n => legal_checkRow.l0 n wn ((rw_ (wd.take i) : Nat) : Int) wd (wd.length : Int) (i : Int) F T) (fun n => maskref4_RowFault.l0 n wn wd (T - F) (wn.length : Int) (i : Int)) := by
  intro d
  induction d with
  | zero =>
    intro i hi hg hb
    obtain rfl : i = wn.length := by omega
    have hw : ∀ w ∈ wd, 1 ≤ w ∧ w ≤ 40 := all_rd (fun j hj => (hg j (by omega)).2)
    have ha : ∀ a ∈ wn, -1000 ≤ a ∧ a ≤ 1000 := all_rd (fun j hj => (hg j (by omega)).1)
    have ew : Aside0 (wrap64 (T - F) = T - F) := ⟨w64 (by omega) (by omega)⟩
    have hf := fault_l1 wd (by omega) hw (T - F) (by omega) (by omega)
    rw [show wd.take wn.length = wd by rw [hl, List.take_length]]
    refine Two.of (r := if T - F < ((rw_ wd : Nat) : Int) then 14 else 0) ?_ ?_ ?_
    · refine Ev.step (fun n => by rw [legal_checkRow.l0]) (Ev.neg (by omega) ?_)
      rw [ew.out]
      by_cases hc : T - F < ((rw_ wd : Nat) : Int)
      · rw [if_pos hc, if_pos hc]; exact Ev.now _
      · rw [if_neg hc, if_neg hc]; exact Ev.now _
    · exact Ev.step (fun n => by rw [maskref4_RowFault.l0]) (Ev.neg (by omega) hf)
    · intro h
      refine ⟨hl, h40, ha, hw, f0, f1, f2, ?_⟩
      by_cases hc : T - F < ((rw_ wd : Nat) : Int)
      · rw [if_pos hc] at h; omega
      · omega
  | succ d ih =>
    intro i hi hg hb
    have t1 := rw_take wd i
    have e1 : Aside0 (wrap64 ((i : Int) + 1) = ((i + 1 : Nat) : Int)) := ⟨ws (n := wn.length) (by omega) (by omega)⟩
    have two : ∀ {g f : Nat → Option Int}, Ev g 2 → Ev f 2 → Two (fun e => e = 0 → Good wn wd F T) g f := fun h k => Two.of h k (by intro h; cases h)
    refine Both.step (fun n => by rw [legal_checkRow.l0]) (fun n => by rw [maskref4_RowFault.l0]) ?_
    rw [e1.out]
    refine Both.posl (by omega) (Both.posl (by omega) (Both.posl (by omega) (Both.posr (by omega) (Both.posr (by omega) (Both.posr (by omega) ?_)))))
    rw [in_eq, in_eq]
    simp only [Option.bind_some]
    by_cases g1 : rd wd (i : Int) < 1
    · refine two (Ev.pos g1 (Ev.now _)) (Ev.neg ?_ (Ev.now _))
      simp; omega
    · refine Both.negl g1 ?_
      by_cases g2 : rd wd (i : Int) > 40
      · refine two (Ev.pos g2 (Ev.now _)) (Ev.neg ?_ (Ev.now _))
        simp; omega
      · refine Both.negl g2 (Both.posl (by omega) (Both.posr ?_ (Both.posr (by omega) ?_)))
        · simp; omega
        · by_cases g3 : rd wn (i : Int) < -1000
          · refine two (Ev.pos g3 (Ev.now _)) (Ev.neg ?_ (Ev.now _))
            simp; omega
          · refine Both.negl g3 ?_
            by_cases g4 : rd wn (i : Int) > 1000
            · refine two (Ev.pos g4 (Ev.now _)) (Ev.neg ?_ (Ev.now _))
              simp; omega
            · refine Both.negl g4 (Both.posr ?_ ?_)
              · simp; omega
              · have rs := rw_succ wd i (by omega)
                have e2 : Aside0 (wrap64 (((rw_ (wd.take i) : Nat) : Int) + rd wd (i : Int)) = ((rw_ (wd.take (i + 1)) : Nat) : Int)) := ⟨by rw [w64 (by omega) (by omega)]; omega⟩
                rw [e2.out]
                refine ih (i + 1) (by omega) (fun j hj => ?_) (by omega)
                by_cases e : j = i
                · subst e; omega
                · exact hg j (by omega)
theorem row_same (wn wd : List Int) (F T : Int) (n1 : wn.length ≤ 9223372036854775807) (gF : GI .i64 F) (gT : GI .i64 T) : Two (fun e => e = 0 → Good wn wd F T) (fun n => legal_checkRow.f n wn wd F T) (fun n => maskref4_RowFault.f n wn wd F T) := by
  unfold legal_checkRow.f maskref4_RowFault.f
  by_cases hl : wn.length = wd.length
  · refine Both.pos (by omega) ?_
    have bad : Two (fun e => e = 0 → Good wn wd F T) (fun n => legal_checkRow.j0 n wn wd true F T) (fun n => maskref4_RowFault.j0 n wn wd true F T) :=
      Both.step (fun n => by rw [legal_checkRow.j0]) (fun n => by rw [maskref4_RowFault.j0]) (Both.pos rfl (Two.now _ (by intro h; cases h)))
    by_cases g1 : F < 0
    · exact Both.pos g1 bad
    · refine Both.neg g1 ?_
      by_cases g2 : T < F
      · exact Both.posl g2 (Both.posr g2 bad)
      · refine Both.negl g2 (Both.negr g2 ?_)
        by_cases g3 : T > 40
        · rw [decide_eq_true g3]; exact bad
        · rw [decide_eq_false g3]
          refine Both.step (fun n => by rw [legal_checkRow.j0]) (fun n => by rw [maskref4_RowFault.j0]) (Both.neg (by simp) ?_)
          by_cases g4 : (wn.length : Int) > 40
          · exact Both.pos g4 (Two.now _ (by intro h; cases h))
          · refine Both.neg g4 ?_
            have ew : Aside0 (wrap64 (T - F) = T - F) := ⟨w64 (by omega) (by omega)⟩
            rw [ew.out]
            exact row_loop wn wd F T hl (by omega) (by omega) (by omega) (by omega) wn.length 0 (by omega) (fun j hj => by omega) (by simp [rw_])
  · exact Both.neg (by omega) (Two.now _ (by intro h; cases h))
theorem eq_self_ev (l : List Int) (h : l.length ≤ 9223372036854775807) : Ev (fun n => slices_Equal_int_int.f n l l) true := by
  unfold slices_Equal_int_int.f
  refine Ev.pos rfl (down (P := fun i => Ev (fun n => slices_Equal_int_int.l0 n l l (l.length : Int) (i : Int)) true) l.length ?_ ?_ 0 (by omega))
  · exact Ev.step (fun n => by rw [slices_Equal_int_int.l0]) (Ev.neg (by omega) (Ev.now _))
  · intro i hi ih
    have e1 : Aside0 (wrap64 ((i : Int) + 1) = ((i + 1 : Nat) : Int)) := ⟨ws hi (by omega)⟩
    refine Ev.step (fun n => by rw [slices_Equal_int_int.l0]) (Ev.pos (by omega) (Ev.pos (by omega) (Ev.pos (by omega) (Ev.pos (by omega) (Ev.pos rfl ?_)))))
    rw [e1.out]
    exact ih
theorem zz_0 (wn wd : List Int) : Zz wn wd 0 = wn.zip wd := rfl
theorem row_ev (wn wd : List Int) (F T : Int) (h : Good wn wd F T) (hc : Ev (fun n => legal_checkRow.f n wn wd F T) 0) : Ev (fun n => legal_Row.f n wn wd F T) ((bp F (T - F).toNat (wn.zip wd) 0).1, 0) := by
  obtain ⟨hl, h40, ha, hw, f0, f1, f2, hs⟩ := h
  obtain ⟨S, rfl⟩ : ∃ S : Nat, T = F + (S : Int) := ⟨(T - F).toNat, by omega⟩
  rw [show (F + (S : Int) - F).toNat = S by omega]
  have hr := rst_zip wn wd hl
  have e1 : Aside0 (wrap64 ((wn.length : Int) + 1) = ((wn.length + 1 : Nat) : Int)) := ⟨by rw [w64 (by omega) (by omega)]; omega⟩
  have e2 : Aside0 (wrap64 (wrap64 (F + (S : Int) - F) + 1) = ((S + 1 : Nat) : Int)) := ⟨by rw [w64 (x := F + (S : Int) - F) (by omega) (by omega), w64 (by omega) (by omega)]; omega⟩
  have e3 : Aside0 (wrap64 ((wn.length : Int) - 1) = (wn.length : Int) - 1) := ⟨w64 (by omega) (by omega)⟩
  unfold legal_Row.f
  refine Ev.bind hc (Ev.pos rfl ?_)
  rw [e1.out, e2.out, e3.out, Int.toNat_natCast, Int.toNat_natCast, Int.toNat_natCast]
  refine Ev.pos (by omega) (Ev.pos (by omega) (Ev.val rfl (Ev.pos (by omega) (Ev.pos (by omega) (Ev.pos (by omega) (Ev.pos (by rw [List.length_replicate]; omega) ?_))))))
  rw [← zz_0 wn wd]
  refine row_l0 F S f0 (by omega) wn wd hl h40 ha hw (by rw [zz_0]; omega) wn.length (Nat.le_refl _) _ ⟨by rw [List.length_set, List.length_replicate], fun j j1 j2 => ?_⟩
  obtain rfl : j = wn.length := by omega
  unfold Rw
  rw [rdl_set _ _ _ _ (by rw [List.length_replicate]; omega), if_pos rfl]
  refine ⟨List.length_replicate, fun k hk => ?_⟩
  unfold ent rd
  rw [zz_end, Int.toNat_natCast, List.getD_eq_getElem?_getD, List.getElem?_replicate, if_pos (by omega), if_pos (by show k + 0 ≤ S; omega)]
  rfl
theorem rows_row : legal_Row.f 200 [2, 2] [2, 2] 0 10 = some ([1, 3], 0) := by decide +kernel
theorem rows_eq : slices_Equal_int_int.f 200 [1, 3] [1, 3] = some true := by decide +kernel
theorem rows_work : Ev (fun k => masklaw4_rows.f k) true := by
  refine Ev.of (fun k => masklaw4_rows.mono k) (k := 200) ?_
  unfold masklaw4_rows.f
  rw [rows_row]
  simp only [Option.bind_some]
  rw [show masklaw4_floors.f = some true from rfl]
  simp only [Option.bind_some, if_true]
  rw [rows_eq]
  rfl
theorem LegalRows : SLegalRows.Pure := by
  intro wn wd F T gn gd gF gT
  obtain ⟨e, c1, c2, hg⟩ := row_same wn wd F T gn.2.1 gF gT
  refine Ev.rounds (g := fun k => masklaw4_LegalRows.f k wn wd F T) ?_
  unfold masklaw4_LegalRows.f
  refine Ev.bind rows_work (Ev.pos rfl ?_)
  by_cases h0 : e = 0
  · subst h0
    have good := hg rfl
    have hR := row_ev wn wd F T good c1
    obtain ⟨hl, h40, ha, hw, f0, f1, f2, hs⟩ := good
    obtain ⟨S, rfl⟩ : ∃ S : Nat, T = F + (S : Int) := ⟨(T - F).toNat, by omega⟩
    rw [show (F + (S : Int) - F).toNat = S by omega] at hR
    have hr := rst_zip wn wd hl
    have hlen : (bp F S (wn.zip wd) 0).1.length = wn.length := by rw [bp_len, List.length_zip]; omega
    have hB := best_ev F S f0 (by omega) wn wd hl h40 ha hw 0 (by omega)
    rw [show F + ((0 : Nat) : Int) = F by omega] at hB
    refine Ev.bind hR (Ev.bind c2 (Ev.pos rfl (Ev.pos rfl ?_)))
    rw [hlen, bne_self_eq_false]
    refine Ev.step (fun n => by rw [masklaw4_LegalRows.j0]) (Ev.neg (by simp) ?_)
    have fine : Ev (fun n => masklaw4_LegalRows.j1 n wn wd (bp F S (wn.zip wd) 0).1 true F (F + (S : Int))) true :=
      Ev.step (fun n => by rw [masklaw4_LegalRows.j1]) (Ev.pos rfl (Ev.now _))
    by_cases g1 : (wn.length : Int) > 4
    · exact Ev.pos g1 fine
    · refine Ev.neg g1 ?_
      by_cases g2 : wrap64 (F + (S : Int) - F) > 14
      · rw [decide_eq_true g2]; exact fine
      · rw [decide_eq_false g2]
        refine Ev.step (fun n => by rw [masklaw4_LegalRows.j1]) (Ev.neg (by simp) ?_)
        exact Ev.bind hB (Ev.bind (eq_self_ev _ (by show (bp F S (wn.zip wd) 0).1.length ≤ _; omega)) (Ev.now _))
  · have hR : Ev (fun n => legal_Row.f n wn wd F T) (([] : List Int), e) := by
      unfold legal_Row.f
      exact Ev.bind c1 (Ev.neg h0 (Ev.now _))
    refine Ev.bind hR (Ev.bind c2 (Ev.neg h0 (Ev.pos rfl ?_)))
    exact Ev.now _
end Go.Proofs.Ytgajgnemfccnhaa.Pure
