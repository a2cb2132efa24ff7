/- What is wrong with limits, by the reference: the same as by clocks.Check's plain function. No conditions. -/
import Derived.Test.YtlegjcagkmjfjaaDoorStmTimingChecks
import Derived.Test.YtlegjcagkmjfjaaDoorAid
-- NEEDS maskref4_LimitsFault
namespace Go.Proofs.YtlegjcagkmjfjaaDoor.LTimingChecks
open Go.RowKit Go.Proofs.YtlegjcagkmjfjaaDoorW.PrintWords Go.Proofs.YtlegjcagkmjfjaaDoor.Opn Go.Proofs.YtlegjcagkmjfjaaDoor.PT Go.Proofs.YtlegjcagkmjfjaaDoor.STimingChecks Go.Proofs.YtlegjcagkmjfjaaDoor.Aid
set_option linter.unusedVariables false

def prB (s : ByteArray) : Bool := (List.range s.size).all (fun j => chB (bt s (j : Int))) && decide (s.size ≤ 128)
theorem chB_lt {c : Int} (h : c < 33) : chB c = false := by unfold chB; rw [decide_eq_false (by omega)]; rfl
theorem chB_gt {c : Int} (h : c > 126) : chB c = false := by unfold chB; rw [decide_eq_false (p := c ≤ 126) (by omega), Bool.and_false]
theorem chB_in {c : Int} (h : ¬ c < 33) (h' : ¬ c > 126) : chB c = true := by unfold chB; rw [decide_eq_true (by omega), decide_eq_true (by omega)]; rfl
theorem pr_ev (s : ByteArray) (hs : s.size ≤ 140737488351232) : Ev (fun k => maskref4_Printed.f k s) (prB s) := by
  have key := down (P := fun i => Ev (fun k => maskref4_Printed.l0 k s (i : Int)) ((List.range' i (s.size - i)).all (fun j => chB (bt s (j : Int))) && decide (s.size ≤ 128))) s.size ?_ ?_ 0 (by omega)
  · unfold maskref4_Printed.f prB
    rw [List.range_eq_range']
    exact key
  · refine Ev.step (f := fun k => _) (fun k => by rw [maskref4_Printed.l0]) (Ev.neg (by omega) ?_)
    rw [Nat.sub_self, List.range'_zero, List.all_nil, Bool.true_and, show decide ((s.size : Int) ≤ 128) = decide (s.size ≤ 128) from decide_eq_decide.mpr (by omega)]
    exact Ev.now _
  · intro i hi ih
    refine Ev.step (f := fun k => _) (fun k => by rw [maskref4_Printed.l0]) (Ev.pos (by omega) (Ev.pos (by omega) ?_))
    rw [ws hi (by omega), show s.size - i = (s.size - (i + 1)) + 1 by omega, List.range'_succ, List.all_cons]
    by_cases c1 : bt s (i : Int) < 33
    · refine Ev.pos c1 ?_
      rw [chB_lt c1]
      exact Ev.now _
    · refine Ev.neg c1 ?_
      by_cases c2 : bt s (i : Int) > 126
      · refine Ev.pos c2 ?_
        rw [chB_gt c2]
        exact Ev.now _
      · refine Ev.neg c2 ?_
        rw [chB_in c1 c2, Bool.true_and]
        exact ih
theorem pr_nm (s : ByteArray) : prB s = ((s.size == 0) || nmB s) := by
  unfold prB nmB
  by_cases h : s.size = 0
  · rw [h]; rfl
  · rw [decide_eq_true (p := 0 < s.size) (by omega), beq_eq_false_iff_ne.mpr h]
    simp
theorem name_ev (s : ByteArray) (hs : s.size ≤ 140737488351232) : Ev (fun k => maskref4_name.f k s) (nmB s) := by
  unfold maskref4_name.f
  by_cases h : s.toList = ([] : List UInt8)
  · refine Ev.pos h ?_
    have h0 := (ba_nil s).mp h
    rw [show nmB s = false by unfold nmB; rw [h0]; rfl]
    exact Ev.now _
  · refine Ev.neg h (Ev.bind (pr_ev s hs) ?_)
    have h0 : ¬ s.size = 0 := fun e => h ((ba_nil s).mpr e)
    rw [pr_nm, beq_eq_false_iff_ne.mpr h0, Bool.false_or]
    exact Ev.now _

section
variable {p : Int} {l1 : List S78} {l2 : List S81} {l3 : List S83}
/-- The first thing that is wrong from i on; else what comes behind. -/
def nxt (f : Nat → Int) (n i : Nat) (r : Int) : Int := if firstErr f (n - i) i = 0 then r else firstErr f (n - i) i
theorem nxt_end (f : Nat → Int) (n : Nat) (r : Int) : nxt f n n r = r := by unfold nxt; rw [Nat.sub_self]; rfl
theorem nxt_ok {f : Nat → Int} {n i : Nat} {r : Int} (hi : i < n) (h : f i = 0) : nxt f n i r = nxt f n (i + 1) r := by
  unfold nxt
  rw [show n - i = (n - (i + 1)) + 1 by omega, firstErr, if_pos h]
theorem nxt_bad {f : Nat → Int} {n i : Nat} {r : Int} (hi : i < n) (h : f i ≠ 0) : nxt f n i r = f i := by
  unfold nxt
  rw [show n - i = (n - (i + 1)) + 1 by omega, firstErr, if_neg h, if_neg h]
theorem in_ev (a lo hi : Int) : maskref4_In.f a lo hi = some (decide (lo ≤ a) && decide (a ≤ hi)) := by
  unfold maskref4_In.f
  by_cases h : lo ≤ a
  · rw [if_pos h, decide_eq_true h]; rfl
  · rw [if_neg h, decide_eq_false h]; rfl
theorem twice1 (y : List S78) (hy : y.length ≤ 9223372036854775807) (x34 : List S78) (x35 x36 a : Int) (nm : ByteArray) (u v : Int) (r : Int)
    (nx : Ev (fun k => maskref4_LimitsFault.l0 k x34 x35 (wrap64 (x36 + 1)) a l1 l2 l3) r) :
    Ev (fun k => maskref4_LimitsFault.l1 k x34 x35 x36 y (y.length : Int) 0 a l1 l2 l3 nm u v) (if y.any (nmq78 nm) = true then 6 else r) := by
  have key := down (P := fun i => Ev (fun k => maskref4_LimitsFault.l1 k x34 x35 x36 y (y.length : Int) (i : Int) a l1 l2 l3 nm u v) (if (y.drop i).any (nmq78 nm) = true then 6 else r)) y.length ?_ ?_ 0 (by omega)
  · exact key
  · refine Ev.step (f := fun k => _) (fun k => by rw [maskref4_LimitsFault.l1]) (Ev.neg (by omega) ?_)
    rw [List.drop_length]
    exact nx
  · intro i hi ih
    refine Ev.step (f := fun k => _) (fun k => by rw [maskref4_LimitsFault.l1]) (Ev.pos (by omega) (Ev.pos (by omega) (Ev.pos (by omega) ?_)))
    rw [ws hi hy, drop_cons_getD hi z78, List.any_cons]
    by_cases h : nm.toList = ((rd_T78 y i).f0).toList
    · refine Ev.pos h ?_
      have e : nmq78 nm (y.getD i z78) = true := beq_iff_eq.mpr h.symm
      rw [e, Bool.true_or]
      exact Ev.now _
    · refine Ev.neg h ?_
      have e : nmq78 nm (y.getD i z78) = false := beq_eq_false_iff_ne.mpr (fun q => h q.symm)
      rw [e, Bool.false_or]
      exact ih
theorem twice2 (y : List S81) (hy : y.length ≤ 9223372036854775807) (x34 : List S81) (x35 x36 a : Int) (nm : ByteArray) (u : Int) (r : Int)
    (nx : Ev (fun k => maskref4_LimitsFault.l2 k x34 x35 (wrap64 (x36 + 1)) a l1 l2 l3) r) :
    Ev (fun k => maskref4_LimitsFault.l3 k x34 x35 x36 y (y.length : Int) 0 a l1 l2 l3 nm u) (if y.any (nmq81 nm) = true then 6 else r) := by
  have key := down (P := fun i => Ev (fun k => maskref4_LimitsFault.l3 k x34 x35 x36 y (y.length : Int) (i : Int) a l1 l2 l3 nm u) (if (y.drop i).any (nmq81 nm) = true then 6 else r)) y.length ?_ ?_ 0 (by omega)
  · exact key
  · refine Ev.step (f := fun k => _) (fun k => by rw [maskref4_LimitsFault.l3]) (Ev.neg (by omega) ?_)
    rw [List.drop_length]
    exact nx
  · intro i hi ih
    refine Ev.step (f := fun k => _) (fun k => by rw [maskref4_LimitsFault.l3]) (Ev.pos (by omega) (Ev.pos (by omega) (Ev.pos (by omega) ?_)))
    rw [ws hi hy, drop_cons_getD hi z81, List.any_cons]
    by_cases h : nm.toList = ((rd_T81 y i).f0).toList
    · refine Ev.pos h ?_
      have e : nmq81 nm (y.getD i z81) = true := beq_iff_eq.mpr h.symm
      rw [e, Bool.true_or]
      exact Ev.now _
    · refine Ev.neg h ?_
      have e : nmq81 nm (y.getD i z81) = false := beq_eq_false_iff_ne.mpr (fun q => h q.symm)
      rw [e, Bool.false_or]
      exact ih
theorem bad_in (x : S78) (r : Int) {g : Nat → Bool → Option Int} (hg : ∀ b, Ev (fun k => g k b) (if b = true then 2 else r)) :
    Ev (fun k => if x.f1.f0 < 0 then g k true else if x.f1.f0 > x.f1.f1 then g k true else g k (decide (x.f1.f1 > 16777216))) (if badI x = true then 2 else r) := by
  unfold badI
  by_cases h1 : x.f1.f0 < 0
  · refine Ev.pos h1 ?_
    rw [decide_eq_true h1]
    exact hg true
  · refine Ev.neg h1 ?_
    rw [decide_eq_false h1, Bool.false_or]
    by_cases h2 : x.f1.f0 > x.f1.f1
    · refine Ev.pos h2 ?_
      rw [decide_eq_true (p := x.f1.f1 < x.f1.f0) h2, Bool.true_or]
      exact hg true
    · refine Ev.neg h2 ?_
      rw [decide_eq_false (p := x.f1.f1 < x.f1.f0) h2, Bool.false_or]
      exact hg _
theorem bp1 (a b c d : Bool) (h : (a || b) = true) : (!(c || d)) = ((!a && !b) || (!c && !d)) := by cases a <;> cases b <;> cases c <;> cases d <;> first | rfl | exact absurd h (by decide)
theorem bp2 (a b c d : Bool) (h : ¬ (a || b) = true) : true = ((!a && !b) || (!c && !d)) := by cases a <;> cases b <;> cases c <;> cases d <;> first | rfl | exact absurd (by decide) h
theorem paths_ev (hs : ∀ x ∈ l3, x.f0.size ≤ 140737488351232 ∧ x.f1.size ≤ 140737488351232) (hl : l3.length ≤ 9223372036854775807) : Ev (fun k => maskref4_LimitsFault.l4 k l3 (l3.length : Int) 0) (firstErr (errP l3) l3.length 0) := by
  have key := down (P := fun i => Ev (fun k => maskref4_LimitsFault.l4 k l3 (l3.length : Int) (i : Int)) (nxt (errP l3) l3.length i 0)) l3.length ?_ ?_ 0 (by omega)
  · have e : nxt (errP l3) l3.length 0 0 = firstErr (errP l3) l3.length 0 := by
      unfold nxt
      rw [Nat.sub_zero]
      split
      · rename_i h; exact h.symm
      · rfl
    rw [← e]
    exact key
  · refine Ev.step (f := fun k => _) (fun k => by rw [maskref4_LimitsFault.l4]) (Ev.neg (by omega) ?_)
    rw [nxt_end]
    exact Ev.now _
  · intro i hi ih
    refine Ev.step (f := fun k => _) (fun k => by rw [maskref4_LimitsFault.l4]) (Ev.pos (by omega) (Ev.pos (by omega) (Ev.pos (by omega) ?_)))
    have hx := hs (rd_T83 l3 i) (getD_mem hi z83)
    have EI : errP l3 i = if badP (rd_T83 l3 i) = true then 9 else if badC (rd_T83 l3 i) = true then 2 else 0 := rfl
    generalize rd_T83 l3 i = x at *
    have hj : ∀ b : Bool, (b = badP x) → Ev (fun k => maskref4_LimitsFault.j7 k l3 (l3.length : Int) (i : Int) b x.f0 x.f1 x.f2) (nxt (errP l3) l3.length i 0) := by
      intro b hb
      refine Ev.step (f := fun k => _) (fun k => by rw [maskref4_LimitsFault.j7]) ?_
      rw [ws hi hl]
      by_cases h1 : b = true
      · refine Ev.pos h1 ?_
        have e : errP l3 i = 9 := by rw [EI, if_pos (by rw [← hb]; exact h1)]
        rw [nxt_bad hi (by rw [e]; decide), e]
        exact Ev.now _
      · refine Ev.neg h1 ?_
        have E2 : errP l3 i = if badC x = true then 2 else 0 := by rw [EI, if_neg (by rw [← hb]; exact h1)]
        by_cases h2 : x.f2 = 0
        · refine Ev.pos h2 ?_
          have e : errP l3 i = 0 := by rw [E2, if_neg (by unfold badC; rw [h2]; decide)]
          rw [nxt_ok hi e]
          exact ih
        · refine Ev.neg h2 (Ev.val (in_ev _ _ _) ?_)
          by_cases h3 : 2 ≤ x.f2 ∧ x.f2 ≤ 16
          · refine Ev.pos (by rw [decide_eq_true h3.1, decide_eq_true h3.2]; rfl) ?_
            have e : errP l3 i = 0 := by
              rw [E2, if_neg]
              unfold badC
              rw [decide_eq_false (by omega), decide_eq_false (by omega), beq_eq_false_iff_ne.mpr (by omega)]
              decide
            rw [nxt_ok hi e]
            exact ih
          · refine Ev.neg (by rw [Bool.and_eq_true, decide_eq_true_eq, decide_eq_true_eq]; exact h3) ?_
            have e : errP l3 i = 2 := by
              rw [E2, if_pos]
              unfold badC
              rw [Bool.or_eq_true, Bool.or_eq_true, decide_eq_true_eq, decide_eq_true_eq, beq_iff_eq]
              omega
            rw [nxt_bad hi (by rw [e]; decide), e]
            exact Ev.now _
    refine Ev.bind (pr_ev x.f0 hx.1) ?_
    by_cases h0 : prB x.f0 = true
    · refine Ev.pos h0 (Ev.bind (pr_ev x.f1 hx.2) ?_)
      refine hj _ ?_
      rw [pr_nm] at h0
      unfold badP
      rw [pr_nm]
      exact bp1 _ _ _ _ h0
    · refine Ev.neg h0 ?_
      refine hj _ ?_
      rw [pr_nm] at h0
      unfold badP
      exact bp2 _ _ _ _ h0
theorem outs_ev (r : Int) (hs : ∀ x ∈ l2, x.f0.size ≤ 140737488351232) (hl : l2.length ≤ 9223372036854775807) (nx : Ev (fun k => maskref4_LimitsFault.l4 k l3 (l3.length : Int) 0) r) :
    Ev (fun k => maskref4_LimitsFault.l2 k l2 (l2.length : Int) 0 p l1 l2 l3) (nxt (errO l2) l2.length 0 r) := by
  refine down (P := fun i => Ev (fun k => maskref4_LimitsFault.l2 k l2 (l2.length : Int) (i : Int) p l1 l2 l3) (nxt (errO l2) l2.length i r)) l2.length ?_ ?_ 0 (by omega)
  · refine Ev.step (f := fun k => _) (fun k => by rw [maskref4_LimitsFault.l2]) (Ev.neg (by omega) ?_)
    rw [nxt_end]
    exact nx
  · intro i hi ih
    refine Ev.step (f := fun k => _) (fun k => by rw [maskref4_LimitsFault.l2]) (Ev.pos (by omega) (Ev.pos (by omega) (Ev.pos (by omega) ?_)))
    have hx := hs (rd_T81 l2 i) (getD_mem hi z81)
    have EI : errO l2 i = if nmB (rd_T81 l2 i).f0 = false then 9 else if badO (rd_T81 l2 i) = true then 2 else if (l2.take i).any (nmq81 (rd_T81 l2 i).f0) = true then 6 else 0 := rfl
    generalize rd_T81 l2 i = x at *
    refine Ev.bind (name_ev x.f0 hx) ?_
    by_cases h1 : nmB x.f0 = true
    · rw [if_neg (by rw [h1]; decide)] at EI
      refine Ev.pos h1 (Ev.val (in_ev _ _ _) ?_)
      by_cases h2 : 1 ≤ x.f1 ∧ x.f1 ≤ 16777216
      · refine Ev.pos (by rw [decide_eq_true h2.1, decide_eq_true h2.2]; rfl) (Ev.pos (by omega) (Ev.val rfl ?_))
        have hb : badO x = false := by unfold badO; rw [decide_eq_false (by omega), decide_eq_false (by omega)]; rfl
        rw [if_neg (by rw [hb]; decide)] at EI
        have hlen : (l2.take ((i : Int).toNat)).length ≤ 9223372036854775807 := by rw [List.length_take]; omega
        have ih2 : Ev (fun k => maskref4_LimitsFault.l2 k l2 (l2.length : Int) (wrap64 ((i : Int) + 1)) p l1 l2 l3) (nxt (errO l2) l2.length (i + 1) r) := by rw [ws hi hl]; exact ih
        refine Ev.eq (twice2 (l2.take ((i : Int).toNat)) hlen l2 _ _ p x.f0 x.f1 _ ih2) ?_
        rw [Int.toNat_natCast]
        by_cases h3 : (l2.take i).any (nmq81 x.f0) = true
        · rw [if_pos h3] at EI ⊢
          rw [nxt_bad hi (by rw [EI]; decide), EI]
        · rw [if_neg h3] at EI ⊢
          rw [nxt_ok hi EI]
      · refine Ev.neg (by rw [Bool.and_eq_true, decide_eq_true_eq, decide_eq_true_eq]; exact h2) ?_
        have hb : badO x = true := by unfold badO; rw [Bool.or_eq_true, decide_eq_true_eq, decide_eq_true_eq]; omega
        rw [if_pos hb] at EI
        rw [nxt_bad hi (by rw [EI]; decide), EI]
        exact Ev.now _
    · refine Ev.neg h1 ?_
      rw [if_pos (by simpa using h1)] at EI
      rw [nxt_bad hi (by rw [EI]; decide), EI]
      exact Ev.now _
theorem ins_ev (r : Int) (hs : ∀ x ∈ l1, x.f0.size ≤ 140737488351232) (hl : l1.length ≤ 9223372036854775807) (nx : Ev (fun k => maskref4_LimitsFault.l2 k l2 (l2.length : Int) 0 p l1 l2 l3) r) :
    Ev (fun k => maskref4_LimitsFault.l0 k l1 (l1.length : Int) 0 p l1 l2 l3) (nxt (errI l1) l1.length 0 r) := by
  refine down (P := fun i => Ev (fun k => maskref4_LimitsFault.l0 k l1 (l1.length : Int) (i : Int) p l1 l2 l3) (nxt (errI l1) l1.length i r)) l1.length ?_ ?_ 0 (by omega)
  · refine Ev.step (f := fun k => _) (fun k => by rw [maskref4_LimitsFault.l0]) (Ev.neg (by omega) ?_)
    rw [nxt_end]
    exact nx
  · intro i hi ih
    refine Ev.step (f := fun k => _) (fun k => by rw [maskref4_LimitsFault.l0]) (Ev.pos (by omega) (Ev.pos (by omega) (Ev.pos (by omega) ?_)))
    have hx := hs (rd_T78 l1 i) (getD_mem hi z78)
    have EI : errI l1 i = if nmB (rd_T78 l1 i).f0 = false then 9 else if badI (rd_T78 l1 i) = true then 2 else if (l1.take i).any (nmq78 (rd_T78 l1 i).f0) = true then 6 else 0 := rfl
    generalize rd_T78 l1 i = x at *
    refine Ev.bind (name_ev x.f0 hx) ?_
    by_cases h1 : nmB x.f0 = true
    · rw [if_neg (by rw [h1]; decide)] at EI
      refine Ev.pos h1 ?_
      have ih2 : Ev (fun k => maskref4_LimitsFault.l0 k l1 (l1.length : Int) (wrap64 ((i : Int) + 1)) p l1 l2 l3) (nxt (errI l1) l1.length (i + 1) r) := by rw [ws hi hl]; exact ih
      have hlen : (l1.take ((i : Int).toNat)).length ≤ 9223372036854775807 := by rw [List.length_take]; omega
      refine Ev.eq (bad_in x (if (l1.take i).any (nmq78 x.f0) = true then 6 else nxt (errI l1) l1.length (i + 1) r) (g := fun k b => maskref4_LimitsFault.j2 k (i : Int) l1 (l1.length : Int) (i : Int) b p l1 l2 l3 x.f0 x.f1.f0 x.f1.f1) (fun b => ?_)) ?_
      · refine Ev.step (f := fun k => _) (fun k => by rw [maskref4_LimitsFault.j2]) ?_
        cases b
        · refine Ev.neg (by decide) (Ev.pos (by omega) (Ev.pos (by omega) (Ev.val rfl ?_)))
          refine Ev.eq (twice1 (l1.take ((i : Int).toNat)) hlen l1 _ _ p x.f0 x.f1.f0 x.f1.f1 _ ih2) ?_
          rw [Int.toNat_natCast, if_neg (by decide : ¬ false = true)]
        · exact Ev.pos rfl (Ev.now _)
      · by_cases h2 : badI x = true
        · rw [if_pos h2] at EI ⊢
          rw [nxt_bad hi (by rw [EI]; decide), EI]
        · rw [if_neg h2] at EI ⊢
          by_cases h3 : (l1.take i).any (nmq78 x.f0) = true
          · rw [if_pos h3] at EI ⊢
            rw [nxt_bad hi (by rw [EI]; decide), EI]
          · rw [if_neg h3] at EI ⊢
            rw [nxt_ok hi EI]
    · refine Ev.neg h1 ?_
      rw [if_pos (by simpa using h1)] at EI
      rw [nxt_bad hi (by rw [EI]; decide), EI]
      exact Ev.now _
theorem limits_ev (h1 : ∀ x ∈ l1, x.f0.size ≤ 140737488351232) (h2 : ∀ x ∈ l2, x.f0.size ≤ 140737488351232) (h3 : ∀ x ∈ l3, x.f0.size ≤ 140737488351232 ∧ x.f1.size ≤ 140737488351232)
    (n1 : l1.length ≤ 9223372036854775807) (n2 : l2.length ≤ 9223372036854775807) (n3 : l3.length ≤ 9223372036854775807) : Ev (fun k => maskref4_LimitsFault.f k p l1 l2 l3) (CheckV p l1 l2 l3) := by
  unfold maskref4_LimitsFault.f CheckV
  refine Ev.val (in_ev _ _ _) ?_
  by_cases hp : p < 1 ∨ 67108864 < p
  · rw [if_pos hp]
    refine Ev.neg ?_ (Ev.now _)
    rw [Bool.and_eq_true, decide_eq_true_eq, decide_eq_true_eq]
    omega
  · rw [if_neg hp]
    refine Ev.pos (by rw [Bool.and_eq_true, decide_eq_true_eq, decide_eq_true_eq]; omega) ?_
    have big : ∀ b : Bool, Ev (fun k => maskref4_LimitsFault.j0 k b p l1 l2 l3) (if b = true then 3 else nxt (errI l1) l1.length 0 (nxt (errO l2) l2.length 0 (firstErr (errP l3) l3.length 0))) := by
      intro b
      refine Ev.step (f := fun k => _) (fun k => by rw [maskref4_LimitsFault.j0]) ?_
      cases b
      · refine Ev.neg (by decide) ?_
        rw [if_neg (by decide : ¬ false = true)]
        exact ins_ev _ h1 n1 (outs_ev _ h2 n2 (paths_ev h3 n3))
      · exact Ev.pos rfl (Ev.now _)
    have e0 : ∀ (f : Nat → Int) (n : Nat) (r : Int), nxt f n 0 r = if firstErr f n 0 = 0 then r else firstErr f n 0 := fun f n r => by unfold nxt; rw [Nat.sub_zero]
    by_cases a1 : (l1.length : Int) > 128
    · rw [if_pos (.inl (by omega))]
      exact Ev.pos a1 (big true)
    · refine Ev.neg a1 ?_
      by_cases a2 : (l2.length : Int) > 128
      · rw [if_pos (.inr (.inl (by omega)))]
        exact Ev.pos a2 (big true)
      · refine Ev.neg a2 ?_
        by_cases a3 : (l3.length : Int) > 64
        · rw [if_pos (.inr (.inr (by omega))), decide_eq_true a3]
          exact big true
        · rw [if_neg (by omega), decide_eq_false a3]
          refine Ev.eq (big false) ?_
          rw [if_neg (by decide : ¬ false = true), e0, e0]
end
end Go.Proofs.YtlegjcagkmjfjaaDoor.LTimingChecks
