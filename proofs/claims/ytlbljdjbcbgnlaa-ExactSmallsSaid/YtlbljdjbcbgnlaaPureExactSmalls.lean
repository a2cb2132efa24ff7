/- Small numbers as long numbers and back, as the reference has them: the pure statement of ExactSmalls. Conditions: none beyond the statement's. -/
import Derived.Test.YtlbljdjbcbgnlaaPXx48
import Derived.Test.YtlbljdjbcbgnlaaLNum3
namespace Go.Proofs.Ytlbljdjbcbgnlaa.Pure
open Go.RowKit Go.Proofs.YtlbljdjbcbgnlaaW.PrintWords Go.Proofs.Ytlbljdjbcbgnlaa.PX Go.Proofs.Ytlbljdjbcbgnlaa.Aid Go.Proofs.Ytlbljdjbcbgnlaa.LDec Go.Proofs.Ytlbljdjbcbgnlaa.LNum
set_option linter.unusedVariables false
set_option linter.unusedSimpArgs false

theorem ll (n : Nat) (h : n < 18446744073709551616) : (lm n).length ≤ 1000000000 := by
  have := lm_len 2 n (by omega)
  omega
theorem dll (n : Nat) (h : n < 18446744073709551616) : (dg n).length ≤ 100000000000 := by
  have := dg_len 20 n (by omega)
  omega
theorem sg_int (a b : Int) : (if decide (a < 0) = decide (b < 0) then (if decide (a < 0) = true then sg b.natAbs a.natAbs else sg a.natAbs b.natAbs) else if decide (a < 0) = true then (-1 : Int) else 1) = if a < b then -1 else if a > b then 1 else 0 := by
  unfold sg
  by_cases ha : a < 0 <;> by_cases hb : b < 0 <;> simp [ha, hb] <;> (repeat' split) <;> omega
theorem j3_ev (a b s c v : Int) (f : Bool) (ha0 : -9223372036854775808 ≤ a) (ha1 : a ≤ 9223372036854775807) (hb0 : -9223372036854775808 ≤ b) (hb1 : b ≤ 9223372036854775807)
    (hs : s = if a = 0 then 0 else if a < 0 then -1 else 1) (hc : c = if a < b then -1 else if a > b then 1 else 0) (hf : f = (b == 0)) (hv : v = if b = 0 then 9223372036854775807 else 0) :
    Ev (fun k => masklaw4_ExactSmalls.j3 k a b a true 0 v f s c (decide (a < 0)) (lm a.natAbs) (decide (b < 0)) (lm b.natAbs)) true := by
  refine Ev.step (fun k => rfl) (Ev.pos rfl ?_)
  refine Ev.val (sign_f _ _) (Ev.pos ?_ ?_)
  · subst hs
    by_cases z : a = 0
    · subst z; rfl
    · rw [if_neg (by omega), if_neg z]
      simp
  refine Ev.bind (cmp_ev _ _ _ _ (ll _ (by omega)) (ll _ (by omega)) (fun h => by simp; omega) (fun h => by simp; omega)) (Ev.pos (by rw [sg_int, hc]) ?_)
  refine Ev.bind (text_ev _ _ (ll _ (by omega)) (by have := dll a.natAbs (by omega); omega)) ?_
  refine Ev.bind (decInt_ev a ha0 ha1) ?_
  have hd : ((decide (a < 0)) && decide (0 < a.natAbs)) = decide (a < 0) := by
    by_cases z : a < 0 <;> simp [z]
    omega
  unfold dn
  rw [hd]
  refine Ev.bind (dectext_ev _ _ (by have := dll a.natAbs (by omega); omega)) (Ev.pos rfl ?_)
  refine Ev.val (bits_f _ _ (ll _ (by omega))) ?_
  refine Ev.bind (decInt_ev a ha0 ha1) ?_
  unfold dn
  rw [hd]
  refine Ev.bind (bitsOf_ev _ _ (dll _ (by omega)) (by have := bl_le 64 a.natAbs (by omega); omega)) (Ev.pos rfl (Ev.pos rfl ?_))
  subst hf hv
  refine Ev.pos (by simp) ?_
  by_cases z : b = 0
  · subst z
    exact Ev.pos rfl (Ev.pos rfl (Ev.now _))
  · refine Ev.neg (by simpa using z) ?_
    rw [if_neg z]
    exact Ev.now _
theorem ExactSmalls : masklaw4_ExactSmalls.Pure := by
  intro a b wa wb
  have ha : -9223372036854775808 ≤ a ∧ a ≤ 9223372036854775807 := by
    have h := wa
    simp [Lit.wf, IntKind.signed, IntKind.bits, IntKind.min, IntKind.max] at h
    omega
  have hb : -9223372036854775808 ≤ b ∧ b ≤ 9223372036854775807 := by
    have h := wb
    simp [Lit.wf, IntKind.signed, IntKind.bits, IntKind.min, IntKind.max] at h
    omega
  obtain ⟨ha0, ha1⟩ := ha
  obtain ⟨hb0, hb1⟩ := hb
  refine Ev.rounds ?_
  have hda : ((decide (a < 0)) && decide (0 < a.natAbs)) = decide (a < 0) := by
    by_cases z : a < 0 <;> simp [z]
    omega
  have hdb : ((decide (b < 0)) && decide (0 < b.natAbs)) = decide (b < 0) := by
    by_cases z : b < 0 <;> simp [z]
    omega
  refine Ev.congr (fun k => rfl) (Ev.val (show masklaw4_exacts.f = some true from rfl) (Ev.pos rfl ?_))
  refine Ev.val (of_f a ha0 ha1) (Ev.val (of_f b hb0 hb1) ?_)
  unfold ln
  rw [hda, hdb]
  refine Ev.bind (small_ev _ a.natAbs (by omega)) ?_
  refine Ev.val (of_f 9223372036854775807 (by omega) (by omega)) ?_
  refine Ev.val (abs_f _ b.natAbs) ?_
  have hsum : (9223372036854775807 : Int).natAbs + b.natAbs < 18446744073709551616 := by omega
  have hadd : Ev (fun k => exact_Add.f k (ln (decide ((9223372036854775807 : Int) < 0)) (9223372036854775807 : Int).natAbs).1 (ln (decide ((9223372036854775807 : Int) < 0)) (9223372036854775807 : Int).natAbs).2 (ln false b.natAbs).1 (ln false b.natAbs).2) (false, lm ((9223372036854775807 : Int).natAbs + b.natAbs), 0) := by
    refine Ev.congr (fun k => rfl) ?_
    have h := plus_ev false (9223372036854775807 : Int).natAbs false b.natAbs (ll _ (by omega)) (ll _ (by omega))
    refine Ev.bind h ?_
    unfold lplus
    rw [if_pos rfl]
    refine Ev.val (show exact_fit.f (ln false ((9223372036854775807 : Int).natAbs + b.natAbs)).1 (ln false ((9223372036854775807 : Int).natAbs + b.natAbs)).2 = _ from fit_f false _ (ll _ hsum)) ?_
    rw [if_neg (by have := bl_le 64 _ (show (9223372036854775807 : Int).natAbs + b.natAbs < 2 ^ 64 by omega); omega)]
    exact Ev.now _
  refine Ev.bind hadd ?_
  refine Ev.bind (small_ev false _ hsum) ?_
  have e1 : sm (decide (a < 0)) a.natAbs = (a, true) := by
    unfold sm
    by_cases z : a < 0
    · rw [if_pos (by simpa using z), if_pos (by omega)]
      congr 1
      omega
    · rw [if_neg (by simpa using z), if_pos (by omega)]
      congr 1
      omega
  have e2 : sm false ((9223372036854775807 : Int).natAbs + b.natAbs) = (if b = 0 then 9223372036854775807 else 0, b == 0) := by
    unfold sm
    rw [if_neg (by decide)]
    by_cases z : b = 0
    · subst z
      rfl
    · rw [if_neg (by omega), if_neg z]
      congr 1
      simp [z]
  rw [e1, e2]
  have key : ∀ s : Int, (s = if a > 0 then 1 else 0) → Ev (fun k => masklaw4_ExactSmalls.j0 k a b a true 0 (if b = 0 then 9223372036854775807 else 0) (b == 0) s (decide (a < 0)) (lm a.natAbs) (decide (b < 0)) (lm b.natAbs)) true := by
    intro s hs
    have k1 : ∀ s : Int, (s = if a = 0 then 0 else if a < 0 then -1 else 1) → Ev (fun k => masklaw4_ExactSmalls.j1 k a b a true 0 (if b = 0 then 9223372036854775807 else 0) (b == 0) s (decide (a < 0)) (lm a.natAbs) (decide (b < 0)) (lm b.natAbs)) true := by
      intro s hs
      have k2 : ∀ c : Int, (c = if a < b then -1 else 0) → Ev (fun k => masklaw4_ExactSmalls.j2 k a b a true 0 (if b = 0 then 9223372036854775807 else 0) (b == 0) s c (decide (a < 0)) (lm a.natAbs) (decide (b < 0)) (lm b.natAbs)) true := by
        intro c hc
        by_cases z : a > b
        · exact Ev.step (fun k => rfl) (Ev.pos z (j3_ev a b s 1 _ _ ha0 ha1 hb0 hb1 hs (by rw [if_neg (by omega), if_pos z]) rfl rfl))
        · exact Ev.step (fun k => rfl) (Ev.neg z (j3_ev a b s c _ _ ha0 ha1 hb0 hb1 hs (by rw [if_neg z]; exact hc) rfl rfl))
      by_cases z : a < b
      · exact Ev.step (fun k => rfl) (Ev.pos z (k2 _ (by rw [if_pos z])))
      · exact Ev.step (fun k => rfl) (Ev.neg z (k2 _ (by rw [if_neg z])))
    by_cases z : a < 0
    · exact Ev.step (fun k => rfl) (Ev.pos z (k1 _ (by rw [if_neg (by omega), if_pos z])))
    · exact Ev.step (fun k => rfl) (Ev.neg z (k1 _ (by subst hs; by_cases y : a = 0 <;> simp [y] <;> omega)))
  by_cases z : a > 0
  · exact Ev.pos z (key _ (by rw [if_pos z]))
  · exact Ev.neg z (key _ (by rw [if_neg z]))
end Go.Proofs.Ytlbljdjbcbgnlaa.Pure
