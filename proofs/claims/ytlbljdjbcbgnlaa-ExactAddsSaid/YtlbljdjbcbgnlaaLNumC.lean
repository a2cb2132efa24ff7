/- Long numbers with signs compared. No conditions. -/
import Derived.Test.YtlbljdjbcbgnlaaPXx42
import Derived.Test.YtlbljdjbcbgnlaaLNum2
namespace Go.Proofs.Ytlbljdjbcbgnlaa.LNum
open Go.RowKit Go.Proofs.YtlbljdjbcbgnlaaW.PrintWords Go.Proofs.Ytlbljdjbcbgnlaa.PX Go.Proofs.Ytlbljdjbcbgnlaa.Aid Go.Proofs.Ytlbljdjbcbgnlaa.LDec
set_option linter.unusedVariables false
set_option linter.unusedSimpArgs false

theorem cmp_ev (s : Bool) (a : Nat) (t : Bool) (b : Nat) (hl : (lm a).length ≤ 1000000000) (hk : (lm b).length ≤ 1000000000) (hs : a = 0 → s = false) (ht : b = 0 → t = false) : Ev (fun k => exact_Cmp.f k s (lm a) t (lm b)) (if s = t then (if s = true then sg b a else sg a b) else if s = true then -1 else 1) := by
  refine Ev.val (sign_f s a) (Ev.val (sign_f t b) ?_)
  by_cases c : (if a = 0 then (0 : Int) else if s = true then -1 else 1) = (if b = 0 then (0 : Int) else if t = true then -1 else 1)
  · refine Ev.pos c ?_
    have e : s = t := by
      by_cases ha : a = 0 <;> by_cases hb : b = 0
      · rw [hs ha, ht hb]
      · rw [if_pos ha, if_neg hb] at c
        cases t <;> simp at c
      · rw [if_neg ha, if_pos hb] at c
        cases s <;> simp at c
      · rw [if_neg ha, if_neg hb] at c
        cases s <;> cases t <;> simp at c ⊢
    rw [if_pos e]
    by_cases d : s = true
    · refine Ev.pos d ?_
      rw [if_pos d]
      refine Ev.bind (cmpMag_ev b a hk hl) ?_
      exact Ev.now _
    · refine Ev.neg d ?_
      rw [if_neg d]
      refine Ev.bind (cmpMag_ev a b hl hk) ?_
      exact Ev.now _
  · refine Ev.neg c ?_
    refine Ev.val (sign_f s a) (Ev.val (sign_f t b) ?_)
    refine Ev.val (sgn_f _) ?_
    refine Ev.eq (Ev.now _) ?_
    have w0 : wrap64 (0 - -1) = 1 := by decide +kernel
    have w1 : wrap64 (0 - 1) = -1 := by decide +kernel
    have w2 : wrap64 (-1 - 0) = -1 := by decide +kernel
    have w3 : wrap64 (1 - 0) = 1 := by decide +kernel
    have w4 : wrap64 (-1 - 1) = -2 := by decide +kernel
    have w5 : wrap64 (1 - -1) = 2 := by decide +kernel
    by_cases ha : a = 0 <;> by_cases hb : b = 0
    · rw [if_pos ha, if_pos hb] at c
      exact absurd rfl c
    · have e := hs ha
      subst e ha
      rw [if_pos rfl, if_neg hb]
      cases t
      · simp only [if_true, if_false, reduceCtorEq, w1]
        unfold sg
        rw [if_pos (by omega), if_pos (by omega)]
      · simp only [if_true, if_false, reduceCtorEq, w0]
        rfl
    · have e := ht hb
      subst e hb
      rw [if_pos rfl, if_neg ha]
      cases s
      · simp only [if_true, if_false, reduceCtorEq, w3]
        unfold sg
        rw [if_neg (by omega), if_pos (by omega), if_neg (by omega), if_pos (by omega)]
      · simp only [if_true, if_false, reduceCtorEq, w2]
        rfl
    · rw [if_neg ha, if_neg hb] at c ⊢
      cases s <;> cases t <;> simp only [if_true, if_false, reduceCtorEq, w4, w5] at c ⊢
      · exact absurd trivial c
      · rfl
      · rfl
      · exact absurd trivial c
end Go.Proofs.Ytlbljdjbcbgnlaa.LNum
