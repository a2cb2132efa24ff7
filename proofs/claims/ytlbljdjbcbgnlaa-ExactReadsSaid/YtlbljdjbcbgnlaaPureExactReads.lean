/- Texts of numbers are read and written back: the pure statement of ExactReads. Conditions: none beyond the statement's. -/
import Derived.Test.YtlbljdjbcbgnlaaPXx67
import Derived.Test.YtlbljdjbcbgnlaaLRead
import Derived.Test.YtlbljdjbcbgnlaaLDec2
namespace Go.Proofs.Ytlbljdjbcbgnlaa.Pure
open Go.RowKit Go.Proofs.YtlbljdjbcbgnlaaW.PrintWords Go.Proofs.Ytlbljdjbcbgnlaa.PX Go.Proofs.Ytlbljdjbcbgnlaa.Aid Go.Proofs.Ytlbljdjbcbgnlaa.LDec Go.Proofs.Ytlbljdjbcbgnlaa.LNum
set_option linter.unusedVariables false
set_option linter.unusedSimpArgs false

theorem sign_ev0 : exact_Sign.f false ([] : List Int) = some 0 := rfl
theorem tx_zero (a b : Bool) : tx a 0 = tx b 0 := by unfold tx; rw [if_pos rfl, if_pos rfl]
theorem bl_four (m n : Nat) (h : n < 10 ^ m) : bln n ≤ 4 * m := by
  refine bl_le (4 * m) n ?_
  rw [Nat.pow_mul]
  exact Nat.lt_of_lt_of_le h (Nat.pow_le_pow_left (by omega) m)
theorem ExactReads : masklaw4_ExactReads.Pure := by
  intro s w0
  refine Ev.rounds ?_
  refine Ev.congr (fun k => rfl) (Ev.val (show masklaw4_exacts.f = some true from rfl) (Ev.pos rfl ?_))
  by_cases big : 20000 < s.size
  · refine Ev.bind (read_large s big) (Ev.pos (by omega) (Ev.pos rfl ?_))
    exact Ev.val sign_ev0 (Ev.now _)
  · by_cases d : isD s.data.toList = true
    · refine Ev.bind (read_ok s (by omega) d) (Ev.neg (by omega) ?_)
      refine Ev.bind (isDec_ev s (by omega)) (Ev.pos d ?_)
      have hn := nv_lt d
      have hbody := body_len s.data.toList
      rw [data_length] at hbody
      have hlm := lm_small _ _ hn (by omega)
      have hdg := dg_len _ _ hn
      have ht := tx_nv d
      have htext := text_ev (hd45 s.data.toList && decide (0 < nv s.data.toList)) (nv s.data.toList) hlm (by omega)
      rw [ht] at htext
      unfold readV
      by_cases m : 400 < s.size
      · refine Ev.pos (by omega) ?_
        by_cases b : 65536 < bln (nv s.data.toList)
        · rw [if_pos b]
          exact Ev.pos rfl (Ev.now _)
        · rw [if_neg b]
          refine Ev.neg (by show ¬ (0 : Int) = 3; decide) (Ev.pos rfl (Ev.bind htext ?_))
          refine Ev.eq (Ev.now _) ?_
          simp
      · refine Ev.neg (by omega) ?_
        have hb := bl_four _ _ hn
        rw [if_neg (by omega)]
        refine Ev.bind (decOf_ev s (by omega) d) (Ev.pos rfl (Ev.bind htext (Ev.pos rfl ?_)))
        generalize hN : nv s.data.toList = n at *
        generalize hd45 s.data.toList = g at *
        refine Ev.val (bits_f _ _ hlm) ?_
        refine Ev.bind (by exact bitsOf_ev _ n (by omega) (by omega)) (Ev.pos rfl ?_)
        refine Ev.val (neg_f _ n) ?_
        refine Ev.bind (by exact text_ev _ n hlm (by omega)) ?_
        refine Ev.bind (decInt_ev (-1) (by omega) (by omega)) ?_
        have h1 : (dg 1).length ≤ 1000000000 := by have := dg_len 1 1 (by omega); omega
        have ht2 := dtimes_ev (g && decide (0 < n)) n (decide ((-1 : Int) < 0) && decide (0 < (-1 : Int).natAbs)) 1 (by omega) h1
        refine Ev.bind (by exact ht2) ?_
        rw [Nat.mul_one]
        refine Ev.bind (by exact dectext_ev _ n (by omega)) (Ev.pos ?_ ?_)
        · congr 1
          by_cases z : n = 0
          · subst z; exact tx_zero _ _
          · rw [decide_eq_true (Nat.pos_of_ne_zero z)]
            cases g <;> rfl
        · refine Ev.val (abs_f _ n) ?_
          refine Ev.bind (by exact text_ev _ n hlm (by omega)) ?_
          refine Ev.bind (by exact dectext_ev false n (by omega)) ?_
          refine Ev.eq (Ev.now _) ?_
          exact beq_self_eq_true (tx false n).toList
    · have d' : isD s.data.toList = false := by simpa using d
      refine Ev.bind (read_no s (by omega) d') (Ev.neg (by omega) ?_)
      refine Ev.bind (isDec_ev s (by omega)) (Ev.neg d (Ev.pos rfl ?_))
      exact Ev.val sign_ev0 (Ev.now _)
end Go.Proofs.Ytlbljdjbcbgnlaa.Pure
