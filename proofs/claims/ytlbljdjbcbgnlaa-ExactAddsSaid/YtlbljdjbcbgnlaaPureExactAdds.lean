/- Sums, differences, products and comparisons of long numbers, as the reference has them: the pure statement of ExactAdds. Conditions: none beyond the statement's. -/
import Derived.Test.YtlbljdjbcbgnlaaPXx74
import Derived.Test.YtlbljdjbcbgnlaaLRead
import Derived.Test.YtlbljdjbcbgnlaaLNum5
import Derived.Test.YtlbljdjbcbgnlaaLNumC
namespace Go.Proofs.Ytlbljdjbcbgnlaa.Pure
open Go.RowKit Go.Proofs.YtlbljdjbcbgnlaaW.PrintWords Go.Proofs.Ytlbljdjbcbgnlaa.PX Go.Proofs.Ytlbljdjbcbgnlaa.Aid Go.Proofs.Ytlbljdjbcbgnlaa.LDec Go.Proofs.Ytlbljdjbcbgnlaa.LNum
set_option linter.unusedVariables false
set_option linter.unusedSimpArgs false

theorem tx_sign (a : Bool) (n : Nat) : tx (a && decide (0 < n)) n = tx a n := by
  unfold tx
  by_cases z : n = 0
  · rw [if_pos z, if_pos z]
  · rw [if_neg z, if_neg z, decide_eq_true (Nat.pos_of_ne_zero z), Bool.and_true]
theorem both_no (s t : ByteArray) (hs : s.size ≤ 140737488351232) (h : 300 < s.size ∨ 300 < t.size ∨ isD s.data.toList = false ∨ isD t.data.toList = false) : Ev (fun k => masklaw4_both.f k s t) (false, [], false, [], false) := by
  have out : Ev (fun k => masklaw4_both.j0 k s t true) (false, [], false, [], false) := Ev.step (fun k => masklaw4_both.j0.eq_2 ..) (Ev.pos rfl (Ev.now _))
  by_cases c1 : 300 < s.size
  · exact Ev.congr (fun k => by unfold masklaw4_both.f; rw [if_pos (by omega)]) out
  · by_cases c2 : 300 < t.size
    · exact Ev.congr (fun k => by unfold masklaw4_both.f; rw [if_neg (by omega), if_pos (by omega)]) out
    · refine Ev.congr (fun k => by unfold masklaw4_both.f; rw [if_neg (by omega), if_neg (by omega)]) ?_
      refine Ev.bind (isDec_ev s (by omega)) ?_
      by_cases d1 : isD s.data.toList = true
      · refine Ev.pos d1 (Ev.bind (isDec_ev t (by omega)) ?_)
        have d2 : isD t.data.toList = false := by
          rcases h with h | h | h | h
          · omega
          · omega
          · rw [d1] at h; cases h
          · exact h
        rw [d2]
        exact out
      · exact Ev.neg d1 out
theorem small_bits {l : List UInt8} (h : isD l = true) (hl : l.length ≤ 300) : ¬ 65536 < bln (nv l) := by
  have := nv_lt h
  have hb := body_len l
  have : bln (nv l) ≤ 4 * (bodyD l).length := by
    refine bl_le _ _ ?_
    rw [Nat.pow_mul]
    exact Nat.lt_of_lt_of_le this (Nat.pow_le_pow_left (by omega) _)
  omega
theorem both_ok (s t : ByteArray) (hs : s.size ≤ 300) (ht : t.size ≤ 300) (h1 : isD s.data.toList = true) (h2 : isD t.data.toList = true) : Ev (fun k => masklaw4_both.f k s t) (hd45 s.data.toList && decide (0 < nv s.data.toList), lm (nv s.data.toList), hd45 t.data.toList && decide (0 < nv t.data.toList), lm (nv t.data.toList), true) := by
  refine Ev.congr (fun k => by unfold masklaw4_both.f; rw [if_neg (by omega), if_neg (by omega)]) ?_
  refine Ev.bind (isDec_ev s (by omega)) (Ev.pos h1 (Ev.bind (isDec_ev t (by omega)) ?_))
  rw [h2]
  refine Ev.step (fun k => masklaw4_both.j0.eq_2 ..) (Ev.neg (by decide) ?_)
  have r1 := read_ok s (by omega) h1
  have r2 := read_ok t (by omega) h2
  unfold readV at r1 r2
  rw [if_neg (small_bits h1 (by rw [data_length]; omega))] at r1
  rw [if_neg (small_bits h2 (by rw [data_length]; omega))] at r2
  refine Ev.bind r1 (Ev.bind r2 ?_)
  exact Ev.now _
theorem fit_ok (s : Bool) (n m : Nat) (h : n < 10 ^ m) (hm : m ≤ 1000) : exact_fit.f (ln s n).1 (ln s n).2 = some (s && decide (0 < n), lm n, 0) := by
  have hb : bln n ≤ 4 * m := by
    refine bl_le _ _ ?_
    rw [Nat.pow_mul]
    exact Nat.lt_of_lt_of_le h (Nat.pow_le_pow_left (by omega) _)
  have e := fit_f (s && decide (0 < n)) n (lm_small n m h (by omega))
  rw [if_neg (by omega)] at e
  exact e
theorem lplus_lt (s t : Bool) (a b m : Nat) (ha : a < 10 ^ m) (hb : b < 10 ^ m) : (lplus s a t b).2 < 10 ^ (m + 1) := by
  rw [Nat.pow_succ]
  unfold lplus
  split
  · show a + b < _; omega
  · split
    · show a - b < _; omega
    · show b - a < _; omega
theorem ExactAdds : masklaw4_ExactAdds.Pure := by
  intro s t w0 w1
  refine Ev.rounds ?_
  refine Ev.congr (fun k => rfl) (Ev.val (show masklaw4_exacts.f = some true from rfl) (Ev.pos rfl ?_))
  by_cases ok : s.size ≤ 300 ∧ t.size ≤ 300 ∧ isD s.data.toList = true ∧ isD t.data.toList = true
  · obtain ⟨hs, ht, d1, d2⟩ := ok
    obtain ⟨m, hm⟩ : ∃ m : Nat, m = 300 := ⟨300, rfl⟩
    refine Ev.bind (both_ok s t hs ht d1 d2) (Ev.pos rfl ?_)
    refine Ev.bind (decOf_ev s (by omega) d1) (Ev.bind (decOf_ev t (by omega) d2) ?_)
    have n1 := nv_lt d1
    have n2 := nv_lt d2
    have b1 := body_len s.data.toList
    have b2 := body_len t.data.toList
    rw [data_length] at b1 b2
    generalize nv s.data.toList = a at *
    generalize nv t.data.toList = b at *
    generalize hd45 s.data.toList = g at *
    generalize hd45 t.data.toList = h at *
    have ha : a < 10 ^ m := Nat.lt_of_lt_of_le n1 (Nat.pow_le_pow_right (by omega) (by omega))
    have hb : b < 10 ^ m := Nat.lt_of_lt_of_le n2 (Nat.pow_le_pow_right (by omega) (by omega))
    clear n1 n2 b1 b2
    have la := lm_small a m ha (by omega)
    have lb := lm_small b m hb (by omega)
    have da := dg_len m a ha
    have db := dg_len m b hb
    have hga : a = 0 → (g && decide (0 < a)) = false := fun z => by subst z; cases g <;> rfl
    have hhb : b = 0 → (h && decide (0 < b)) = false := fun z => by subst z; cases h <;> rfl
    unfold dn
    generalize (g && decide (0 < a)) = gs at *
    generalize (h && decide (0 < b)) = hs2 at *
    have padd := lplus_lt gs hs2 a b m ha hb
    have psub := lplus_lt gs (!hs2 && decide (0 < b)) a b m ha hb
    have pmul : a * b < 10 ^ (m + m) := by rw [Nat.pow_add]; exact Nat.mul_lt_mul'' ha hb
    have eadd : Ev (fun k => exact_Add.f k gs (lm a) hs2 (lm b)) ((lplus gs a hs2 b).1 && decide (0 < (lplus gs a hs2 b).2), lm (lplus gs a hs2 b).2, 0) := by
      refine Ev.congr (fun k => rfl) (Ev.bind (plus_ev gs a hs2 b la lb) ?_)
      refine Ev.val (fit_ok _ _ (m + 1) padd (by omega)) ?_
      exact Ev.now _
    have esub : Ev (fun k => exact_Sub.f k gs (lm a) hs2 (lm b)) ((lplus gs a (!hs2 && decide (0 < b)) b).1 && decide (0 < (lplus gs a (!hs2 && decide (0 < b)) b).2), lm (lplus gs a (!hs2 && decide (0 < b)) b).2, 0) := by
      refine Ev.congr (fun k => rfl) (Ev.val (neg_f hs2 b) (Ev.bind (by exact plus_ev gs a (!hs2 && decide (0 < b)) b la lb) ?_))
      refine Ev.val (fit_ok _ _ (m + 1) psub (by omega)) ?_
      exact Ev.now _
    have emul : Ev (fun k => exact_Mul.f k gs (lm a) hs2 (lm b)) ((gs != hs2) && decide (0 < a * b), lm (a * b), 0) := by
      refine Ev.congr (fun k => rfl) (Ev.bind (times_ev gs a hs2 b la lb) ?_)
      refine Ev.val (fit_ok _ _ (m + m) pmul (by omega)) ?_
      exact Ev.now _
    refine Ev.bind eadd (Ev.bind esub (Ev.bind emul (Ev.pos rfl (Ev.pos rfl (Ev.pos rfl ?_)))))
    refine Ev.bind (text_ev _ _ (lm_small _ (m + 1) padd (by omega)) (by have := dg_len (m + 1) _ padd; omega)) ?_
    refine Ev.bind (dplus_ev gs a hs2 b (by omega) (by omega)) ?_
    refine Ev.bind (by exact dectext_ev _ _ (by have := dg_len (m + 1) _ padd; omega)) (Ev.pos rfl ?_)
    refine Ev.bind (text_ev _ _ (lm_small _ (m + 1) psub (by omega)) (by have := dg_len (m + 1) _ psub; omega)) ?_
    refine Ev.bind (dminus_ev gs a hs2 b (by omega) (by omega)) ?_
    refine Ev.bind (by exact dectext_ev _ _ (by have := dg_len (m + 1) _ psub; omega)) (Ev.pos rfl ?_)
    refine Ev.bind (text_ev _ _ (lm_small _ (m + m) pmul (by omega)) (by have := dg_len (m + m) _ pmul; omega)) ?_
    refine Ev.bind (dtimes_ev gs a hs2 b (by omega) (by omega)) ?_
    refine Ev.bind (by exact dectext_ev _ _ (by have := dg_len (m + m) _ pmul; omega)) (Ev.pos rfl ?_)
    refine Ev.bind (cmp_ev gs a hs2 b la lb hga hhb) ?_
    refine Ev.bind (deccmp_ev gs a hs2 b (by omega) (by omega) hga hhb) ?_
    refine Ev.eq (Ev.now _) ?_
    exact beq_self_eq_true _
  · refine Ev.bind (both_no s t w0 ?_) (Ev.neg (by decide) (Ev.now _))
    by_cases c1 : 300 < s.size
    · exact Or.inl c1
    · by_cases c2 : 300 < t.size
      · exact Or.inr (Or.inl c2)
      · by_cases d1 : isD s.data.toList = true
        · by_cases d2 : isD t.data.toList = true
          · exact absurd ⟨by omega, by omega, d1, d2⟩ ok
          · exact Or.inr (Or.inr (Or.inr (by simpa using d2)))
        · exact Or.inr (Or.inr (Or.inl (by simpa using d1)))
end Go.Proofs.Ytlbljdjbcbgnlaa.Pure
