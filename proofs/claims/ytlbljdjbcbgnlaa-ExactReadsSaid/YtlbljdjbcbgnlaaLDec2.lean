/- The reference's division, and how many bits a number has. No conditions. -/
import Derived.Test.YtlbljdjbcbgnlaaPXx47
import Derived.Test.YtlbljdjbcbgnlaaLDec
namespace Go.Proofs.Ytlbljdjbcbgnlaa.LDec
open Go.RowKit Go.Proofs.YtlbljdjbcbgnlaaW.PrintWords Go.Proofs.Ytlbljdjbcbgnlaa.PX Go.Proofs.Ytlbljdjbcbgnlaa.Aid
set_option linter.unusedVariables false
set_option linter.unusedSimpArgs false

/-- The inner loop of the division: the size is taken away as long as it goes. -/
theorem split_in (s : Nat) (hs : 0 < s) (q : List Int) (hq : q.length ≤ 1000000000000) (i : Int) (an : Bool) (al : List Int) (bn : Bool) (bln : List Int) (R : Bool × List Int × Bool × List Int) : ∀ (t c : Nat), c + t / s ≤ 9 → (dg t).length ≤ 1000000000000 →
    Ev (fun k => maskref4_Dec_Split.l0 k ([((c + t / s : Nat) : Int)] ++ q) (wrap64 (i - 1)) an al bn bln false (dg (t % s)) false (dg s)) R →
    Ev (fun k => maskref4_Dec_Split.l1 k q i (c : Int) an al bn bln false (dg t) false (dg s)) R := by
  intro t
  induction t using Nat.strongRecOn with
  | _ t ih =>
    intro c hc hl h
    refine Ev.step (fun k => maskref4_Dec_Split.l1.eq_2 ..) ?_
    refine Ev.bind (less_ev t s hl) ?_
    by_cases d : t < s
    · refine Ev.pos (decide_eq_true d) ?_
      refine Ev.val rfl (Ev.pos (by simp; omega) ?_)
      rw [Nat.div_eq_of_lt d, Nat.mod_eq_of_lt d, Nat.add_zero] at h
      exact h
    · refine Ev.neg (by simp; omega) ?_
      refine Ev.bind (minus_ev t s hs (by omega) hl) ?_
      have e1 : t / s = (t - s) / s + 1 := by rw [Nat.div_eq_sub_div hs (by omega)]
      have e2 : t % s = (t - s) % s := by rw [Nat.mod_eq_sub_mod (by omega)]
      have hc9 : c ≤ 9 := Nat.le_trans (Nat.le_add_right c (t / s)) hc
      have w : wrap64 ((c : Int) + 1) = ((c + 1 : Nat) : Int) := by rw [w64 (by omega) (by omega)]; omega
      rw [w]
      refine ih (t - s) (by omega) (c + 1) (by omega) (Nat.le_trans (len_mono (by omega)) hl) ?_
      rw [show c + 1 + (t - s) / s = c + t / s by omega, ← e2]
      exact h
theorem div_step (s T t X y : Nat) (hs : 0 < s) : T * (t / s + 10 * y) + (t % s * T + X) / s = T * 10 * y + (T * t + X) / s ∧ (t % s * T + X) % s = (T * t + X) % s := by
  have e : T * t + X = s * (T * (t / s)) + (t % s * T + X) := by
    conv => lhs; rw [← Nat.div_add_mod t s]
    rw [Nat.mul_add, Nat.mul_left_comm, Nat.mul_comm T (t % s), Nat.add_assoc]
  rw [e, Nat.mul_add_div hs, Nat.mul_add_mod]
  refine ⟨?_, rfl⟩
  rw [Nat.mul_add, Nat.mul_assoc]
  omega
/-- The division of a number of digits by a number, digit by digit. -/
theorem split_out (s : Nat) (hs : 0 < s) (hls : (dg s).length ≤ 100000000000) (al : List Int) (ha : ok10 al) (hm : al.length ≤ 100000000000) : ∀ (n : Nat) (q : List Int) (r : Nat), n ≤ al.length → q.length + n = al.length → ok10 q → r < s →
    Ev (fun k => maskref4_Dec_Split.l0 k q ((n : Int) - 1) false al false (dg s) false (dg r) false (dg s)) (false, dg (10 ^ n * dv q + (r * 10 ^ n + dv (al.take n)) / s), false, dg ((r * 10 ^ n + dv (al.take n)) % s))
  | 0, q, r, h0, hq, ho, hr => by
    refine Ev.step (fun k => maskref4_Dec_Split.l0.eq_2 ..) (Ev.neg (by omega) ?_)
    refine Ev.val (trim_f _ ho) (Ev.neg (by decide) ?_)
    refine Ev.step (fun k => maskref4_Dec_Split.j2.eq_2 ..) (Ev.neg (by decide) ?_)
    simp only [List.take_zero, dv, Nat.pow_zero, Nat.mul_one, Nat.one_mul, Nat.add_zero, Nat.div_eq_of_lt hr, Nat.mod_eq_of_lt hr]
    exact Ev.now _
  | n + 1, q, r, h0, hq, ho, hr => by
    have e : (((n + 1 : Nat) : Int) - 1) = (n : Int) := by omega
    rw [e]
    have hn : n < al.length := by omega
    have rx := rd_ok ha hn
    have hlr : (dg r).length ≤ (dg s).length := len_mono (by omega)
    obtain ⟨d, hd⟩ : ∃ d : Nat, rd al (n : Int) = (d : Int) := ⟨(rd al (n : Int)).toNat, by omega⟩
    refine Ev.step (fun k => maskref4_Dec_Split.l0.eq_2 ..) (Ev.pos (by omega) (Ev.pos (by omega) (Ev.pos (by omega) ?_)))
    rw [hd]
    refine Ev.val rfl (Ev.pos (by simp; omega) ?_)
    refine Ev.val (trim_f false (ok10_append (ok10.mk (x := (d : Int)) ⟨by omega, by omega⟩ ok10_nil) (dg_ok r))) ?_
    have ht : dv ([(d : Int)] ++ dg r) = d + 10 * r := by
      rw [dv_append, dv_dg]
      simp [dv]
    rw [ht]
    have hdiv : (d + 10 * r) / s ≤ 9 := by
      have : (d + 10 * r) / s < 10 := by
        rw [Nat.div_lt_iff_lt_mul hs]
        omega
      omega
    have hlt : (dg (d + 10 * r)).length ≤ (dg s).length + 1 := by
      have h1 := len_mono (show d + 10 * r ≤ 10 * s by omega)
      have h2 : (dg (10 * s)).length = (dg s).length + 1 := by
        rw [dg_pos (by omega), List.length_cons, show 10 * s / 10 = s by omega]
      omega
    refine split_in s hs q (by omega) (n : Int) false al false (dg s) _ (d + 10 * r) 0 (by omega) (by omega) ?_
    rw [w64 (by omega) (by omega), Nat.zero_add]
    have h := split_out s hs hls al ha hm n ([(((d + 10 * r) / s : Nat) : Int)] ++ q) ((d + 10 * r) % s) (by omega) (by simp; omega) (ok10_append (ok10.mk (x := (((d + 10 * r) / s : Nat) : Int)) ⟨Int.natCast_nonneg _, Int.ofNat_le.mpr hdiv⟩ ok10_nil) ho) (Nat.mod_lt _ hs)
    refine Ev.eq h ?_
    have hq2 : dv ([(((d + 10 * r) / s : Nat) : Int)] ++ q) = (d + 10 * r) / s + 10 * dv q := by
      rw [dv_append]
      show ((((d + 10 * r) / s : Nat) : Int).toNat + 10 * 0) + 10 ^ 1 * dv q = _
      rw [Int.toNat_natCast, Nat.mul_zero, Nat.add_zero, Nat.pow_one]
    rw [hq2, dv_take hn, hd, Int.toNat_natCast]
    obtain ⟨k1, k2⟩ := div_step s (10 ^ n) (d + 10 * r) (dv (al.take n)) (dv q) hs
    have e3 : 10 ^ n * (d + 10 * r) + dv (al.take n) = r * 10 ^ (n + 1) + (dv (al.take n) + 10 ^ n * d) := by
      rw [Nat.pow_succ, Nat.mul_add, Nat.mul_comm r, Nat.mul_assoc]
      omega
    rw [k1, k2, e3, Nat.pow_succ]
/-- Division with rest. -/
theorem split_ev (a s : Nat) (hs : 0 < s) (hla : (dg a).length ≤ 100000000000) (hls : (dg s).length ≤ 100000000000) : Ev (fun k => maskref4_Dec_Split.f k false (dg a) false (dg s)) (false, dg (a / s), false, dg (a % s)) := by
  refine Ev.congr (fun k => show _ = maskref4_Dec_Split.l0 k ([] : List Int) (((dg a).length : Int) - 1) false (dg a) false (dg s) false (dg 0) false (dg s) by unfold maskref4_Dec_Split.f; rw [w64 (by omega) (by omega), dg_zero]) ?_
  have h := split_out s hs hls (dg a) (dg_ok a) hla (dg a).length [] 0 (Nat.le_refl _) (by simp) ok10_nil hs
  refine Ev.eq h ?_
  rw [List.take_length, dv_dg]
  simp [dv]
theorem bits_l : ∀ (n c : Nat), (dg n).length ≤ 100000000000 → c + bln n ≤ 1000000000000 → Ev (fun k => maskref4_Dec_BitsOf.l0 k (c : Int) false (dg 2) false (dg n)) ((c + bln n : Nat) : Int) := by
  intro n
  induction n using Nat.strongRecOn with
  | _ n ih =>
    intro c hl hc
    refine Ev.step (fun k => rfl) ?_
    by_cases h : n = 0
    · subst h
      refine Ev.neg (by rw [dg_zero]; simp) ?_
      have e : bln 0 = 0 := by rw [bln]; simp
      rw [e, Nat.add_zero]
      exact Ev.now _
    · have h2 := bl_pos h
      refine Ev.pos (by rw [dg_pos h]; simp) ?_
      refine Ev.bind (split_ev n 2 (by omega) hl (by have := dg_len 1 2 (by omega); omega)) ?_
      rw [show wrap64 ((c : Int) + 1) = ((c + 1 : Nat) : Int) by rw [w64 (by omega) (by omega)]; omega]
      have := ih (n / 2) (by omega) (c + 1) (Nat.le_trans (len_mono (by omega)) hl) (by omega)
      rw [h2, show c + (bln (n / 2) + 1) = c + 1 + bln (n / 2) by omega]
      exact this
theorem bitsOf_ev (neg : Bool) (n : Nat) (hl : (dg n).length ≤ 100000000000) (hb : bln n ≤ 1000000000000) : Ev (fun k => maskref4_Dec_BitsOf.f k neg (dg n)) ((bln n : Nat) : Int) := by
  refine Ev.congr (fun k => show _ = ((maskref4_DecInt.f k 2).bind fun p => maskref4_Dec_BitsOf.l0 k 0 p.1 p.2 false (dg n)) from rfl) ?_
  refine Ev.bind (decInt_ev 2 (by omega) (by omega)) ?_
  have := bits_l n 0 hl (by omega)
  rw [Nat.zero_add] at this
  exact this
end Go.Proofs.Ytlbljdjbcbgnlaa.LDec
