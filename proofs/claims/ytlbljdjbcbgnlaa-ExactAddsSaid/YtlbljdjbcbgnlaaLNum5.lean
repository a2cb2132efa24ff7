/- The reference's sums of signed numbers, and its comparison. No conditions. -/
import Derived.Test.YtlbljdjbcbgnlaaPXx73
import Derived.Test.YtlbljdjbcbgnlaaLNum2
namespace Go.Proofs.Ytlbljdjbcbgnlaa.LNum
open Go.RowKit Go.Proofs.YtlbljdjbcbgnlaaW.PrintWords Go.Proofs.Ytlbljdjbcbgnlaa.PX Go.Proofs.Ytlbljdjbcbgnlaa.Aid Go.Proofs.Ytlbljdjbcbgnlaa.LDec
set_option linter.unusedVariables false
set_option linter.unusedSimpArgs false

/-- The sum of digits of one sign. -/
theorem dadd_l (an : Bool) (al bl_ : List Int) (ha : ok10 al) (hb : ok10 bl_) (M : Nat) (ma : al.length ≤ M) (mb : bl_.length ≤ M) (hM : M ≤ 1000000000) (hM2 : M = al.length ∨ M = bl_.length) (bn : Bool) : ∀ (m i : Nat) (acc : List Int) (c : Nat), 2 * (M - i) + c = m → acc.length = i → i ≤ M + 1 → (M < i → c = 0) → c ≤ 1 → ok10 acc → dv acc + 10 ^ i * c = dv (al.take i) + dv (bl_.take i) →
    Ev (fun k => plusP.l0 k acc (c : Int) (i : Int) an al bn bl_) (dn an (dv al + dv bl_)) := by
  intro m
  induction m using Nat.strongRecOn with
  | _ m ih =>
    intro i acc c hm hl hi hc0 hc h10 h
    have step : ∀ (p q : Nat), p ≤ 9 → q ≤ 9 → (i < M ∨ (c = 1 ∧ p = 0 ∧ q = 0)) → dv (al.take (i + 1)) = dv (al.take i) + 10 ^ i * p → dv (bl_.take (i + 1)) = dv (bl_.take i) + 10 ^ i * q →
        Ev (fun k => plusP.l0 k (acc ++ [Int.tmod ((c + p + q : Nat) : Int) 10]) (wrap64 (Int.tdiv ((c + p + q : Nat) : Int) 10)) (wrap64 ((i : Int) + 1)) an al bn bl_) (dn an (dv al + dv bl_)) := by
      intro p q hp hq hs h1 h2
      have t1 : Int.tdiv ((c + p + q : Nat) : Int) 10 = (((c + p + q) / 10 : Nat) : Int) := by rw [Int.tdiv_eq_ediv_of_nonneg (by omega)]; rfl
      have t2 : Int.tmod ((c + p + q : Nat) : Int) 10 = (((c + p + q) % 10 : Nat) : Int) := by rw [Int.tmod_eq_emod_of_nonneg (by omega)]; rfl
      rw [t1, t2, w64 (x := (((c + p + q) / 10 : Nat) : Int)) (by omega) (by omega), ws (show i < 2000000000 by omega) (by omega)]
      refine ih (2 * (M - (i + 1)) + (c + p + q) / 10) ?_ (i + 1) _ _ rfl (by rw [List.length_append, List.length_singleton, hl]) ?_ ?_ (by omega) (ok10_append h10 (ok10.mk ⟨by omega, by omega⟩ ok10_nil)) ?_
      · rcases hs with hs | ⟨e1, e2, e3⟩
        · omega
        · subst e1 e2 e3; omega
      · rcases hs with hs | ⟨e1, e2, e3⟩
        · omega
        · have : ¬ M < i := fun z => by have := hc0 z; omega
          omega
      · intro z
        rcases hs with hs | ⟨e1, e2, e3⟩
        · omega
        · subst e1 e2 e3; rfl
      · rw [h1, h2, dv_append, hl, Nat.pow_succ]
        simp only [dv, Int.toNat_natCast, Nat.mul_zero, Nat.add_zero]
        exact add_step _ c p q _ _ _ _ _ _ h (by omega)
    have none1 : ∀ l : List Int, ¬ i < l.length → dv (l.take (i + 1)) = dv (l.take i) + 10 ^ i * 0 := fun l hn => by rw [rd_out hn]; simp
    have some1 : ∀ l : List Int, i < l.length → dv (l.take (i + 1)) = dv (l.take i) + 10 ^ i * (rd l (i : Int)).toNat := fun l hn => dv_take hn
    have body : (i < M ∨ c = 1) → Ev (fun k => plusP.j1 k acc (c : Int) (i : Int) true an al bn bl_) (dn an (dv al + dv bl_)) := by
      intro hs
      refine Ev.step (fun k => plusP.j1.eq_2 ..) (Ev.pos rfl ?_)
      by_cases ca : i < al.length
      · have ra := rd_ok ha ca
        have sa := some1 al ca
        obtain ⟨p, hp⟩ : ∃ p : Nat, rd al (i : Int) = (p : Int) := ⟨(rd al (i : Int)).toNat, by omega⟩
        rw [hp] at ra sa
        rw [Int.toNat_natCast] at sa
        refine Ev.pos (by omega) (Ev.pos (by omega) ?_)
        by_cases cb : i < bl_.length
        · have rb := rd_ok hb cb
          have sb := some1 bl_ cb
          obtain ⟨q, hq⟩ : ∃ q : Nat, rd bl_ (i : Int) = (q : Int) := ⟨(rd bl_ (i : Int)).toNat, by omega⟩
          rw [hq] at rb sb
          rw [Int.toNat_natCast] at sb
          refine Ev.pos (by omega) (Ev.pos (by omega) ?_)
          have := step p q (by omega) (by omega) (Or.inl (by omega)) sa sb
          rw [hp, hq, w64 (x := (c : Int) + (p : Int)) (by omega) (by omega), w64 (x := (c : Int) + (p : Int) + (q : Int)) (by omega) (by omega), show (c : Int) + (p : Int) + (q : Int) = ((c + p + q : Nat) : Int) by omega]
          exact this
        · refine Ev.neg (by omega) (Ev.pos (by omega) ?_)
          have := step p 0 (by omega) (by omega) (Or.inl (by omega)) sa (none1 bl_ cb)
          rw [hp, w64 (x := (c : Int) + (p : Int)) (by omega) (by omega), show (c : Int) + (p : Int) = ((c + p + 0 : Nat) : Int) by omega]
          exact this
      · refine Ev.neg (by omega) ?_
        by_cases cb : i < bl_.length
        · have rb := rd_ok hb cb
          have sb := some1 bl_ cb
          obtain ⟨q, hq⟩ : ∃ q : Nat, rd bl_ (i : Int) = (q : Int) := ⟨(rd bl_ (i : Int)).toNat, by omega⟩
          rw [hq] at rb sb
          rw [Int.toNat_natCast] at sb
          refine Ev.pos (by omega) (Ev.pos (by omega) (Ev.pos (by omega) ?_))
          have := step 0 q (by omega) (by omega) (Or.inl (by omega)) (none1 al ca) sb
          rw [hq, w64 (x := (c : Int) + (q : Int)) (by omega) (by omega), show (c : Int) + (q : Int) = ((c + 0 + q : Nat) : Int) by omega]
          exact this
        · refine Ev.neg (by omega) (Ev.pos (by omega) ?_)
          have hc1 : c = 1 := by
            rcases hs with hs | hs
            · rcases hM2 with e | e <;> omega
            · exact hs
          have := step 0 0 (by omega) (by omega) (Or.inr ⟨hc1, rfl, rfl⟩) (none1 al ca) (none1 bl_ cb)
          exact this
    refine Ev.step (fun k => plusP.l0.eq_2 ..) ?_
    by_cases ca : i < al.length
    · exact Ev.pos (by omega) (body (Or.inl (by omega)))
    · refine Ev.neg (by omega) ?_
      by_cases cb : i < bl_.length
      · exact Ev.pos (by omega) (body (Or.inl (by omega)))
      · refine Ev.neg (by omega) ?_
        by_cases cc : c = 1
        · rw [decide_eq_true (show (c : Int) > 0 by omega)]
          exact body (Or.inr cc)
        · have c0 : c = 0 := by omega
          subst c0
          refine Ev.step (fun k => plusP.j1.eq_2 ..) (Ev.neg (by decide) ?_)
          refine Ev.val (trim_f an h10) ?_
          rw [List.take_of_length_le (by omega), List.take_of_length_le (by omega), Nat.mul_zero, Nat.add_zero] at h
          rw [h]
          exact Ev.now _
theorem dplus_ev (s : Bool) (a : Nat) (t : Bool) (b : Nat) (hl : (dg a).length ≤ 1000000000) (hk : (dg b).length ≤ 1000000000) : Ev (fun k => maskref4_Dec_Plus.f k s (dg a) t (dg b)) (dn (lplus s a t b).1 (lplus s a t b).2) := by
  unfold lplus
  by_cases c : s = t
  · subst c
    refine Ev.congr (fun k => show _ = plusP.l0 k ([] : List Int) 0 0 s (dg a) s (dg b) by unfold maskref4_Dec_Plus.f; rw [if_pos (by simp)]) ?_
    rw [if_pos rfl]
    have := dadd_l s (dg a) (dg b) (dg_ok a) (dg_ok b) (max (dg a).length (dg b).length) (by omega) (by omega) (by omega) (by omega) s _ 0 [] 0 rfl rfl (by omega) (by omega) (by omega) ok10_nil (by simp [dv])
    rw [dv_dg, dv_dg] at this
    exact this
  · refine Ev.congr (fun k => show _ = ((maskref4_less.f k (dg a) (dg b)).bind fun z => if z = true then plusP.l1 k ([] : List Int) 0 (dg b) ((dg b).length : Int) 0 t (dg b) s (dg a) else plusP.l1 k ([] : List Int) 0 (dg a) ((dg a).length : Int) 0 s (dg a) t (dg b)) by unfold maskref4_Dec_Plus.f; rw [if_neg (by simpa using c)]) ?_
    refine Ev.bind (less_ev a b (by omega)) ?_
    rw [if_neg c]
    by_cases d : b ≤ a
    · refine Ev.neg (by simp; omega) ?_
      rw [if_pos d]
      have := sub_l (dg a) (dg b) (dg_ok a) (dg_ok b) (by omega) (len_mono d) (by rw [dv_dg, dv_dg]; exact d) s (dg a) t (dg a).length 0 [] 0 (by omega) rfl ok10_nil (by omega) (by simp [dv])
      rw [dv_dg, dv_dg] at this
      exact this
    · refine Ev.pos (decide_eq_true (by omega)) ?_
      rw [if_neg d]
      have := sub_l (dg b) (dg a) (dg_ok b) (dg_ok a) (by omega) (len_mono (by omega)) (by rw [dv_dg, dv_dg]; omega) t (dg b) s (dg b).length 0 [] 0 (by omega) rfl ok10_nil (by omega) (by simp [dv])
      rw [dv_dg, dv_dg] at this
      exact this
theorem dminus_ev (s : Bool) (a : Nat) (t : Bool) (b : Nat) (hl : (dg a).length ≤ 1000000000) (hk : (dg b).length ≤ 1000000000) : Ev (fun k => maskref4_Dec_Minus.f k s (dg a) t (dg b)) (dn (lplus s a (!t && decide (0 < b)) b).1 (lplus s a (!t && decide (0 < b)) b).2) := by
  refine Ev.congr (fun k => show _ = maskref4_Dec_Plus.f k s (dg a) (!t && decide (0 < b)) (dg b) by unfold maskref4_Dec_Minus.f; rw [len_pos]) ?_
  exact dplus_ev s a _ b hl hk
theorem deccmp_ev (s : Bool) (a : Nat) (t : Bool) (b : Nat) (hl : (dg a).length ≤ 1000000000) (hk : (dg b).length ≤ 1000000000) (hs : a = 0 → s = false) (ht : b = 0 → t = false) : Ev (fun k => maskref4_DecCmp.f k s (dg a) t (dg b)) (if s = t then (if s = true then sg b a else sg a b) else if s = true then -1 else 1) := by
  refine Ev.congr (fun k => rfl) (Ev.bind (dminus_ev s a t b hl hk) ?_)
  unfold dn
  have fin : ∀ (g : Bool) (n : Nat) (R : Int), (R = if n = 0 then 0 else if g = true then -1 else 1) → Ev (fun k => if ((dg n).length : Int) = 0 then some 0 else if (g && decide (0 < n)) = true then some (-1) else some 1) R := by
    intro g n R hR
    by_cases z : n = 0
    · subst z
      refine Ev.pos (by rw [dg_zero]; rfl) ?_
      rw [hR, if_pos rfl]
      exact Ev.now _
    · refine Ev.neg (by rw [dg_pos z]; simp <;> omega) ?_
      rw [if_neg z] at hR
      rw [decide_eq_true (Nat.pos_of_ne_zero z), Bool.and_true]
      by_cases c : g = true
      · rw [if_pos c] at hR
        subst hR
        exact Ev.pos c (Ev.now _)
      · rw [if_neg c] at hR
        subst hR
        exact Ev.neg c (Ev.now _)
  refine fin _ _ _ ?_
  unfold lplus sg
  by_cases ha : a = 0 <;> by_cases hb : b = 0
  · have e1 := hs ha; have e2 := ht hb
    subst e1 e2 ha hb
    rfl
  · have e1 := hs ha
    subst e1 ha
    rw [decide_eq_true (Nat.pos_of_ne_zero hb), Bool.and_true]
    have hp : 0 < b := Nat.pos_of_ne_zero hb
    cases t <;> simp [hb, hp]
  · have e1 := ht hb
    subst e1 hb
    have hp : 0 < a := Nat.pos_of_ne_zero ha
    cases s <;> simp [ha, hp]
  · rw [decide_eq_true (Nat.pos_of_ne_zero hb), Bool.and_true]
    cases s <;> cases t <;> simp <;> (repeat' split) <;> simp_all <;> omega
end Go.Proofs.Ytlbljdjbcbgnlaa.LNum
