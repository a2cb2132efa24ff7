/- Long numbers: compared, added, subtracted, divided by a small one. No conditions. -/
import Derived.Test.YtlbljdjbcbgnlaaPXx9
import Derived.Test.YtlbljdjbcbgnlaaPXx12
import Derived.Test.YtlbljdjbcbgnlaaPXx16
import Derived.Test.YtlbljdjbcbgnlaaPXx40
import Derived.Test.YtlbljdjbcbgnlaaLNum
import Derived.Laws.Bits64b
namespace Go.Proofs.Ytlbljdjbcbgnlaa.LNum
open Go.RowKit Go.Proofs.YtlbljdjbcbgnlaaW.PrintWords Go.Proofs.Ytlbljdjbcbgnlaa.PX Go.Proofs.Ytlbljdjbcbgnlaa.Aid Go.Proofs.Ytlbljdjbcbgnlaa.LDec
set_option linter.unusedVariables false
set_option linter.unusedSimpArgs false

theorem sgn_f (a : Int) : exact_sign.f a = some (if a < 0 then -1 else if 0 < a then 1 else 0) := by
  unfold exact_sign.f mx mn
  congr 1
  by_cases c : a < 0
  · rw [if_pos c, if_pos (show a < 1 by omega)]
    split <;> omega
  · rw [if_neg c]
    by_cases d : 0 < a
    · rw [if_pos d]
      by_cases e : a < 1
      · omega
      · rw [if_neg e]; rfl
    · rw [if_neg d, if_pos (show a < 1 by omega)]
      split <;> omega
def sg (a b : Nat) : Int := if a < b then -1 else if b < a then 1 else 0
theorem sg_add (u v z : Nat) : sg (u + z) (v + z) = sg u v := by
  unfold sg
  simp only [Nat.add_lt_add_iff_right]
theorem top_lt (u t v p q : Nat) (hu : u < t) (h : p < q) : u + t * p < v + t * q := by
  have := Nat.mul_le_mul_left t (show p + 1 ≤ q from h)
  rw [Nat.mul_add, Nat.mul_one] at this
  omega
theorem cmp_l (xs ys : List Int) (hx : ok32 xs) (hy : ok32 ys) (hm : xs.length ≤ 1000000000) (he : xs.length = ys.length) : ∀ i : Nat, i ≤ xs.length → Ev (fun k => exact_cmpMag.l0 k xs ys ((i : Int) - 1)) (sg (lv (xs.take i)) (lv (ys.take i)))
  | 0, _ => by
    refine Ev.step (fun k => rfl) (Ev.neg (by omega) ?_)
    simp only [List.take_zero, sg, Nat.lt_irrefl, if_false]
    exact Ev.now _
  | i + 1, h => by
    have e : (((i + 1 : Nat) : Int) - 1) = (i : Int) := by omega
    rw [e]
    have rx := rd32 hx (i := i) (by omega)
    have ry := rd32 hy (i := i) (by omega)
    refine Ev.step (fun k => rfl) (Ev.pos (by omega) (Ev.pos (by omega) (Ev.pos (by omega) (Ev.pos (by omega) ?_))))
    have tx := lv_take (l := xs) (i := i) (by omega)
    have ty := lv_take (l := ys) (i := i) (by omega)
    have bx := lv_lt (xs.take i) (ok32_take hx i)
    have by' := lv_lt (ys.take i) (ok32_take hy i)
    rw [List.length_take, Nat.min_eq_left (by omega)] at bx by'
    by_cases c : rd xs (i : Int) = rd ys (i : Int)
    · refine Ev.pos c ?_
      rw [w64 (by omega) (by omega)]
      refine Ev.eq (cmp_l xs ys hx hy hm he i (by omega)) ?_
      rw [tx, ty, c]
      exact (sg_add _ _ _).symm
    · refine Ev.neg c ?_
      rw [w64 (x := rd xs (i : Int)) (by omega) (by omega), w64 (x := rd ys (i : Int)) (by omega) (by omega), w64 (by omega) (by omega)]
      refine Ev.val (sgn_f _) ?_
      refine Ev.eq (Ev.now _) ?_
      rw [tx, ty]
      obtain ⟨p, hp⟩ : ∃ p, rd xs (i : Int) = ((p : Nat) : Int) := ⟨(rd xs (i : Int)).toNat, by omega⟩
      obtain ⟨q, hq⟩ : ∃ q, rd ys (i : Int) = ((q : Nat) : Int) := ⟨(rd ys (i : Int)).toNat, by omega⟩
      rw [hp, hq] at c ⊢
      simp only [Int.toNat_natCast]
      unfold sg
      by_cases d : p < q
      · have := top_lt (lv (xs.take i)) (4294967296 ^ i) (lv (ys.take i)) p q bx d
        rw [if_pos (by omega), if_pos this]
      · have := top_lt (lv (ys.take i)) (4294967296 ^ i) (lv (xs.take i)) q p by' (by omega)
        rw [if_neg (by omega), if_pos (by omega), if_neg (by omega), if_pos this]
theorem cmpMag_ev (a b : Nat) (hl : (lm a).length ≤ 1000000000) (hk : (lm b).length ≤ 1000000000) : Ev (fun k => exact_cmpMag.f k (lm a) (lm b)) (sg a b) := by
  by_cases c : (lm a).length = (lm b).length
  · refine Ev.congr (fun k => by unfold exact_cmpMag.f; rw [if_pos (by omega), w64 (by omega) (by omega)]) ?_
    refine Ev.eq (cmp_l (lm a) (lm b) (lm_ok a) (lm_ok b) (by omega) c (lm a).length (Nat.le_refl _)) ?_
    rw [List.take_length, c, List.take_length, lv_lm, lv_lm]
  · refine Ev.congr (fun k => by unfold exact_cmpMag.f; rw [if_neg (by omega), w64 (by omega) (by omega)]) ?_
    refine Ev.val (sgn_f _) ?_
    refine Ev.eq (Ev.now _) ?_
    unfold sg
    by_cases d : (lm a).length < (lm b).length
    · have := lml_lt d
      rw [if_pos (by omega), if_pos this]
    · have := lml_lt (show (lm b).length < (lm a).length by omega)
      rw [if_neg (by omega), if_pos (by omega), if_neg (by omega), if_pos this]
theorem set_acc (acc : List Int) (m : Nat) (v : Int) : (acc ++ List.replicate (m + 1) 0).set acc.length v = (acc ++ [v]) ++ List.replicate m 0 := by
  rw [List.set_append_right _ _ (Nat.le_refl _), Nat.sub_self, List.replicate_succ, List.set_cons_zero, List.append_assoc]
  rfl
theorem add_step (a c x y X Y T s c' B : Nat) (h : a + T * c = X + Y) (e : c + x + y = s + B * c') : a + T * s + T * B * c' = X + T * x + (Y + T * y) := by
  have e2 : T * (c + x + y) = T * (s + B * c') := by rw [e]
  rw [Nat.mul_add, Nat.mul_add, Nat.mul_add, ← Nat.mul_assoc] at e2
  generalize T * c = a1 at *
  generalize T * x = a2 at *
  generalize T * y = a3 at *
  generalize T * s = a4 at *
  generalize T * B * c' = a5 at *
  omega
theorem add_l (xs ys : List Int) (hx : ok32 xs) (hy : ok32 ys) (hm : xs.length ≤ 1000000000) (hl : ys.length ≤ xs.length) : ∀ (n i : Nat) (acc : List Int) (c : Nat), i + n = xs.length → acc.length = i → ok32 acc → c ≤ 1 → lv acc + 4294967296 ^ i * c = lv (xs.take i) + lv (ys.take i) →
    ∃ r, Ev (fun k => addP.l0 k xs ys (acc ++ List.replicate (n + 1) 0) (c : Int) xs (xs.length : Int) (i : Int)) r ∧ ok32 r ∧ lv r = lv xs + lv ys
  | 0, i, acc, c, hi, ha, ho, hc, h => by
    have hi' : i = xs.length := by omega
    subst hi'
    refine ⟨acc ++ [(c : Int)], ?_, ok32_app ho (ok32.mk ⟨by omega, by omega⟩ ok32_nil), ?_⟩
    · refine Ev.step (fun k => rfl) (Ev.neg (by omega) (Ev.pos (by omega) (Ev.pos (by simp; omega) ?_)))
      refine Ev.eq (Ev.now _) ?_
      rw [show ((xs.length : Int)).toNat = acc.length by omega, set_acc, show (c : Int) % 4294967296 = (c : Int) by omega]
      simp
    · rw [lv_append, ha]
      show lv acc + 4294967296 ^ xs.length * ((c : Int).toNat + 4294967296 * 0) = _
      rw [List.take_length, List.take_of_length_le hl] at h
      rw [Int.toNat_natCast, Nat.mul_zero, Nat.add_zero, h]
  | n + 1, i, acc, c, hi, ha, ho, hc, h => by
    have hix : i < xs.length := by omega
    have tx := lv_take (l := xs) hix
    have rx := rd32 hx hix
    obtain ⟨p, hp⟩ : ∃ p : Nat, rd xs (i : Int) = (p : Int) := ⟨(rd xs (i : Int)).toNat, by omega⟩
    have step : ∀ (q : Nat), q < 4294967296 → lv (ys.take (i + 1)) = lv (ys.take i) + 4294967296 ^ i * q → ∃ r, Ev (fun k => addP.l0 k xs ys ((acc ++ List.replicate (n + 1 + 1) 0).set (i : Int).toNat (((c + p + q : Nat) : Int) % 4294967296)) (((c + p + q : Nat) : Int) / 4294967296) xs (xs.length : Int) ((i + 1 : Nat) : Int)) r ∧ ok32 r ∧ lv r = lv xs + lv ys := by
      intro q hq hy2
      rw [show (i : Int).toNat = acc.length by omega, set_acc, show ((c + p + q : Nat) : Int) % 4294967296 = (((c + p + q) % 4294967296 : Nat) : Int) by omega, show ((c + p + q : Nat) : Int) / 4294967296 = (((c + p + q) / 4294967296 : Nat) : Int) by omega]
      refine add_l xs ys hx hy hm hl n (i + 1) _ _ (by omega) (by simp [ha]) (ok32_app ho (ok32.mk ⟨by omega, by omega⟩ ok32_nil)) (by omega) ?_
      rw [lv_append, ha, tx, hp, hy2, Nat.pow_succ]
      simp only [lv, Nat.mul_zero, Nat.add_zero, Int.toNat_natCast]
      exact add_step _ c p q _ _ _ _ _ _ h (by omega)
    rw [hp] at rx
    by_cases cy : i < ys.length
    · have ry := rd32 hy cy
      obtain ⟨q, hq⟩ : ∃ q : Nat, rd ys (i : Int) = (q : Int) := ⟨(rd ys (i : Int)).toNat, by omega⟩
      rw [hq] at ry
      obtain ⟨r, h1, h2⟩ := step q (by omega) (by rw [lv_take cy, hq, Int.toNat_natCast])
      refine ⟨r, ?_, h2⟩
      refine Ev.step (fun k => rfl) (Ev.pos (by omega) (Ev.pos (by omega) (Ev.pos (by omega) (Ev.pos (by omega) (Ev.pos (by simp; omega) ?_)))))
      rw [hp, hq, ws hix (by omega), wu (x := (p : Int)) (by omega) (by omega), wu (x := (c : Int) + p) (by omega) (by omega), wu (x := (q : Int)) (by omega) (by omega), wu (x := (c : Int) + p + q) (by omega) (by omega), show (c : Int) + p + q = ((c + p + q : Nat) : Int) by omega]
      exact h1
    · obtain ⟨r, h1, h2⟩ := step 0 (by omega) (by rw [List.take_of_length_le (by omega), List.take_of_length_le (by omega)]; simp)
      refine ⟨r, ?_, h2⟩
      refine Ev.step (fun k => rfl) (Ev.pos (by omega) (Ev.pos (by omega) (Ev.pos (by omega) (Ev.neg (by omega) (Ev.pos (by simp; omega) ?_)))))
      rw [hp, ws hix (by omega), wu (x := (p : Int)) (by omega) (by omega), wu (x := (c : Int) + p) (by omega) (by omega), show (c : Int) + p = ((c + p + 0 : Nat) : Int) by omega]
      exact h1
theorem addP_ev (a b : Nat) (hl : (lm a).length ≤ 1000000000) (hb : (lm b).length ≤ (lm a).length) : ∃ r, Ev (fun k => addP.f k (lm a) (lm b)) r ∧ ok32 r ∧ lv r = a + b := by
  obtain ⟨r, h1, h2, h3⟩ := add_l (lm a) (lm b) (lm_ok a) (lm_ok b) hl hb (lm a).length 0 [] 0 (by omega) rfl ok32_nil (by omega) (by simp [lv])
  rw [lv_lm, lv_lm] at h3
  refine ⟨r, ?_, h2, h3⟩
  refine Ev.congr (fun k => by unfold addP.f; rw [w64 (by omega) (by omega), if_pos (by omega), if_pos (by omega), show ((lm a).length + 1 : Int).toNat = (lm a).length + 1 by omega]) ?_
  exact h1
theorem addMag_ev (a b : Nat) (hl : (lm a).length ≤ 1000000000) (hb : (lm b).length ≤ 1000000000) : ∃ r, Ev (fun k => exact_addMag.f k (lm a) (lm b)) r ∧ ok32 r ∧ lv r = a + b := by
  by_cases c : (lm a).length < (lm b).length
  · obtain ⟨r, h1, h2, h3⟩ := addP_ev b a hb (by omega)
    exact ⟨r, Ev.congr (fun k => by unfold exact_addMag.f; rw [if_pos c]) h1, h2, by omega⟩
  · obtain ⟨r, h1, h2, h3⟩ := addP_ev a b hl (by omega)
    exact ⟨r, Ev.congr (fun k => by unfold exact_addMag.f; rw [if_neg c]) h1, h2, h3⟩
theorem sub_step (a y X Y T p q d bo bo' B : Nat) (h : a + Y = X + T * bo) (e : d + bo + q = p + B * bo') : a + T * d + (Y + T * q) = X + T * p + T * B * bo' := by
  have e2 : T * (d + bo + q) = T * (p + B * bo') := by rw [e]
  rw [Nat.mul_add, Nat.mul_add, Nat.mul_add, ← Nat.mul_assoc] at e2
  generalize T * d = a1 at *
  generalize T * bo = a2 at *
  generalize T * q = a3 at *
  generalize T * p = a4 at *
  generalize T * B * bo' = a5 at *
  omega
theorem subm_l (xs ys : List Int) (hx : ok32 xs) (hy : ok32 ys) (hm : xs.length ≤ 1000000000) (hl : ys.length ≤ xs.length) (hv : lv ys ≤ lv xs) : ∀ (n i : Nat) (acc : List Int) (bo : Nat), i + n = xs.length → acc.length = i → ok32 acc → bo ≤ 1 → lv acc + lv (ys.take i) = lv (xs.take i) + 4294967296 ^ i * bo →
    ∃ r, Ev (fun k => exact_subMag.l0 k ys (acc ++ List.replicate n 0) (-(bo : Int)) xs (xs.length : Int) (i : Int)) r ∧ ok32 r ∧ lv r = lv xs - lv ys
  | 0, i, acc, bo, hi, ha, ho, hb, h => by
    have hi' : i = xs.length := by omega
    subst hi'
    refine ⟨acc, ?_, ho, ?_⟩
    · refine Ev.step (fun k => rfl) (Ev.neg (by omega) ?_)
      refine Ev.eq (Ev.now _) ?_
      simp
    · rw [List.take_length, List.take_of_length_le hl] at h
      have h1 := lv_lt acc ho
      rw [ha] at h1
      have : bo = 0 := by
        rcases Nat.eq_zero_or_pos bo with e | e
        · exact e
        · have : bo = 1 := by omega
          subst this
          omega
      subst this
      omega
  | n + 1, i, acc, bo, hi, ha, ho, hb, h => by
    have hix : i < xs.length := by omega
    have tx := lv_take (l := xs) hix
    have rx := rd32 hx hix
    obtain ⟨p, hp⟩ : ∃ p : Nat, rd xs (i : Int) = (p : Int) := ⟨(rd xs (i : Int)).toNat, by omega⟩
    rw [hp] at rx
    have step : ∀ (q : Nat) (D : Int), q < 4294967296 → D = (p : Int) - bo - q → lv (ys.take (i + 1)) = lv (ys.take i) + 4294967296 ^ i * q → ∃ r, Ev (fun k => exact_subMag.l0 k ys ((acc ++ List.replicate (n + 1) 0).set (i : Int).toNat (D % 4294967296)) (D / 4294967296) xs (xs.length : Int) ((i + 1 : Nat) : Int)) r ∧ ok32 r ∧ lv r = lv xs - lv ys := by
      intro q D hq hD hy2
      obtain ⟨d, hd⟩ : ∃ d : Nat, D % 4294967296 = (d : Int) := ⟨(D % 4294967296).toNat, by omega⟩
      obtain ⟨b, hb2⟩ : ∃ b : Nat, D / 4294967296 = -(b : Int) := ⟨(-(D / 4294967296)).toNat, by omega⟩
      rw [show (i : Int).toNat = acc.length by omega, set_acc, hd, hb2]
      refine subm_l xs ys hx hy hm hl hv n (i + 1) _ b (by omega) (by simp [ha]) (ok32_app ho (ok32.mk ⟨by omega, by omega⟩ ok32_nil)) (by omega) ?_
      rw [lv_append, ha, tx, hp, hy2, Nat.pow_succ]
      simp only [lv, Nat.mul_zero, Nat.add_zero, Int.toNat_natCast]
      exact sub_step _ 0 _ _ _ p q d bo b _ h (by omega)
    by_cases cy : i < ys.length
    · have ry := rd32 hy cy
      obtain ⟨q, hq⟩ : ∃ q : Nat, rd ys (i : Int) = (q : Int) := ⟨(rd ys (i : Int)).toNat, by omega⟩
      rw [hq] at ry
      obtain ⟨r, h1, h2⟩ := step q ((p : Int) + -(bo : Int) - q) (by omega) (by omega) (by rw [lv_take cy, hq, Int.toNat_natCast])
      refine ⟨r, ?_, h2⟩
      refine Ev.step (fun k => rfl) (Ev.pos (by omega) (Ev.pos (by omega) (Ev.pos (by omega) (Ev.pos (by omega) (Ev.pos (by simp; omega) ?_)))))
      rw [hp, hq, ws hix (by omega), w64 (x := (p : Int)) (by omega) (by omega), w64 (x := (p : Int) + -(bo : Int)) (by omega) (by omega), w64 (x := (q : Int)) (by omega) (by omega), w64 (x := (p : Int) + -(bo : Int) - q) (by omega) (by omega)]
      exact h1
    · obtain ⟨r, h1, h2⟩ := step 0 ((p : Int) + -(bo : Int)) (by omega) (by omega) (by rw [List.take_of_length_le (by omega), List.take_of_length_le (by omega)]; simp)
      refine ⟨r, ?_, h2⟩
      refine Ev.step (fun k => rfl) (Ev.pos (by omega) (Ev.pos (by omega) (Ev.pos (by omega) (Ev.neg (by omega) (Ev.pos (by simp; omega) ?_)))))
      rw [hp, ws hix (by omega), w64 (x := (p : Int)) (by omega) (by omega), w64 (x := (p : Int) + -(bo : Int)) (by omega) (by omega)]
      exact h1
theorem subMag_ev (a b : Nat) (hl : (lm a).length ≤ 1000000000) (h : b ≤ a) : ∃ r, Ev (fun k => exact_subMag.f k (lm a) (lm b)) r ∧ ok32 r ∧ lv r = a - b := by
  obtain ⟨r, h1, h2, h3⟩ := subm_l (lm a) (lm b) (lm_ok a) (lm_ok b) hl (lml_mono h) (by rw [lv_lm, lv_lm]; exact h) (lm a).length 0 [] 0 (by omega) rfl ok32_nil (by omega) (by simp [lv])
  rw [lv_lm, lv_lm] at h3
  refine ⟨r, ?_, h2, h3⟩
  refine Ev.congr (fun k => by unfold exact_subMag.f; rw [if_pos (by omega), if_pos (by omega), show ((lm a).length : Int).toNat = (lm a).length by omega]) ?_
  exact h1
/-- The sum of two long numbers. -/
def lplus (s : Bool) (a : Nat) (t : Bool) (b : Nat) : Bool × Nat := if s = t then (s, a + b) else if b ≤ a then (s, a - b) else (t, b - a)
theorem plus_ev (s : Bool) (a : Nat) (t : Bool) (b : Nat) (hl : (lm a).length ≤ 1000000000) (hk : (lm b).length ≤ 1000000000) : Ev (fun k => exact_plus.f k s (lm a) t (lm b)) (ln (lplus s a t b).1 (lplus s a t b).2) := by
  unfold lplus
  by_cases c : s = t
  · subst c
    obtain ⟨r, h1, h2, h3⟩ := addMag_ev a b hl hk
    refine Ev.congr (fun k => by unfold exact_plus.f; rw [if_pos (by simp)]) ?_
    refine Ev.bind h1 (Ev.val (made_f s h2) ?_)
    rw [h3, if_pos rfl]
    exact Ev.now _
  · rw [if_neg c]
    refine Ev.congr (fun k => by unfold exact_plus.f; rw [if_neg (by simpa using c)]) ?_
    refine Ev.bind (cmpMag_ev a b hl hk) ?_
    unfold sg
    by_cases d : b ≤ a
    · obtain ⟨r, h1, h2, h3⟩ := subMag_ev a b hl d
      rw [if_pos d]
      refine Ev.pos (by rw [if_neg (by omega)]; split <;> omega) ?_
      refine Ev.bind h1 (Ev.val (made_f s h2) ?_)
      rw [h3]
      exact Ev.now _
    · obtain ⟨r, h1, h2, h3⟩ := subMag_ev b a hk (by omega)
      rw [if_neg d]
      refine Ev.neg (by rw [if_pos (by omega)]; omega) ?_
      refine Ev.bind h1 (Ev.val (made_f t h2) ?_)
      rw [h3]
      exact Ev.now _
theorem fit_f (s : Bool) (n : Nat) (hl : (lm n).length ≤ 1000000000) : exact_fit.f s (lm n) = some (if 65536 < bln n then (false, [], 3) else (s, lm n, 0)) := by
  unfold exact_fit.f
  rw [bits_f s n hl]
  by_cases c : 65536 < bln n
  · rw [Option.bind_some, if_pos (by omega), if_pos c]
  · rw [Option.bind_some, if_neg (by omega), if_neg c]
end Go.Proofs.Ytlbljdjbcbgnlaa.LNum
