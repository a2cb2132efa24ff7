/- Long numbers multiplied; the reference's products. No conditions. -/
import Derived.Test.YtlbljdjbcbgnlaaPXx13
import Derived.Test.YtlbljdjbcbgnlaaPXx66
import Derived.Test.YtlbljdjbcbgnlaaLNum3
namespace Go.Proofs.Ytlbljdjbcbgnlaa.LNum
open Go.RowKit Go.Proofs.YtlbljdjbcbgnlaaW.PrintWords Go.Proofs.Ytlbljdjbcbgnlaa.PX Go.Proofs.Ytlbljdjbcbgnlaa.Aid Go.Proofs.Ytlbljdjbcbgnlaa.LDec
set_option linter.unusedVariables false
set_option linter.unusedSimpArgs false

theorem rd_set {l : List Int} {i j : Nat} {v : Int} (h : i < l.length) : rd (l.set i v) (j : Int) = if i = j then v else rd l (j : Int) := by
  unfold rd
  rw [Int.toNat_natCast, List.getD_eq_getElem?_getD, List.getD_eq_getElem?_getD, List.getElem?_set]
  by_cases e : i = j
  · subst e
    simp [h]
  · simp [e]
theorem lv_set : ∀ (l : List Int) (i : Nat) (v : Int), i < l.length → lv (l.set i v) + 4294967296 ^ i * (rd l (i : Int)).toNat = lv l + 4294967296 ^ i * v.toNat
  | [], i, v, h => absurd h (Nat.not_lt_zero _)
  | x :: xs, 0, v, h => by
    rw [List.set_cons_zero, lv, lv, Nat.pow_zero, Nat.one_mul, Nat.one_mul, show rd (x :: xs) ((0 : Nat) : Int) = x from rfl]
    omega
  | x :: xs, i + 1, v, h => by
    have ih := lv_set xs i v (by simpa using h)
    rw [List.set_cons_succ, lv, lv, Nat.pow_succ, show rd (x :: xs) ((i + 1 : Nat) : Int) = rd xs (i : Int) from rfl]
    have e1 : 4294967296 ^ i * 4294967296 * (rd xs (i : Int)).toNat = 4294967296 * (4294967296 ^ i * (rd xs (i : Int)).toNat) := by rw [Nat.mul_comm (4294967296 ^ i), Nat.mul_assoc]
    have e2 : 4294967296 ^ i * 4294967296 * v.toNat = 4294967296 * (4294967296 ^ i * v.toNat) := by rw [Nat.mul_comm (4294967296 ^ i), Nat.mul_assoc]
    rw [e1, e2]
    omega
theorem dv_set : ∀ (l : List Int) (i : Nat) (v : Int), i < l.length → dv (l.set i v) + 10 ^ i * (rd l (i : Int)).toNat = dv l + 10 ^ i * v.toNat
  | [], i, v, h => absurd h (Nat.not_lt_zero _)
  | x :: xs, 0, v, h => by
    rw [List.set_cons_zero, dv, dv, Nat.pow_zero, Nat.one_mul, Nat.one_mul, show rd (x :: xs) ((0 : Nat) : Int) = x from rfl]
    omega
  | x :: xs, i + 1, v, h => by
    have ih := dv_set xs i v (by simpa using h)
    rw [List.set_cons_succ, dv, dv, Nat.pow_succ, show rd (x :: xs) ((i + 1 : Nat) : Int) = rd xs (i : Int) from rfl]
    have e1 : 10 ^ i * 10 * (rd xs (i : Int)).toNat = 10 * (10 ^ i * (rd xs (i : Int)).toNat) := by rw [Nat.mul_comm (10 ^ i), Nat.mul_assoc]
    have e2 : 10 ^ i * 10 * v.toNat = 10 * (10 ^ i * v.toNat) := by rw [Nat.mul_comm (10 ^ i), Nat.mul_assoc]
    rw [e1, e2]
    omega
theorem ok32_set {l : List Int} {i : Nat} {v : Int} (h : ok32 l) (hv : 0 ≤ v ∧ v < 4294967296) : ok32 (l.set i v) := fun x hx => by
  rcases List.mem_or_eq_of_mem_set hx with e | rfl
  · exact h x e
  · exact hv
theorem dv_zeros : ∀ n, dv (List.replicate n 0) = 0
  | 0 => rfl
  | n + 1 => by rw [List.replicate_succ, dv, dv_zeros n]; rfl
theorem rd_zeros (n j : Nat) : rd (List.replicate n 0) (j : Int) = 0 := by
  unfold rd
  rw [Int.toNat_natCast, List.getD_eq_getElem?_getD, List.getElem?_replicate]
  split <;> rfl
theorem mul_bound (p q : Nat) (hp : p < 4294967296) (hq : q < 4294967296) : p * q ≤ 18446744065119617025 := by
  have := Nat.mul_le_mul (show p ≤ 4294967295 by omega) (show q ≤ 4294967295 by omega)
  omega
theorem times_in (T c o q x s c' W L L' Z : Nat) (h : L + T * c = Z) (hs : L' + T * o = L + T * s) (e : c + (o + x * q) = s + 4294967296 * c') : L' + T * 4294967296 * c' = Z + T * (x * q) := by
  have e2 : T * (c + (o + x * q)) = T * (s + 4294967296 * c') := by rw [e]
  rw [Nat.mul_add, Nat.mul_add, Nat.mul_add, ← Nat.mul_assoc T 4294967296] at e2
  generalize T * c = a1 at *
  generalize T * o = a2 at *
  generalize T * (x * q) = a3 at *
  generalize T * s = a4 at *
  generalize T * 4294967296 * c' = a5 at *
  omega
/-- The inner loop: one place of the first number. -/
theorem tim_in (ys : List Int) (hy : ok32 ys) (hm : ys.length ≤ 1000000000) (i : Nat) (hi : i ≤ 1000000000) (x : Nat) (hx : x < 4294967296) (xs : List Int) (xl ii : Int) (s t : Bool) (l0 : List Int) (Z : Nat) (R : Bool × List Int) (hlen : Nat) (hlb : i + ys.length < hlen)
    (hR : ∀ L : List Int, ok32 L → L.length = hlen → (∀ m, i + ys.length + 1 ≤ m → rd L (m : Int) = 0) → lv L = Z + 4294967296 ^ i * (x * lv ys) → Ev (fun k => exact_times.l0 k L xs xl (wrap64 (ii + 1)) s l0 t ys) R) :
    ∀ (n j : Nat) (L : List Int) (c : Nat), j + n = ys.length → ok32 L → L.length = hlen → c < 4294967296 → (∀ m, i + ys.length ≤ m → rd L (m : Int) = 0) → lv L + 4294967296 ^ (i + j) * c = Z + 4294967296 ^ i * (x * lv (ys.take j)) →
    Ev (fun k => exact_times.l1 k L (i : Int) (x : Int) (c : Int) xs xl ii ys (ys.length : Int) (j : Int) s l0 t ys) R
  | 0, j, L, c, hj, ho, hl, hc, hz, h => by
    have hj' : j = ys.length := by omega
    subst hj'
    refine Ev.step (fun k => exact_times.l1.eq_2 ..) (Ev.neg (by omega) ?_)
    have w : wrap64 ((i : Int) + (ys.length : Int)) = ((i + ys.length : Nat) : Int) := by rw [w64 (by omega) (by omega)]; omega
    rw [w]
    clear w
    refine Ev.pos (by omega) (Ev.pos (by omega) ?_)
    rw [Int.toNat_natCast, show (c : Int) % 4294967296 = (c : Int) by omega]
    refine hR _ (ok32_set ho ⟨by omega, by omega⟩) (by simpa using hl) (fun m hm => ?_) ?_
    · rw [rd_set (by omega), if_neg (by omega)]
      exact hz m (by omega)
    · have hs := lv_set L (i + ys.length) (c : Int) (by omega)
      rw [hz (i + ys.length) (Nat.le_refl _), Int.toNat_natCast] at hs
      rw [List.take_length] at h
      have : (0 : Int).toNat = 0 := rfl
      rw [this, Nat.mul_zero, Nat.add_zero] at hs
      rw [hs]
      exact h
  | n + 1, j, L, c, hj, ho, hl, hc, hz, h => by
    have hjy : j < ys.length := by omega
    have ry := rd32 hy hjy
    have hij : i + j < L.length := by omega
    have rL := rd32 ho hij
    obtain ⟨q, hq⟩ : ∃ q : Nat, rd ys (j : Int) = (q : Int) := ⟨(rd ys (j : Int)).toNat, by omega⟩
    obtain ⟨o, hoo⟩ : ∃ o : Nat, rd L ((i + j : Nat) : Int) = (o : Int) := ⟨(rd L ((i + j : Nat) : Int)).toNat, by omega⟩
    rw [hq] at ry
    rw [hoo] at rL
    have ty := lv_take (l := ys) hjy
    rw [hq, Int.toNat_natCast] at ty
    have mb := mul_bound x q hx (by omega)
    have mc : (x : Int) * (q : Int) = ((x * q : Nat) : Int) := by rw [Int.natCast_mul]
    refine Ev.step (fun k => exact_times.l1.eq_2 ..) (Ev.pos (by omega) (Ev.pos (by omega) (Ev.pos (by omega) ?_)))
    have w : wrap64 ((i : Int) + (j : Int)) = ((i + j : Nat) : Int) := by rw [w64 (by omega) (by omega)]; omega
    rw [w]
    clear w
    refine Ev.pos (by omega) (Ev.pos (by omega) ?_)
    rw [hq, hoo, ws hjy (by omega), Int.toNat_natCast, wu (x := (o : Int)) (by omega) (by omega), wu (x := (x : Int)) (by omega) (by omega), wu (x := (q : Int)) (by omega) (by omega), mc]
    generalize hP : x * q = P at *
    rw [wu (x := (P : Int)) (by omega) (by omega), wu (x := (o : Int) + (P : Int)) (by omega) (by omega), wu (x := (c : Int) + ((o : Int) + (P : Int))) (by omega) (by omega), show (c : Int) + ((o : Int) + (P : Int)) = ((c + (o + P) : Nat) : Int) by omega, show ((c + (o + P) : Nat) : Int) % 4294967296 = (((c + (o + P)) % 4294967296 : Nat) : Int) by omega, show ((c + (o + P) : Nat) : Int) / 4294967296 = (((c + (o + P)) / 4294967296 : Nat) : Int) by omega]
    refine tim_in ys hy hm i hi x hx xs xl ii s t l0 Z R hlen hlb hR n (j + 1) _ _ (by omega) (ok32_set ho ⟨by omega, by omega⟩) (by simpa using hl) (by omega) (fun m hm => ?_) ?_
    · rw [rd_set hij, if_neg (by omega)]
      exact hz m hm
    · have hs := lv_set L (i + j) (((c + (o + P)) % 4294967296 : Nat) : Int) hij
      rw [hoo, Int.toNat_natCast, Int.toNat_natCast] at hs
      rw [ty, show i + (j + 1) = (i + j) + 1 from rfl, Nat.pow_succ]
      have hP2 : c + (o + x * q) = (c + (o + P)) % 4294967296 + 4294967296 * ((c + (o + P)) / 4294967296) := by rw [hP]; omega
      have := times_in (4294967296 ^ (i + j)) c o q x _ _ 0 _ _ _ h hs hP2
      rw [this, Nat.mul_add, Nat.mul_add, ← Nat.add_assoc, Nat.pow_add]
      congr 1
      rw [Nat.mul_left_comm x, Nat.mul_assoc]
theorem tim_out (xs ys : List Int) (hx : ok32 xs) (hy : ok32 ys) (hm : xs.length ≤ 1000000000) (hk : ys.length ≤ 1000000000) (s t : Bool) : ∀ (n i : Nat) (L : List Int), i + n = xs.length → ok32 L → L.length = xs.length + ys.length → (∀ m, i + ys.length ≤ m → rd L (m : Int) = 0) → lv L = lv (xs.take i) * lv ys →
    Ev (fun k => exact_times.l0 k L xs (xs.length : Int) (i : Int) s xs t ys) (ln (s != t) (lv xs * lv ys))
  | 0, i, L, hi, ho, hl, hz, h => by
    have hi' : i = xs.length := by omega
    subst hi'
    refine Ev.step (fun k => exact_times.l0.eq_2 ..) (Ev.neg (by omega) ?_)
    refine Ev.val (made_f _ ho) ?_
    rw [List.take_length] at h
    rw [h]
    exact Ev.now _
  | n + 1, i, L, hi, ho, hl, hz, h => by
    have hix : i < xs.length := by omega
    have tx := lv_take (l := xs) hix
    have rx := rd32 hx hix
    obtain ⟨p, hp⟩ : ∃ p : Nat, rd xs (i : Int) = (p : Int) := ⟨(rd xs (i : Int)).toNat, by omega⟩
    rw [hp] at rx tx
    refine Ev.step (fun k => exact_times.l0.eq_2 ..) (Ev.pos (by omega) (Ev.pos (by omega) (Ev.pos (by omega) ?_)))
    rw [hp]
    refine tim_in ys hy hk i (by omega) p (by omega) xs (xs.length : Int) (i : Int) s t xs (lv L) _ (xs.length + ys.length) (by omega) ?_ ys.length 0 L 0 (by omega) ho hl (by omega) hz (by simp [lv])
    intro L2 ho2 hl2 hz2 h2
    rw [ws hix (by omega)]
    refine tim_out xs ys hx hy hm hk s t n (i + 1) L2 (by omega) ho2 hl2 (fun m hm => hz2 m (by omega)) ?_
    rw [h2, h, tx, Int.toNat_natCast, Nat.add_mul, Nat.mul_assoc]
theorem times_ev (s : Bool) (a : Nat) (t : Bool) (b : Nat) (hl : (lm a).length ≤ 1000000000) (hk : (lm b).length ≤ 1000000000) : Ev (fun k => exact_times.f k s (lm a) t (lm b)) (ln (s != t) (a * b)) := by
  have w : wrap64 (((lm a).length : Int) + ((lm b).length : Int)) = (((lm a).length + (lm b).length : Nat) : Int) := by rw [w64 (by omega) (by omega)]; omega
  refine Ev.congr (fun k => by unfold exact_times.f; rw [w, if_pos (Int.natCast_nonneg _), if_pos (by rw [Int.toNat_natCast]; clear w; omega), Int.toNat_natCast]) ?_
  clear w
  have := tim_out (lm a) (lm b) (lm_ok a) (lm_ok b) hl hk s t (lm a).length 0 (List.replicate ((lm a).length + (lm b).length) 0) (by omega) (fun x hx => by rw [List.eq_of_mem_replicate hx]; omega) (by simp) (fun m _ => rd_zeros _ _) (by rw [lv_zeros]; simp [lv])
  rwa [lv_lm, lv_lm] at this
/-- The reference's product: sums of products of digits. -/
def ndg (b : Nat) (l : List Int) : Prop := ∀ x ∈ l, 0 ≤ x ∧ x ≤ (b : Int)
theorem ndg_rd {b : Nat} {l : List Int} (h : ndg b l) {i : Nat} (hi : i < l.length) : 0 ≤ rd l (i : Int) ∧ rd l (i : Int) ≤ (b : Int) := by
  rw [rd_at hi]
  exact h _ (List.getElem_mem hi)
theorem ndg_set {b c : Nat} {l : List Int} {i : Nat} {v : Int} (h : ndg b l) (hbc : b ≤ c) (hv : 0 ≤ v ∧ v ≤ (c : Int)) : ndg c (l.set i v) := fun x hx => by
  rcases List.mem_or_eq_of_mem_set hx with e | rfl
  · have := h x e
    omega
  · exact hv
theorem dt_in (ys : List Int) (hy : ok10 ys) (hm : ys.length ≤ 1000000000) (i : Nat) (hi : i ≤ 1000000000) (x : Nat) (hx : x ≤ 9) (xs : List Int) (xl ii : Int) (s t : Bool) (l0 : List Int) (Z : Nat) (R : Bool × List Int) (hlen : Nat) (hlb : i + ys.length < hlen) (B : Nat) (hB : B + 81 ≤ 1000000000000)
    (hR : ∀ L : List Int, ndg (B + 81) L → L.length = hlen → dv L = Z + 10 ^ i * (x * dv ys) → Ev (fun k => maskref4_Dec_Times.l0 k L xs xl (wrap64 (ii + 1)) s l0 t ys) R) :
    ∀ (n j : Nat) (L : List Int), j + n = ys.length → ndg (B + 81) L → (∀ m, i + j ≤ m → m < L.length → rd L (m : Int) ≤ (B : Int)) → L.length = hlen → dv L = Z + 10 ^ i * (x * dv (ys.take j)) →
    Ev (fun k => maskref4_Dec_Times.l1 k L (i : Int) (x : Int) xs xl ii ys (ys.length : Int) (j : Int) s l0 t ys) R
  | 0, j, L, hj, ho, hz, hl, h => by
    have hj' : j = ys.length := by omega
    subst hj'
    refine Ev.step (fun k => maskref4_Dec_Times.l1.eq_2 ..) (Ev.neg (by omega) ?_)
    rw [List.take_length] at h
    exact hR L ho hl h
  | n + 1, j, L, hj, ho, hz, hl, h => by
    have hjy : j < ys.length := by omega
    have ry := rd_ok hy hjy
    have hij : i + j < L.length := by omega
    have rL := ndg_rd ho hij
    have rz := hz (i + j) (Nat.le_refl _) hij
    obtain ⟨q, hq⟩ : ∃ q : Nat, rd ys (j : Int) = (q : Int) := ⟨(rd ys (j : Int)).toNat, by omega⟩
    obtain ⟨o, hoo⟩ : ∃ o : Nat, rd L ((i + j : Nat) : Int) = (o : Int) := ⟨(rd L ((i + j : Nat) : Int)).toNat, by omega⟩
    rw [hq] at ry
    rw [hoo] at rL rz
    have ty := dv_take (l := ys) hjy
    rw [hq, Int.toNat_natCast] at ty
    have mb : x * q ≤ 81 := Nat.mul_le_mul hx (show q ≤ 9 by omega)
    have mc : (x : Int) * (q : Int) = ((x * q : Nat) : Int) := by rw [Int.natCast_mul]
    refine Ev.step (fun k => maskref4_Dec_Times.l1.eq_2 ..) (Ev.pos (by omega) (Ev.pos (by omega) (Ev.pos (by omega) ?_)))
    have w : wrap64 ((i : Int) + (j : Int)) = ((i + j : Nat) : Int) := by rw [w64 (by omega) (by omega)]; omega
    rw [w]
    clear w
    refine Ev.pos (by omega) (Ev.pos (by omega) ?_)
    rw [hq, hoo, ws hjy (by omega), Int.toNat_natCast, mc]
    generalize hP : x * q = P at *
    rw [w64 (x := (P : Int)) (by omega) (by omega), w64 (x := (o : Int) + (P : Int)) (by omega) (by omega), show (o : Int) + (P : Int) = ((o + P : Nat) : Int) by omega]
    refine dt_in ys hy hm i hi x hx xs xl ii s t l0 Z R hlen hlb B hB hR n (j + 1) _ (by omega) (ndg_set ho (Nat.le_refl _) ⟨by omega, by omega⟩) (fun m h1 h2 => ?_) (by simpa using hl) ?_
    · rw [rd_set hij, if_neg (by omega)]
      exact hz m (by omega) (by simpa using h2)
    · have hs := dv_set L (i + j) ((o + P : Nat) : Int) hij
      rw [hoo, Int.toNat_natCast, Int.toNat_natCast, Nat.mul_add] at hs
      rw [ty, Nat.mul_add, Nat.mul_add, ← Nat.add_assoc, ← h, Nat.mul_left_comm x, ← Nat.mul_assoc, ← Nat.pow_add, hP]
      omega
theorem dt_out (xs ys : List Int) (hx : ok10 xs) (hy : ok10 ys) (hm : xs.length ≤ 1000000000) (hk : ys.length ≤ 1000000000) (s t : Bool) (R : Bool × List Int)
    (hR : ∀ L : List Int, ndg 100000000000 L → L.length = xs.length + ys.length + 1 → dv L = dv xs * dv ys → Ev (fun k => maskref4_Dec_Times.l2 k L 0 s xs t ys) R) : ∀ (n i : Nat) (L : List Int), i + n = xs.length → ndg (81 * i) L → L.length = xs.length + ys.length + 1 → dv L = dv (xs.take i) * dv ys →
    Ev (fun k => maskref4_Dec_Times.l0 k L xs (xs.length : Int) (i : Int) s xs t ys) R
  | 0, i, L, hi, ho, hl, h => by
    have hi' : i = xs.length := by omega
    subst hi'
    refine Ev.step (fun k => maskref4_Dec_Times.l0.eq_2 ..) (Ev.neg (by omega) ?_)
    rw [List.take_length] at h
    exact hR L (fun x hx => by have := ho x hx; omega) hl h
  | n + 1, i, L, hi, ho, hl, h => by
    have hix : i < xs.length := by omega
    have tx := dv_take (l := xs) hix
    have rx := rd_ok hx hix
    obtain ⟨p, hp⟩ : ∃ p : Nat, rd xs (i : Int) = (p : Int) := ⟨(rd xs (i : Int)).toNat, by omega⟩
    rw [hp] at rx tx
    refine Ev.step (fun k => maskref4_Dec_Times.l0.eq_2 ..) (Ev.pos (by omega) (Ev.pos (by omega) (Ev.pos (by omega) ?_)))
    rw [hp]
    refine dt_in ys hy hk i (by omega) p (by omega) xs (xs.length : Int) (i : Int) s t xs (dv L) _ (xs.length + ys.length + 1) (by omega) (81 * i) (by omega) ?_ ys.length 0 L (by omega) (fun x hx => by have := ho x hx; omega) (fun m h1 h2 => (ndg_rd ho h2).2) hl (by simp [dv])
    intro L2 ho2 hl2 h2
    rw [ws hix (by omega)]
    refine dt_out xs ys hx hy hm hk s t R hR n (i + 1) L2 (by omega) (fun x hx => by have := ho2 x hx; omega) hl2 ?_
    rw [h2, h, tx, Int.toNat_natCast, Nat.add_mul, Nat.mul_assoc]
theorem carry_step (T L L1 L2 a b q r : Nat) (h1 : L1 + T * 10 * b = L + T * 10 * (b + q)) (h2 : L2 + T * a = L1 + T * r) (e : a = 10 * q + r) : L2 = L := by
  subst e
  rw [Nat.mul_add] at h1
  rw [Nat.mul_add, ← Nat.mul_assoc] at h2
  generalize T * 10 * b = x1 at *
  generalize T * 10 * q = x2 at *
  generalize T * r = x3 at *
  omega
/-- The carries. -/
theorem dt_carry (s t : Bool) (xs ys : List Int) (V N : Nat) (hN : N ≤ 3000000000) (hV : V < 10 ^ N) : ∀ (n i : Nat) (L : List Int), i + n = N → L.length = N + 1 → (∀ m, m < i → rd L (m : Int) ≤ 9) → ndg 200000000000 L → (∀ m, i < m → m < L.length → rd L (m : Int) ≤ 100000000000) → dv L = V →
    Ev (fun k => maskref4_Dec_Times.l2 k L (i : Int) s xs t ys) (dn (s != t) V)
  | 0, i, L, hi, hl, h9, ho, hz, h => by
    have hi' : i = N := by omega
    subst hi'
    refine Ev.step (fun k => maskref4_Dec_Times.l2.eq_2 ..) ?_
    rw [ws (show i < 9000000000 by omega) (by omega)]
    refine Ev.neg (by omega) ?_
    have hlast : rd L (i : Int) ≤ 9 := by
      have tk := dv_take (l := L) (i := i) (by omega)
      rw [show i + 1 = L.length by omega, List.take_length, h] at tk
      have r := ndg_rd ho (i := i) (by omega)
      have : (rd L (i : Int)).toNat = 0 := by
        rcases Nat.eq_zero_or_pos (rd L (i : Int)).toNat with e | e
        · exact e
        · have := Nat.mul_le_mul_left (10 ^ i) e
          omega
      omega
    have hok : ok10 L := fun x hx => by
      obtain ⟨m, hm, rfl⟩ := List.getElem_of_mem hx
      have r := ndg_rd ho hm
      rw [← rd_at hm]
      refine ⟨r.1, ?_⟩
      by_cases e : m < i
      · exact h9 m e
      · have : m = i := by omega
        subst this
        exact hlast
    refine Ev.val (trim_f _ hok) ?_
    rw [h]
    exact Ev.now _
  | n + 1, i, L, hi, hl, h9, ho, hz, h => by
    have r0 := ndg_rd ho (i := i) (by omega)
    have r1 := ndg_rd ho (i := i + 1) (by omega)
    have z1 := hz (i + 1) (by omega) (by omega)
    obtain ⟨a, ha⟩ : ∃ a : Nat, rd L (i : Int) = (a : Int) := ⟨(rd L (i : Int)).toNat, by omega⟩
    obtain ⟨b, hb⟩ : ∃ b : Nat, rd L ((i + 1 : Nat) : Int) = (b : Int) := ⟨(rd L ((i + 1 : Nat) : Int)).toNat, by omega⟩
    rw [ha] at r0
    rw [hb] at r1 z1
    refine Ev.step (fun k => maskref4_Dec_Times.l2.eq_2 ..) ?_
    rw [ws (show i < 9000000000 by omega) (by omega)]
    refine Ev.pos (by omega) (Ev.pos (by omega) (Ev.pos (by omega) (Ev.pos (by omega) (Ev.val rfl ?_))))
    have t1 : Int.tdiv (a : Int) 10 = ((a / 10 : Nat) : Int) := by rw [Int.tdiv_eq_ediv_of_nonneg (by omega)]; rfl
    have t2 : Int.tmod (a : Int) 10 = ((a % 10 : Nat) : Int) := by rw [Int.tmod_eq_emod_of_nonneg (by omega)]; rfl
    rw [Int.toNat_natCast, Int.toNat_natCast, ha, hb, t1, w64 (x := ((a / 10 : Nat) : Int)) (by omega) (by omega), w64 (x := (b : Int) + ((a / 10 : Nat) : Int)) (by omega) (by omega), show (b : Int) + ((a / 10 : Nat) : Int) = ((b + a / 10 : Nat) : Int) by omega]
    have e1 : rd (L.set (i + 1) ((b + a / 10 : Nat) : Int)) (i : Int) = (a : Int) := by rw [rd_set (by omega), if_neg (by omega), ha]
    rw [e1, t2]
    have s1 := dv_set L (i + 1) ((b + a / 10 : Nat) : Int) (by omega)
    have s2 := dv_set (L.set (i + 1) ((b + a / 10 : Nat) : Int)) i ((a % 10 : Nat) : Int) (by simp; omega)
    rw [hb, Int.toNat_natCast, Int.toNat_natCast, Nat.pow_succ] at s1
    rw [e1, Int.toNat_natCast, Int.toNat_natCast] at s2
    refine dt_carry s t xs ys V N hN hV n (i + 1) _ (by omega) (by simpa using hl) (fun m hm => ?_) (ndg_set (ndg_set ho (Nat.le_refl _) ⟨by omega, by omega⟩) (Nat.le_refl _) ⟨by omega, by omega⟩) (fun m h1 h2 => ?_) ?_
    · rw [rd_set (by simp; omega)]
      by_cases e : i = m
      · rw [if_pos e]; omega
      · rw [if_neg e, rd_set (by omega), if_neg (by omega)]
        exact h9 m (by omega)
    · rw [rd_set (by simp; omega), if_neg (by omega), rd_set (by omega), if_neg (by omega)]
      exact hz m (by omega) (by simpa using h2)
    · rw [← h]
      exact carry_step (10 ^ i) _ _ _ a b (a / 10) (a % 10) s1 s2 (by omega)
theorem dtimes_ev (s : Bool) (a : Nat) (t : Bool) (b : Nat) (hl : (dg a).length ≤ 1000000000) (hk : (dg b).length ≤ 1000000000) : Ev (fun k => maskref4_Dec_Times.f k s (dg a) t (dg b)) (dn (s != t) (a * b)) := by
  have w : wrap64 (wrap64 (((dg a).length : Int) + ((dg b).length : Int)) + 1) = (((dg a).length + (dg b).length + 1 : Nat) : Int) := by
    rw [w64 (x := ((dg a).length : Int) + ((dg b).length : Int)) (by omega) (by omega), w64 (by omega) (by omega)]; omega
  refine Ev.congr (fun k => by unfold maskref4_Dec_Times.f; rw [w, if_pos (Int.natCast_nonneg _), if_pos (by rw [Int.toNat_natCast]; clear w; omega), Int.toNat_natCast]) ?_
  clear w
  refine dt_out (dg a) (dg b) (dg_ok a) (dg_ok b) hl hk s t _ ?_ (dg a).length 0 (List.replicate ((dg a).length + (dg b).length + 1) 0) (by omega) (fun x hx => by rw [List.eq_of_mem_replicate hx]; omega) (by simp) (by rw [dv_zeros]; simp [dv])
  intro L ho hL h
  rw [dv_dg, dv_dg] at h
  have hV : a * b < 10 ^ ((dg a).length + (dg b).length) := by
    rw [Nat.pow_add]
    exact Nat.mul_lt_mul'' (dg_high a) (dg_high b)
  have := dt_carry s t (dg a) (dg b) (a * b) ((dg a).length + (dg b).length) (by omega) hV ((dg a).length + (dg b).length) 0 L (by omega) hL (fun m hm => absurd hm (Nat.not_lt_zero _)) (fun x hx => by have := ho x hx; omega) (fun m _ hm => (ndg_rd ho hm).2) h
  exact this
end Go.Proofs.Ytlbljdjbcbgnlaa.LNum
