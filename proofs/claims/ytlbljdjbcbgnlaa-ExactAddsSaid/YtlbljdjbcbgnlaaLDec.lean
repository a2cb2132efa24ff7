/- What the reference's decimal numbers are: digits, the lowest first. No conditions. -/
import Derived.Test.YtlbljdjbcbgnlaaPXx45
import Derived.Test.YtlbljdjbcbgnlaaAid
namespace Go.Proofs.Ytlbljdjbcbgnlaa.LDec
open Go.RowKit Go.Proofs.YtlbljdjbcbgnlaaW.PrintWords Go.Proofs.Ytlbljdjbcbgnlaa.PX Go.Proofs.Ytlbljdjbcbgnlaa.Aid
set_option linter.unusedVariables false
set_option linter.unusedSimpArgs false

/-- A number's digits, the lowest first. -/
def dg (n : Nat) : List Int := if h : n = 0 then [] else ((n % 10 : Nat) : Int) :: dg (n / 10)
termination_by n
decreasing_by omega
theorem dg_zero : dg 0 = [] := by rw [dg]; simp
theorem dg_pos {n : Nat} (h : n ≠ 0) : dg n = ((n % 10 : Nat) : Int) :: dg (n / 10) := by rw [dg]; simp [h]
theorem dg_nil {n : Nat} : dg n = [] ↔ n = 0 := by
  constructor
  · intro h
    by_cases c : n = 0
    · exact c
    · rw [dg_pos c] at h; cases h
  · rintro rfl
    exact dg_zero
/-- What digits are worth. -/
def dv : List Int → Nat
  | [] => 0
  | x :: xs => x.toNat + 10 * dv xs
def ok10 (l : List Int) : Prop := ∀ x ∈ l, 0 ≤ x ∧ x ≤ 9
theorem ok10.cons {x : Int} {l : List Int} (h : ok10 (x :: l)) : (0 ≤ x ∧ x ≤ 9) ∧ ok10 l := ⟨h x (by simp), fun y hy => h y (by simp [hy])⟩
theorem ok10.mk {x : Int} {l : List Int} (h : 0 ≤ x ∧ x ≤ 9) (k : ok10 l) : ok10 (x :: l) := fun y hy => by
  rcases List.mem_cons.1 hy with rfl | hy
  · exact h
  · exact k y hy
theorem ok10_nil : ok10 [] := fun _ h => by cases h
theorem dg_ok : ∀ n, ok10 (dg n) := by
  intro n
  induction n using Nat.strongRecOn with
  | _ n ih =>
    by_cases c : n = 0
    · subst c; rw [dg_zero]; exact ok10_nil
    · rw [dg_pos c]; exact ok10.mk ⟨by omega, by omega⟩ (ih _ (by omega))
theorem dv_dg : ∀ n, dv (dg n) = n := by
  intro n
  induction n using Nat.strongRecOn with
  | _ n ih =>
    by_cases c : n = 0
    · subst c; rw [dg_zero]; rfl
    · rw [dg_pos c, dv, ih _ (by omega)]; omega
theorem dg_len : ∀ (m n : Nat), n < 10 ^ m → (dg n).length ≤ m
  | 0, n, h => by
    have : n = 0 := by simpa using h
    subst this
    rw [dg_zero]; simp
  | m + 1, n, h => by
    by_cases c : n = 0
    · subst c; rw [dg_zero]; simp
    · rw [dg_pos c, List.length_cons]
      have := dg_len m (n / 10) (by rw [Nat.pow_succ] at h; omega)
      omega
theorem trimV_cons (x : Int) (xs : List Int) : trimV (x :: xs) = if trimV xs = [] then (if x = 0 then [] else [x]) else x :: trimV xs := by
  unfold trimV
  rw [List.reverse_cons, List.dropWhile_append]
  by_cases c : (xs.reverse.dropWhile fun x => x == 0) = []
  · rw [c]
    by_cases z : x = 0
    · simp [z]
    · simp [z]
  · simp [c]
theorem trim_dg : ∀ l : List Int, ok10 l → trimV l = dg (dv l)
  | [], _ => by rw [dv, dg_zero]; rfl
  | x :: xs, h => by
    obtain ⟨hx, hxs⟩ := h.cons
    rw [trimV_cons, trim_dg xs hxs, dv]
    by_cases c : dv xs = 0
    · rw [if_pos (dg_nil.2 c), c]
      by_cases z : x = 0
      · rw [if_pos z, z]; simp [dg_zero]
      · rw [if_neg z, dg_pos (by omega)]
        rw [show (x.toNat + 10 * 0) / 10 = 0 by omega, dg_zero, show (x.toNat + 10 * 0) % 10 = x.toNat by omega]
        simp; omega
    · rw [if_neg (fun e => c (dg_nil.1 e)), dg_pos (n := x.toNat + 10 * dv xs) (by omega)]
      rw [show (x.toNat + 10 * dv xs) / 10 = dv xs by omega, show (x.toNat + 10 * dv xs) % 10 = x.toNat by omega]
      congr 1
      omega
theorem dv_append : ∀ a b : List Int, dv (a ++ b) = dv a + 10 ^ a.length * dv b
  | [], b => by simp [dv]
  | x :: xs, b => by
    rw [List.cons_append, dv, dv, dv_append xs b, List.length_cons, Nat.pow_succ, Nat.mul_add, Nat.mul_comm (10 ^ xs.length) 10, Nat.mul_assoc, Nat.add_assoc]
theorem ok10_append {a b : List Int} (ha : ok10 a) (hb : ok10 b) : ok10 (a ++ b) := fun x hx => by
  rcases List.mem_append.1 hx with h | h
  · exact ha x h
  · exact hb x h
/-- A decimal number: its sign and its digits. -/
def dn (neg : Bool) (n : Nat) : Bool × List Int := (neg && decide (0 < n), dg n)
theorem len_pos (n : Nat) : decide (0 < (dg n).length) = decide (0 < n) := by
  by_cases c : n = 0
  · subst c; rw [dg_zero]; rfl
  · rw [dg_pos c]; simp; omega
theorem trim_f (neg : Bool) {l : List Int} (h : ok10 l) : maskref4_trim.f neg l = some (dn neg (dv l)) := by
  unfold maskref4_trim.f dn
  rw [trim_dg l h, len_pos]

theorem decInt_l (x0 : Int) : ∀ (n : Nat) (m : Int) (d : List Int), m.natAbs = n → -9223372036854775808 ≤ m → m ≤ 9223372036854775807 → ok10 d → d.length + (dg n).length ≤ 30 → Ev (fun k => maskref4_DecInt.l0 k x0 d m) (dn (decide (x0 < 0)) (dv d + 10 ^ d.length * n)) := by
  intro n
  induction n using Nat.strongRecOn with
  | _ n ih =>
    intro m d hm h0 h1 hd hl
    refine Ev.step (fun k => rfl) ?_
    by_cases c : m = 0
    · have hn : n = 0 := by omega
      subst hn
      refine Ev.pos c (Ev.val (trim_f _ hd) ?_)
      rw [Nat.mul_zero, Nat.add_zero]
      exact Ev.now _
    · have hn : n ≠ 0 := by omega
      have hlen : (dg n).length = (dg (n / 10)).length + 1 := by rw [dg_pos hn]; rfl
      have q : (Int.tdiv m 10).natAbs = n / 10 := by rw [Int.natAbs_tdiv, hm]; rfl
      have hb : -9223372036854775808 ≤ Int.tdiv m 10 ∧ Int.tdiv m 10 ≤ 9223372036854775807 := by omega
      have w : wrap64 (Int.tdiv m 10) = Int.tdiv m 10 := w64 hb.1 hb.2
      have r : (Int.tmod m 10).natAbs = n % 10 := by rw [Int.natAbs_tmod, hm]; rfl
      have key : ∀ x : Int, x = ((n % 10 : Nat) : Int) → Ev (fun k => maskref4_DecInt.l0 k x0 (d ++ [x]) (wrap64 (Int.tdiv m 10))) (dn (decide (x0 < 0)) (dv d + 10 ^ d.length * n)) := by
        intro x hx
        subst hx
        rw [w]
        have h := ih (n / 10) (by omega) (Int.tdiv m 10) (d ++ [((n % 10 : Nat) : Int)]) q hb.1 hb.2 (ok10_append hd (ok10.mk ⟨by omega, by omega⟩ ok10_nil)) (by rw [List.length_append, List.length_singleton]; omega)
        refine Ev.eq h ?_
        congr 1
        rw [dv_append, List.length_append, List.length_singleton, Nat.pow_succ, Nat.mul_assoc, Nat.add_assoc, ← Nat.mul_add]
        congr 2
        simp only [dv]
        omega
      refine Ev.neg c ?_
      by_cases s : Int.tmod m 10 < 0
      · refine Ev.pos s (Ev.pos (by omega) ?_)
        exact key _ (by rw [w64 (by omega) (by omega)]; omega)
      · refine Ev.neg s (Ev.pos (by omega) ?_)
        exact key _ (by omega)
theorem decInt_ev (x : Int) (h0 : -9223372036854775808 ≤ x) (h1 : x ≤ 9223372036854775807) : Ev (fun k => maskref4_DecInt.f k x) (dn (decide (x < 0)) x.natAbs) := by
  have h := decInt_l x x.natAbs x [] rfl h0 h1 ok10_nil (by have := dg_len 20 x.natAbs (by omega); simp; omega)
  refine Ev.eq h ?_
  simp [dv]
theorem rd_at {l : List Int} {i : Nat} (h : i < l.length) : rd l (i : Int) = l[i] := by
  unfold rd
  rw [Int.toNat_natCast, List.getD_eq_getElem?_getD, List.getElem?_eq_getElem h]
  rfl
theorem rd_ok {l : List Int} (hl : ok10 l) {i : Nat} (h : i < l.length) : 0 ≤ rd l (i : Int) ∧ rd l (i : Int) ≤ 9 := by
  rw [rd_at h]
  exact hl _ (List.getElem_mem h)
theorem dv_take {l : List Int} {i : Nat} (h : i < l.length) : dv (l.take (i + 1)) = dv (l.take i) + 10 ^ i * (rd l (i : Int)).toNat := by
  rw [rd_at h, List.take_add_one, List.getElem?_eq_getElem h, Option.toList_some, dv_append]
  simp only [dv, Nat.mul_zero, Nat.add_zero, List.length_take]
  rw [Nat.min_eq_left (by omega)]
theorem dv_lt : ∀ l : List Int, ok10 l → dv l < 10 ^ l.length
  | [], _ => by simp [dv]
  | x :: xs, h => by
    obtain ⟨hx, hxs⟩ := h.cons
    have := dv_lt xs hxs
    rw [dv, List.length_cons, Nat.pow_succ]
    omega
theorem ok10_take {l : List Int} (h : ok10 l) (n : Nat) : ok10 (l.take n) := fun x hx => h x (List.mem_of_mem_take hx)
theorem dg_low (n : Nat) (h : n ≠ 0) : 10 ^ ((dg n).length - 1) ≤ n := by
  induction n using Nat.strongRecOn with
  | _ n ih =>
    rw [dg_pos h, List.length_cons, Nat.add_sub_cancel]
    by_cases c : n / 10 = 0
    · rw [c, dg_zero]; simp; omega
    · have := ih (n / 10) (by omega) c
      have hp : 0 < (dg (n / 10)).length := by rw [dg_pos c]; simp
      have e : 10 ^ (dg (n / 10)).length = 10 ^ ((dg (n / 10)).length - 1) * 10 := by rw [← Nat.pow_succ]; congr 1; omega
      rw [e]
      omega
theorem dg_high (n : Nat) : n < 10 ^ (dg n).length := by
  have := dv_lt (dg n) (dg_ok n)
  rwa [dv_dg] at this
theorem len_lt {a b : Nat} (h : (dg a).length < (dg b).length) : a < b := by
  have hb : b ≠ 0 := fun e => by subst e; rw [dg_zero] at h; simp at h
  have h1 := dg_low b hb
  have h2 := dg_high a
  have h3 : 10 ^ (dg a).length ≤ 10 ^ ((dg b).length - 1) := Nat.pow_le_pow_right (by omega) (by omega)
  omega
theorem less_l (xs ys : List Int) (hx : ok10 xs) (hy : ok10 ys) (hm : xs.length ≤ 1000000000000) (he : xs.length = ys.length) : ∀ i : Nat, i ≤ xs.length → Ev (fun k => maskref4_less.l0 k xs ys ((i : Int) - 1)) (decide (dv (xs.take i) < dv (ys.take i)))
  | 0, _ => by
    refine Ev.step (fun k => rfl) (Ev.neg (by omega) ?_)
    simp only [List.take_zero, Nat.lt_irrefl, decide_false]
    exact Ev.now _
  | i + 1, h => by
    have e : (((i + 1 : Nat) : Int) - 1) = (i : Int) := by omega
    rw [e]
    refine Ev.step (fun k => rfl) (Ev.pos (by omega) (Ev.pos (by omega) (Ev.pos (by omega) (Ev.pos (by omega) ?_))))
    have tx := dv_take (l := xs) (i := i) (by omega)
    have ty := dv_take (l := ys) (i := i) (by omega)
    have bx := dv_lt (xs.take i) (ok10_take hx i)
    have by' := dv_lt (ys.take i) (ok10_take hy i)
    rw [List.length_take, Nat.min_eq_left (by omega)] at bx by'
    have rx := rd_ok hx (i := i) (by omega)
    have ry := rd_ok hy (i := i) (by omega)
    by_cases c : rd xs (i : Int) = rd ys (i : Int)
    · refine Ev.pos c ?_
      rw [w64 (by omega) (by omega)]
      refine Ev.eq (less_l xs ys hx hy hm he i (by omega)) ?_
      rw [tx, ty, c]
      congr 1
      apply propext
      omega
    · refine Ev.neg c ?_
      refine Ev.eq (Ev.now _) ?_
      rw [tx, ty]
      congr 1
      apply propext
      obtain ⟨p, hp⟩ : ∃ p, rd xs (i : Int) = ((p : Nat) : Int) := ⟨(rd xs (i : Int)).toNat, by omega⟩
      obtain ⟨q, hq⟩ : ∃ q, rd ys (i : Int) = ((q : Nat) : Int) := ⟨(rd ys (i : Int)).toNat, by omega⟩
      rw [hp, hq] at c ⊢
      simp only [Int.toNat_natCast]
      generalize dv (xs.take i) = u at *
      generalize dv (ys.take i) = v at *
      generalize 10 ^ i = t at *
      constructor
      · intro hl
        have : p + 1 ≤ q := by omega
        have := Nat.mul_le_mul_left t this
        rw [Nat.mul_add, Nat.mul_one] at this
        omega
      · intro hl
        have hn : ¬ q < p := fun hl2 => by
          have : q + 1 ≤ p := by omega
          have := Nat.mul_le_mul_left t this
          rw [Nat.mul_add, Nat.mul_one] at this
          omega
        omega
theorem less_ev (a b : Nat) (hl : (dg a).length ≤ 1000000000000) : Ev (fun k => maskref4_less.f k (dg a) (dg b)) (decide (a < b)) := by
  by_cases c : (dg a).length = (dg b).length
  · refine Ev.congr (fun k => by unfold maskref4_less.f; rw [if_pos (by omega), w64 (by omega) (by omega)]) ?_
    refine Ev.eq (less_l (dg a) (dg b) (dg_ok a) (dg_ok b) (by omega) c (dg a).length (Nat.le_refl _)) ?_
    rw [List.take_length, c, List.take_length, dv_dg, dv_dg]
  · refine Ev.congr (fun k => by unfold maskref4_less.f; rw [if_neg (by omega)]) ?_
    refine Ev.eq (Ev.now _) ?_
    congr 1
    apply propext
    constructor
    · intro h
      exact len_lt (by omega)
    · intro h
      by_cases d : (dg b).length < (dg a).length
      · have := len_lt d
        omega
      · omega
theorem rd_out {l : List Int} {i : Nat} (h : ¬ i < l.length) : l.take (i + 1) = l.take i := by
  rw [List.take_of_length_le (by omega), List.take_of_length_le (by omega)]
theorem dig_step (u v x T d bo q p bo' : Nat) (h : u + v = x + bo * T) (e : d + bo + q = p + 10 * bo') : u + T * d + (v + T * q) = x + T * p + bo' * (T * 10) := by
  have e2 : T * (d + bo + q) = T * (p + 10 * bo') := by rw [e]
  rw [Nat.mul_add, Nat.mul_add, Nat.mul_add, Nat.mul_left_comm T 10 bo'] at e2
  have e3 : bo' * (T * 10) = 10 * (T * bo') := by rw [Nat.mul_comm T 10, Nat.mul_left_comm, Nat.mul_comm bo' T]
  rw [Nat.mul_comm bo T] at h
  rw [e3]
  generalize T * d = a1 at *
  generalize T * bo = a2 at *
  generalize T * q = a3 at *
  generalize T * p = a4 at *
  generalize T * bo' = a5 at *
  omega
/-- The difference of digits, the lowest first. -/
theorem sub_l (xs ys : List Int) (hx : ok10 xs) (hy : ok10 ys) (hm : xs.length ≤ 1000000000000) (hl : ys.length ≤ xs.length) (hv : dv ys ≤ dv xs) (an : Bool) (al : List Int) (bn : Bool) : ∀ (n i : Nat) (acc : List Int) (bo : Nat), i + n = xs.length → acc.length = i → ok10 acc → bo ≤ 1 → dv acc + dv (ys.take i) = dv (xs.take i) + bo * 10 ^ i →
    Ev (fun k => plusP.l1 k acc (bo : Int) xs (xs.length : Int) (i : Int) an al bn ys) (dn an (dv xs - dv ys))
  | 0, i, acc, bo, hi, ha, ho, hb, h => by
    have hi' : i = xs.length := by omega
    subst hi'
    refine Ev.step (fun k => plusP.l1.eq_2 ..) (Ev.neg (by omega) ?_)
    refine Ev.val (trim_f an ho) ?_
    refine Ev.eq (Ev.now _) ?_
    rw [List.take_length, List.take_of_length_le hl] at h
    have h1 := dv_lt acc ho
    rw [ha] at h1
    have : bo = 0 := by
      rcases Nat.eq_zero_or_pos bo with e | e
      · exact e
      · have : bo = 1 := by omega
        subst this
        omega
    subst this
    have : dv acc = dv xs - dv ys := by omega
    show dn an (dv acc) = _
    rw [this]
  | n + 1, i, acc, bo, hi, ha, ho, hb, h => by
    have hix : i < xs.length := by omega
    have tx := dv_take (l := xs) hix
    have rx := rd_ok hx hix
    refine Ev.step (fun k => plusP.l1.eq_2 ..) (Ev.pos (by omega) (Ev.pos (by omega) (Ev.pos (by omega) ?_)))
    have w1 : wrap64 (rd xs (i : Int) - (bo : Int)) = rd xs (i : Int) - (bo : Int) := w64 (by omega) (by omega)
    have wi : wrap64 ((i : Int) + 1) = ((i + 1 : Nat) : Int) := by rw [w64 (by omega) (by omega)]; omega
    rw [w1, wi]
    clear w1 wi
    obtain ⟨p, hp⟩ : ∃ p : Nat, rd xs (i : Int) = (p : Int) := ⟨(rd xs (i : Int)).toNat, by omega⟩
    have step : ∀ (d bo' : Nat), d ≤ 9 → bo' ≤ 1 → (d : Int) = (p : Int) - bo - ((if i < ys.length then (rd ys (i : Int)).toNat else 0 : Nat) : Int) + 10 * bo' →
        Ev (fun k => plusP.l1 k (acc ++ [(d : Int)]) (bo' : Int) xs (xs.length : Int) ((i + 1 : Nat) : Int) an al bn ys) (dn an (dv xs - dv ys)) := by
      intro d bo' h1 h2 h3
      refine sub_l xs ys hx hy hm hl hv an al bn n (i + 1) (acc ++ [(d : Int)]) bo' (by omega) (by simp [ha]) (ok10_append ho (ok10.mk ⟨by omega, by omega⟩ ok10_nil)) h2 ?_
      rw [dv_append, ha]
      simp only [dv, Nat.mul_zero, Nat.add_zero, Int.toNat_natCast]
      rw [tx, hp, Int.toNat_natCast, Nat.pow_succ]
      have hy2 : dv (ys.take (i + 1)) = dv (ys.take i) + 10 ^ i * (if i < ys.length then (rd ys (i : Int)).toNat else 0) := by
        by_cases c : i < ys.length
        · rw [if_pos c, dv_take c]
        · rw [if_neg c, rd_out c]; simp
      rw [hy2]
      have h3' : d + bo + (if i < ys.length then (rd ys (i : Int)).toNat else 0) = p + 10 * bo' := by omega
      exact dig_step _ _ _ (10 ^ i) d bo _ p bo' h h3'
    by_cases c : i < ys.length
    · have ry := rd_ok hy c
      refine Ev.pos (by omega) ?_
      have w2 : wrap64 (rd xs (i : Int) - (bo : Int) - rd ys (i : Int)) = rd xs (i : Int) - (bo : Int) - rd ys (i : Int) := w64 (by omega) (by omega)
      rw [w2]
      clear w2
      by_cases z : rd xs (i : Int) - (bo : Int) - rd ys (i : Int) < 0
      · refine Ev.pos z (Ev.pos (by omega) ?_)
        rw [w64 (by omega) (by omega)]
        have := step (rd xs (i : Int) - (bo : Int) - rd ys (i : Int) + 10).toNat 1 (by omega) (by omega) (by rw [if_pos c]; omega)
        rwa [show ((1 : Nat) : Int) = 1 from rfl, show (((rd xs (i : Int) - (bo : Int) - rd ys (i : Int) + 10).toNat : Nat) : Int) = rd xs (i : Int) - (bo : Int) - rd ys (i : Int) + 10 by omega] at this
      · refine Ev.neg z (Ev.pos (by omega) ?_)
        have := step (rd xs (i : Int) - (bo : Int) - rd ys (i : Int)).toNat 0 (by omega) (by omega) (by rw [if_pos c]; omega)
        rwa [show ((0 : Nat) : Int) = 0 from rfl, show (((rd xs (i : Int) - (bo : Int) - rd ys (i : Int)).toNat : Nat) : Int) = rd xs (i : Int) - (bo : Int) - rd ys (i : Int) by omega] at this
    · refine Ev.neg (by omega) ?_
      by_cases z : rd xs (i : Int) - (bo : Int) < 0
      · refine Ev.pos z (Ev.pos (by omega) ?_)
        rw [w64 (by omega) (by omega)]
        have := step (rd xs (i : Int) - (bo : Int) + 10).toNat 1 (by omega) (by omega) (by rw [if_neg c]; omega)
        rwa [show ((1 : Nat) : Int) = 1 from rfl, show (((rd xs (i : Int) - (bo : Int) + 10).toNat : Nat) : Int) = rd xs (i : Int) - (bo : Int) + 10 by omega] at this
      · refine Ev.neg z (Ev.pos (by omega) ?_)
        have := step (rd xs (i : Int) - (bo : Int)).toNat 0 (by omega) (by omega) (by rw [if_neg c]; omega)
        rwa [show ((0 : Nat) : Int) = 0 from rfl, show (((rd xs (i : Int) - (bo : Int)).toNat : Nat) : Int) = rd xs (i : Int) - (bo : Int) by omega] at this
theorem len_mono {a b : Nat} (h : a ≤ b) : (dg a).length ≤ (dg b).length := by
  by_cases c : (dg b).length < (dg a).length
  · have := len_lt c
    omega
  · omega
/-- a - b, for 0 < b ≤ a. -/
theorem minus_ev (a b : Nat) (hb : 0 < b) (h : b ≤ a) (hl : (dg a).length ≤ 1000000000000) : Ev (fun k => maskref4_Dec_Minus.f k false (dg a) false (dg b)) (dn false (a - b)) := by
  have hd : decide (0 < (dg b).length) = true := by rw [len_pos]; exact decide_eq_true hb
  refine Ev.congr (fun k => show _ = maskref4_Dec_Plus.f k false (dg a) true (dg b) by unfold maskref4_Dec_Minus.f; rw [hd]; rfl) ?_
  refine Ev.congr (fun k => show _ = ((maskref4_less.f k (dg a) (dg b)).bind fun t => if t = true then plusP.l1 k ([] : List Int) 0 (dg b) ((dg b).length : Int) 0 true (dg b) false (dg a) else plusP.l1 k ([] : List Int) 0 (dg a) ((dg a).length : Int) 0 false (dg a) true (dg b)) by unfold maskref4_Dec_Plus.f; rw [if_neg (by decide)]) ?_
  refine Ev.bind (less_ev a b hl) ?_
  refine Ev.neg (by simp; omega) ?_
  have := sub_l (dg a) (dg b) (dg_ok a) (dg_ok b) hl (len_mono h) (by rw [dv_dg, dv_dg]; exact h) false (dg a) true (dg a).length 0 [] 0 (by omega) rfl ok10_nil (by omega) (by simp [dv])
  rw [dv_dg, dv_dg] at this
  exact this
/-- How many bits. -/
def bln (n : Nat) : Nat := if h : n = 0 then 0 else bln (n / 2) + 1
termination_by n
decreasing_by omega
theorem bl_pos {n : Nat} (h : n ≠ 0) : bln n = bln (n / 2) + 1 := by rw [bln]; simp [h]
end Go.Proofs.Ytlbljdjbcbgnlaa.LDec
