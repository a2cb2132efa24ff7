/- Long numbers in decimal, and as small numbers. No conditions. -/
import Derived.Test.YtlbljdjbcbgnlaaPXx35
import Derived.Test.YtlbljdjbcbgnlaaPXx38
import Derived.Test.YtlbljdjbcbgnlaaLNum2
namespace Go.Proofs.Ytlbljdjbcbgnlaa.LNum
open Go.RowKit Go.Proofs.YtlbljdjbcbgnlaaW.PrintWords Go.Proofs.Ytlbljdjbcbgnlaa.PX Go.Proofs.Ytlbljdjbcbgnlaa.Aid Go.Proofs.Ytlbljdjbcbgnlaa.LDec
set_option linter.unusedVariables false
set_option linter.unusedSimpArgs false

theorem or_add (u v : Nat) (hu : u < 4294967296) (hv : v < 4294967296) : Go.bits .or .u64 ((u : Int) * 4294967296) (v : Int) = ((u * 4294967296 + v : Nat) : Int) := by
  have e : (u : Int) * 4294967296 = ((u * 4294967296 : Nat) : Int) := by omega
  rw [e, Go.bits_or_u64_nat _ _ (by omega) (by omega)]
  have := Nat.two_pow_add_eq_or_of_lt (b := v) (i := 32) (by omega) u
  rw [show (2 : Nat) ^ 32 = 4294967296 from rfl] at this
  rw [Nat.mul_comm u, ← this]
theorem lv_drop {l : List Int} {i : Nat} (h : i < l.length) : lv (l.drop i) = (rd l (i : Int)).toNat + 4294967296 * lv (l.drop (i + 1)) := by
  rw [rd_at h, List.drop_eq_getElem_cons h, lv]
theorem dv_step (x H d : Nat) (hd : 0 < d) : (x + 4294967296 * H) / d = (H % d * 4294967296 + x) / d + 4294967296 * (H / d) ∧ (x + 4294967296 * H) % d = (H % d * 4294967296 + x) % d := by
  have e : x + 4294967296 * H = d * (4294967296 * (H / d)) + (H % d * 4294967296 + x) := by
    conv => lhs; rw [← Nat.div_add_mod H d]
    rw [Nat.mul_add, Nat.mul_left_comm, Nat.mul_comm 4294967296 (H % d)]
    omega
  rw [e, Nat.mul_add_div hd, Nat.mul_add_mod]
  exact ⟨by omega, rfl⟩
theorem set_down (i : Nat) (acc : List Int) (v : Int) : (List.replicate (i + 1) 0 ++ acc).set i v = List.replicate i 0 ++ (v :: acc) := by
  rw [List.replicate_succ', List.append_assoc, List.set_append_right _ _ (by simp)]
  simp
theorem divS_l (xs : List Int) (hx : ok32 xs) (hm : xs.length ≤ 1000000000) (d : Nat) (hd : 0 < d) (hd2 : d < 4294967296) : ∀ (i : Nat) (acc : List Int), i ≤ xs.length → i + acc.length = xs.length → ok32 acc → lv acc = lv (xs.drop i) / d →
    ∃ r, Ev (fun k => exact_divSmall.l0 k xs (d : Int) (List.replicate i 0 ++ acc) ((lv (xs.drop i) % d : Nat) : Int) ((i : Int) - 1)) (r, ((lv xs % d : Nat) : Int)) ∧ ok32 r ∧ lv r = lv xs / d
  | 0, acc, h0, ha, ho, h => by
    refine ⟨acc, ?_, ho, h⟩
    have := Nat.mod_lt (lv (xs.drop 0)) hd
    refine Ev.step (fun k => rfl) (Ev.neg (by omega) ?_)
    refine Ev.eq (Ev.now _) ?_
    simp only [List.replicate_zero, List.nil_append, List.drop_zero] at *
    rw [show ((lv xs % d : Nat) : Int) % 4294967296 = ((lv xs % d : Nat) : Int) by omega]
  | i + 1, acc, h0, ha, ho, h => by
    have e : (((i + 1 : Nat) : Int) - 1) = (i : Int) := by omega
    have hix : i < xs.length := by omega
    have rx := rd32 hx hix
    have hr := Nat.mod_lt (lv (xs.drop (i + 1))) hd
    obtain ⟨q1, q2⟩ := dv_step (rd xs (i : Int)).toNat (lv (xs.drop (i + 1))) d hd
    rw [← lv_drop hix] at q1 q2
    obtain ⟨p, hp⟩ : ∃ p : Nat, rd xs (i : Int) = (p : Int) := ⟨(rd xs (i : Int)).toNat, by omega⟩
    rw [hp] at rx q1 q2
    rw [Int.toNat_natCast] at q1 q2
    generalize hR : lv (xs.drop (i + 1)) % d = R at *
    have hc : R * 4294967296 + p < d * 4294967296 := by
      have := Nat.mul_le_mul_right 4294967296 (show R + 1 ≤ d from hr)
      omega
    have hq : (R * 4294967296 + p) / d < 4294967296 := by
      rw [Nat.div_lt_iff_lt_mul hd]
      omega
    have hlt : R * 4294967296 + p < 18446744073709551616 := by omega
    obtain ⟨r, h1, h2⟩ := divS_l xs hx hm d hd hd2 i ((((R * 4294967296 + p) / d : Nat) : Int) :: acc) (by omega) (by simp; omega) (ok32.mk ⟨Int.natCast_nonneg _, by omega⟩ ho) (by rw [lv, h, q1, Int.toNat_natCast])
    refine ⟨r, ?_, h2⟩
    rw [e]
    refine Ev.step (fun k => rfl) (Ev.pos (by omega) (Ev.pos (by omega) (Ev.pos (by omega) (Ev.neg (by rw [wu (by omega) (by omega)]; omega) (Ev.pos (by simp <;> omega) ?_)))))
    rw [hp, wu (x := (d : Int)) (by omega) (by omega), wu (x := (R : Int) * 4294967296) (by omega) (by omega), wu (x := (p : Int)) (by omega) (by omega), or_add R p (by omega) (by omega), w64 (x := (i : Int) - 1) (by omega) (by omega)]
    have t1 : Int.tdiv ((R * 4294967296 + p : Nat) : Int) (d : Int) = (((R * 4294967296 + p) / d : Nat) : Int) := by
      rw [Int.tdiv_eq_ediv_of_nonneg (by omega)]; rfl
    have t2 : Int.tmod ((R * 4294967296 + p : Nat) : Int) (d : Int) = (((R * 4294967296 + p) % d : Nat) : Int) := by
      rw [Int.tmod_eq_emod_of_nonneg (by omega)]; rfl
    have t3 : (((R * 4294967296 + p) / d : Nat) : Int) % 4294967296 = (((R * 4294967296 + p) / d : Nat) : Int) := Int.emod_eq_of_lt (Int.natCast_nonneg _) (Int.ofNat_lt.mpr hq)
    rw [t1, t2, wu (x := (((R * 4294967296 + p) / d : Nat) : Int)) (Int.natCast_nonneg _) (by omega), t3, show (i : Int).toNat = i from rfl, set_down, ← q2]
    exact h1
theorem divSmall_ev (n d : Nat) (hl : (lm n).length ≤ 1000000000) (hd : 0 < d) (hd2 : d < 4294967296) : ∃ r, Ev (fun k => exact_divSmall.f k (lm n) (d : Int)) (r, ((n % d : Nat) : Int)) ∧ ok32 r ∧ lv r = n / d := by
  obtain ⟨r, h1, h2, h3⟩ := divS_l (lm n) (lm_ok n) hl d hd hd2 (lm n).length [] (Nat.le_refl _) (by simp) ok32_nil (by simp [lv])
  rw [lv_lm] at h1 h3
  refine ⟨r, ?_, h2, h3⟩
  refine Ev.congr (fun k => by unfold exact_divSmall.f; rw [if_pos (by omega), if_pos (by omega), show ((lm n).length : Int).toNat = (lm n).length by omega, w64 (by omega) (by omega)]) ?_
  rw [List.drop_length, List.append_nil] at h1
  simp only [lv, Nat.zero_mod] at h1
  exact h1
/-- Digits to the base of 1,000,000,000, the lowest first. -/
def pg (n : Nat) : List Int := if h : n = 0 then [] else ((n % 1000000000 : Nat) : Int) :: pg (n / 1000000000)
termination_by n
decreasing_by omega
theorem pg_zero : pg 0 = [] := by rw [pg]; simp
theorem pg_pos {n : Nat} (h : n ≠ 0) : pg n = ((n % 1000000000 : Nat) : Int) :: pg (n / 1000000000) := by rw [pg]; simp [h]
theorem pg_nil {n : Nat} : pg n = [] ↔ n = 0 := by
  constructor
  · intro h
    by_cases c : n = 0
    · exact c
    · rw [pg_pos c] at h; cases h
  · rintro rfl
    exact pg_zero
theorem pg_len : ∀ n, (pg n).length ≤ (dg n).length := by
  intro n
  induction n using Nat.strongRecOn with
  | _ n ih =>
    by_cases c : n = 0
    · subst c; rw [pg_zero]; simp
    · rw [pg_pos c, dg_pos c, List.length_cons, List.length_cons]
      have := ih (n / 1000000000) (by omega)
      have := len_mono (show n / 1000000000 ≤ n / 10 by omega)
      omega
theorem textP_l : ∀ (n : Nat) (acc : List Int), (lm n).length ≤ 1000000000 → acc.length + (pg n).length ≤ 35184372088000 → Ev (fun k => textP.l0 k acc (lm n)) (acc ++ pg n) := by
  intro n
  induction n using Nat.strongRecOn with
  | _ n ih =>
    intro acc hl ha
    refine Ev.step (fun k => rfl) ?_
    by_cases c : n = 0
    · subst c
      refine Ev.neg (by rw [lm_zero]; simp) ?_
      rw [pg_zero, List.append_nil]
      exact Ev.now _
    · obtain ⟨r, h1, h2, h3⟩ := divSmall_ev n 1000000000 hl (by omega) (by omega)
      have hp := pg_pos c
      have hpl : (pg n).length = (pg (n / 1000000000)).length + 1 := by rw [hp]; rfl
      refine Ev.pos (by rw [lm_pos c]; simp <;> omega) ?_
      refine Ev.bind h1 (Ev.pos (by omega) ?_)
      refine Ev.val (made_f false h2) ?_
      rw [h3]
      have := ih (n / 1000000000) (by omega) (acc ++ [((n % 1000000000 : Nat) : Int)]) (Nat.le_trans (lml_mono (by omega)) hl) (by rw [List.length_append, List.length_singleton]; omega)
      rw [hp]
      rw [List.append_assoc] at this
      exact this
/-- Decimal digits as bytes, the highest first. -/
def dl (n : Nat) : List UInt8 := if h : n = 0 then [] else dl (n / 10) ++ [UInt8.ofNat (48 + n % 10)]
termination_by n
decreasing_by omega
theorem dl_zero : dl 0 = [] := by rw [dl]; simp
theorem dl_pos {n : Nat} (h : n ≠ 0) : dl n = dl (n / 10) ++ [UInt8.ofNat (48 + n % 10)] := by rw [dl]; simp [h]
/-- A text of a number, '0' for 0. -/
def dz (n : Nat) : List UInt8 := if n = 0 then [48] else dl n
theorem dz_small {n : Nat} (h : n < 10) : dz n = [UInt8.ofNat (48 + n)] := by
  unfold dz
  by_cases c : n = 0
  · subst c; rfl
  · rw [if_neg c, dl_pos c, show n / 10 = 0 by omega, dl_zero, Nat.mod_eq_of_lt h]; rfl
theorem dz_big {n : Nat} (h : ¬ n < 10) : dz n = dz (n / 10) ++ [UInt8.ofNat (48 + n % 10)] := by
  unfold dz
  rw [if_neg (by omega), if_neg (by omega), dl_pos (by omega)]
theorem dl_len (n : Nat) : (dl n).length = (dg n).length := by
  induction n using Nat.strongRecOn with
  | _ n ih =>
    by_cases c : n = 0
    · subst c; rw [dl_zero, dg_zero]; rfl
    · rw [dl_pos c, dg_pos c, List.length_append, List.length_cons, ih _ (by omega)]; rfl
theorem dz_len {n m : Nat} (h : n < 10 ^ m) (hm : 0 < m) : (dz n).length ≤ m := by
  unfold dz
  split
  · exact hm
  · rw [dl_len]; exact dg_len m n h
/-- Digits of a fixed number. -/
def fw : Nat → Nat → List UInt8
  | 0, _ => []
  | k + 1, p => fw k (p / 10) ++ [UInt8.ofNat (48 + p % 10)]
theorem dl_fw : ∀ (k h p : Nat), p < 10 ^ k → h ≠ 0 → dl (10 ^ k * h + p) = dl h ++ fw k p
  | 0, h, p, hp, hh => by
    have : p = 0 := by simpa using hp
    subst this
    simp [fw]
  | k + 1, h, p, hp, hh => by
    rw [Nat.pow_succ] at hp ⊢
    have hpos : 0 < 10 ^ k * h := Nat.mul_pos (Nat.pow_pos (by omega)) (by omega)
    have e : 10 ^ k * 10 * h = 10 * (10 ^ k * h) := by rw [Nat.mul_comm (10 ^ k) 10, Nat.mul_assoc]
    rw [e, dl_pos (by omega), show (10 * (10 ^ k * h) + p) / 10 = 10 ^ k * h + p / 10 by omega, show (10 * (10 ^ k * h) + p) % 10 = p % 10 by omega, dl_fw k h (p / 10) (by omega) hh, fw, List.append_assoc]
theorem fw_zero : ∀ k, fw k 0 = List.replicate k 48
  | 0 => rfl
  | k + 1 => by rw [fw, Nat.zero_div, fw_zero k, List.replicate_succ']; rfl
theorem fw_dz : ∀ (k p : Nat), 0 < k → p < 10 ^ k → fw k p = List.replicate (k - (dz p).length) 48 ++ dz p
  | 0, p, h, _ => absurd h (Nat.lt_irrefl _)
  | k + 1, p, _, hp => by
    by_cases c : p < 10
    · rw [dz_small c, fw, show p / 10 = 0 by omega, fw_zero, Nat.mod_eq_of_lt c]
      rfl
    · rw [dz_big c, fw]
      have hk : 0 < k := by
        rcases Nat.eq_zero_or_pos k with e | e
        · subst e; simp at hp; omega
        · exact e
      rw [fw_dz k (p / 10) hk (by rw [Nat.pow_succ] at hp; omega), List.length_append, List.length_singleton, Nat.add_sub_add_right, List.append_assoc]
theorem so (m : Nat) : (strOfNums [(m : Int)]).data.toList = [UInt8.ofNat m] := rfl
theorem digits_ev : ∀ (n : Nat), n < 4294967296 → Ev (fun k => exact_digits.f k (n : Int)) (⟨(dz n).toArray⟩ : ByteArray) := by
  intro n
  induction n using Nat.strongRecOn with
  | _ n ih =>
    intro hn
    refine Ev.step (fun k => rfl) ?_
    by_cases c : n < 10
    · refine Ev.pos (by omega) ?_
      refine Ev.eq (Ev.now _) ?_
      rw [dz_small c]
      unfold strOfNums
      rw [show ((48 + (n : Int)) % 4294967296) % 256 = ((48 + n : Nat) : Int) by omega]
      rfl
    · refine Ev.neg (by omega) ?_
      have t1 : (Int.tdiv (n : Int) 10) % 4294967296 = ((n / 10 : Nat) : Int) := by
        rw [Int.tdiv_eq_ediv_of_nonneg (by omega)]; omega
      have t2 : (48 + Int.tmod (n : Int) 10) % 4294967296 % 256 = ((48 + n % 10 : Nat) : Int) := by
        rw [Int.tmod_eq_emod_of_nonneg (by omega)]; omega
      rw [t1, t2]
      refine Ev.bind (ih (n / 10) (by omega) (by omega)) ?_
      refine Ev.val rfl ?_
      have hl := dz_len (n := n / 10) (m := 10) (by omega) (by omega)
      have hs : (⟨(dz (n / 10)).toArray⟩ : ByteArray).size = (dz (n / 10)).length := by simp [ByteArray.size]
      refine Ev.pos (by rw [hs]; simp [strOfNums, ByteArray.size]; omega) ?_
      refine Ev.eq (Ev.now _) ?_
      rw [dz_big c]
      apply ByteArray.ext
      apply Array.ext'
      rw [ByteArray.data_append, Array.toList_append, so]
theorem outF_ev : ∀ (n : Nat), Ev (fun k => outF k (pg n)) (dl n) := by
  intro n
  induction n using Nat.strongRecOn with
  | _ n ih =>
    by_cases c : n = 0
    · subst c
      rw [pg_zero, dl_zero]
      exact Ev.now _
    · rw [pg_pos c]
      refine Ev.congr (fun k => rfl) ?_
      have hp : n % 1000000000 < 10 ^ 9 := Nat.mod_lt _ (by omega)
      have hz := dz_len hp (by omega)
      have hs : (⟨(dz (n % 1000000000)).toArray⟩ : ByteArray).size = (dz (n % 1000000000)).length := by simp [ByteArray.size]
      refine Ev.bind (ih (n / 1000000000) (by omega)) ?_
      refine Ev.bind (digits_ev _ (by omega)) ?_
      refine Ev.pos (by rw [hs]; exact hz) ?_
      refine Ev.eq (Ev.now _) ?_
      rw [hs]
      by_cases d : n / 1000000000 = 0
      · rw [d, pg_zero, if_pos rfl, dl_zero, Nat.mod_eq_of_lt (by omega)]
        unfold dz
        rw [if_neg c]
        simp
      · rw [if_neg (fun e => d (pg_nil.1 e))]
        have := dl_fw 9 (n / 1000000000) (n % 1000000000) hp d
        rw [show 10 ^ 9 * (n / 1000000000) + n % 1000000000 = n by omega, fw_dz 9 _ (by omega) hp] at this
        rw [this]
        simp
/-- The text of a number. -/
def tx (neg : Bool) (n : Nat) : ByteArray := ⟨(if n = 0 then [48] else (if neg then [45] else []) ++ dl n).toArray⟩
theorem text_ev (neg : Bool) (n : Nat) (hl : (lm n).length ≤ 1000000000) (hd : (dg n).length ≤ 1000000000000) : Ev (fun k => exact_Text.f k neg (lm n)) (tx neg n) := by
  refine Ev.congr (fun k => rfl) (Ev.val (sign_f neg n) ?_)
  unfold tx
  by_cases c : n = 0
  · subst c
    refine Ev.pos (by simp) ?_
    exact Ev.now _
  · refine Ev.neg (by rw [if_neg c]; split <;> omega) ?_
    have hp := pg_len n
    refine Ev.bind (textP_l n [] hl (by simp; omega)) ?_
    rw [List.nil_append]
    refine Ev.pos (by omega) ?_
    refine Ev.bind (outF_ev n) ?_
    rw [if_neg c]
    exact Ev.now _
theorem dectext_l (neg : Bool) (l0 : List Int) : ∀ (n : Nat) (xs : List Int) (pre : List Int) (acc : ByteArray), xs = pre ++ dg n → xs.length ≤ 1000000000000 → acc.size = pre.length → Ev (fun k => maskref4_Dec_Text.l0 k acc xs (xs.length : Int) (pre.length : Int) neg l0) (⟨((if neg then [45] else []) ++ dl n ++ acc.data.toList).toArray⟩ : ByteArray) := by
  intro n
  induction n using Nat.strongRecOn with
  | _ n ih =>
    intro xs pre acc hx hm ha
    refine Ev.step (fun k => rfl) ?_
    by_cases c : n = 0
    · subst c
      rw [dg_zero, List.append_nil] at hx
      subst hx
      refine Ev.neg (by omega) ?_
      rw [dl_zero, List.append_nil]
      by_cases d : neg = true
      · subst d
        refine Ev.pos rfl (Ev.pos (by omega) ?_)
        refine Ev.eq (Ev.now _) ?_
        apply ByteArray.ext
        apply Array.ext'
        simp [ByteArray.data_append]
      · refine Ev.neg d ?_
        refine Ev.eq (Ev.now _) ?_
        apply ByteArray.ext
        apply Array.ext'
        simp [d]
    · have hd := dg_pos c
      have hlen : xs.length = pre.length + (dg (n / 10)).length + 1 := by rw [hx, hd]; simp; omega
      have hrd : rd xs (pre.length : Int) = ((n % 10 : Nat) : Int) := by
        rw [rd_at (by omega)]
        simp [hx, hd]
      refine Ev.pos (by omega) (Ev.pos (by omega) (Ev.pos (by omega) ?_))
      rw [hrd, w64 (x := 48 + ((n % 10 : Nat) : Int)) (by omega) (by omega), show (48 + ((n % 10 : Nat) : Int)) % 256 = ((48 + n % 10 : Nat) : Int) by omega]
      refine Ev.val rfl ?_
      have hs : (strOfNums [((48 + n % 10 : Nat) : Int)]).size = 1 := by simp [strOfNums, ByteArray.size]
      refine Ev.pos (by rw [hs]; omega) ?_
      have h := ih (n / 10) (by omega) xs (pre ++ [((n % 10 : Nat) : Int)]) (strOfNums [((48 + n % 10 : Nat) : Int)] ++ acc) (by rw [hx, hd]; simp) hm (by rw [ByteArray.size_append, hs, ha]; simp; omega)
      rw [show (((pre ++ [((n % 10 : Nat) : Int)]).length : Nat) : Int) = wrap64 ((pre.length : Int) + 1) by rw [w64 (by omega) (by omega)]; simp] at h
      refine Ev.eq h ?_
      rw [dl_pos c, ByteArray.data_append, Array.toList_append, so]
      simp only [List.append_assoc]
theorem dectext_ev (neg : Bool) (n : Nat) (hl : (dg n).length ≤ 1000000000000) : Ev (fun k => maskref4_Dec_Text.f k neg (dg n)) (tx neg n) := by
  unfold tx
  by_cases c : n = 0
  · subst c
    refine Ev.congr (fun k => by unfold maskref4_Dec_Text.f; rw [dg_zero, if_pos (by rfl)]) ?_
    exact Ev.now _
  · refine Ev.congr (fun k => by unfold maskref4_Dec_Text.f; rw [if_neg (by rw [dg_pos c]; simp; omega)]) ?_
    have h := dectext_l neg (dg n) n (dg n) [] ⟨#[]⟩ (by simp) hl rfl
    refine Ev.eq h ?_
    rw [if_neg c]
    simp
end Go.Proofs.Ytlbljdjbcbgnlaa.LNum
