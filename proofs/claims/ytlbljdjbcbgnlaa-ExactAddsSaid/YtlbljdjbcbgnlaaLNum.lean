/- What the program's long numbers are: places of 32 bits, the lowest first. No conditions. -/
import Derived.Test.YtlbljdjbcbgnlaaPXx16
import Derived.Test.YtlbljdjbcbgnlaaPXx4
import Derived.Test.YtlbljdjbcbgnlaaPXx9
import Derived.Test.YtlbljdjbcbgnlaaPXx25
import Derived.Test.YtlbljdjbcbgnlaaLDec
namespace Go.Proofs.Ytlbljdjbcbgnlaa.LNum
open Go.RowKit Go.Proofs.YtlbljdjbcbgnlaaW.PrintWords Go.Proofs.Ytlbljdjbcbgnlaa.PX Go.Proofs.Ytlbljdjbcbgnlaa.Aid Go.Proofs.Ytlbljdjbcbgnlaa.LDec
set_option linter.unusedVariables false
set_option linter.unusedSimpArgs false

theorem bl_table : ∀ i : Nat, i < 256 → bt len8 (i : Int) = ((bln i : Nat) : Int) := by
  intro i hi
  have h : ∀ j : Fin 256, bt len8 ((j.val : Nat) : Int) = ((bln j.val : Nat) : Int) := by decide +kernel
  exact h ⟨i, hi⟩
theorem bl_le : ∀ (m n : Nat), n < 2 ^ m → bln n ≤ m
  | 0, n, h => by
    have : n = 0 := by simpa using h
    subst this
    rw [bln]; simp
  | m + 1, n, h => by
    by_cases c : n = 0
    · subst c; rw [bln]; simp
    · rw [bl_pos c]
      have := bl_le m (n / 2) (by rw [Nat.pow_succ] at h; omega)
      omega
theorem bl_shift : ∀ (m n : Nat), 0 < n / 2 ^ m → bln n = m + bln (n / 2 ^ m)
  | 0, n, h => by simp
  | m + 1, n, h => by
    have e : n / 2 ^ (m + 1) = n / 2 / 2 ^ m := by rw [Nat.pow_succ, Nat.mul_comm, Nat.div_div_eq_div_mul]
    have hn : n ≠ 0 := fun z => by subst z; simp at h
    rw [e] at h ⊢
    rw [bl_pos hn, bl_shift m (n / 2) h]
    omega
theorem len32 (x : Nat) (h : x < 4294967296) : bits_Len32.f (x : Int) = some ((bln x : Nat) : Int) := by
  have tb : ∀ i : Nat, i < 256 → bln i ≤ 8 := fun i hi => bl_le 8 i (by omega)
  have key : ∀ (i : Nat) (c : Int), i < 256 → 0 ≤ c → c ≤ 24 → wrap64 (c + wrap64 (bt len8 (((i : Nat) : Int)))) = c + ((bln i : Nat) : Int) := by
    intro i c hi h0 h1
    have := tb i hi
    have w : wrap64 ((bln i : Nat) : Int) = ((bln i : Nat) : Int) := w64 (by omega) (by omega)
    rw [bl_table i hi, w]
    clear w
    exact w64 (by omega) (by omega)
  unfold bits_Len32.f
  by_cases c1 : (x : Int) ≥ 65536
  · rw [if_pos c1]
    by_cases c2 : (x : Int) / 65536 ≥ 256
    · rw [if_pos c2, if_pos (by omega), if_pos (by omega)]
      have e : ((x : Int) / 65536 / 256) % 256 = ((x / 2 ^ 24 : Nat) : Int) := by omega
      rw [e, key _ _ (by omega) (by omega) (by omega), bl_shift 24 x (by omega)]
      congr 1
    · rw [if_neg c2, if_pos (by omega), if_pos (by omega)]
      have e : ((x : Int) / 65536) % 256 = ((x / 2 ^ 16 : Nat) : Int) := by omega
      rw [e, key _ _ (by omega) (by omega) (by omega), bl_shift 16 x (by omega)]
      congr 1
  · rw [if_neg c1]
    by_cases c2 : (x : Int) ≥ 256
    · rw [if_pos c2, if_pos (by omega), if_pos (by omega)]
      have e : ((x : Int) / 256) % 256 = ((x / 2 ^ 8 : Nat) : Int) := by omega
      rw [e, key _ _ (by omega) (by omega) (by omega), bl_shift 8 x (by omega)]
      congr 1
    · rw [if_neg c2, if_pos (by omega), if_pos (by omega)]
      have e : (x : Int) % 256 = ((x : Nat) : Int) := by omega
      rw [e, key _ _ (by omega) (by omega) (by omega)]
      congr 1
      omega
/-- A number's places, the lowest first. -/
def lm (n : Nat) : List Int := if h : n = 0 then [] else ((n % 4294967296 : Nat) : Int) :: lm (n / 4294967296)
termination_by n
decreasing_by omega
theorem lm_zero : lm 0 = [] := by rw [lm]; simp
theorem lm_pos {n : Nat} (h : n ≠ 0) : lm n = ((n % 4294967296 : Nat) : Int) :: lm (n / 4294967296) := by rw [lm]; simp [h]
theorem lm_nil {n : Nat} : lm n = [] ↔ n = 0 := by
  constructor
  · intro h
    by_cases c : n = 0
    · exact c
    · rw [lm_pos c] at h; cases h
  · rintro rfl
    exact lm_zero
theorem lm_one {m : Nat} (h0 : m ≠ 0) (h : m < 4294967296) : lm m = [(m : Int)] := by
  rw [lm_pos h0, show m / 4294967296 = 0 by omega, lm_zero, Nat.mod_eq_of_lt h]
theorem lm_two {m : Nat} (h : 4294967296 ≤ m) (h2 : m < 18446744073709551616) : lm m = [((m % 4294967296 : Nat) : Int), ((m / 4294967296 : Nat) : Int)] := by
  rw [lm_pos (by omega), lm_one (by omega) (by omega)]
/-- What places are worth. -/
def lv : List Int → Nat
  | [] => 0
  | x :: xs => x.toNat + 4294967296 * lv xs
def ok32 (l : List Int) : Prop := ∀ x ∈ l, 0 ≤ x ∧ x < 4294967296
theorem ok32.cons {x : Int} {l : List Int} (h : ok32 (x :: l)) : (0 ≤ x ∧ x < 4294967296) ∧ ok32 l := ⟨h x (by simp), fun y hy => h y (by simp [hy])⟩
theorem ok32.mk {x : Int} {l : List Int} (h : 0 ≤ x ∧ x < 4294967296) (k : ok32 l) : ok32 (x :: l) := fun y hy => by
  rcases List.mem_cons.1 hy with rfl | hy
  · exact h
  · exact k y hy
theorem ok32_nil : ok32 [] := fun _ h => by cases h
theorem ok32_app {a b : List Int} (ha : ok32 a) (hb : ok32 b) : ok32 (a ++ b) := fun x hx => by
  rcases List.mem_append.1 hx with h | h
  · exact ha x h
  · exact hb x h
theorem lm_ok : ∀ n, ok32 (lm n) := by
  intro n
  induction n using Nat.strongRecOn with
  | _ n ih =>
    by_cases c : n = 0
    · subst c; rw [lm_zero]; exact ok32_nil
    · rw [lm_pos c]; exact ok32.mk ⟨by omega, by omega⟩ (ih _ (by omega))
theorem lv_lm : ∀ n, lv (lm n) = n := by
  intro n
  induction n using Nat.strongRecOn with
  | _ n ih =>
    by_cases c : n = 0
    · subst c; rw [lm_zero]; rfl
    · rw [lm_pos c, lv, ih _ (by omega)]; omega
theorem trim_lm : ∀ l : List Int, ok32 l → trimV l = lm (lv l)
  | [], _ => by rw [lv, lm_zero]; rfl
  | x :: xs, h => by
    obtain ⟨hx, hxs⟩ := h.cons
    rw [trimV_cons, trim_lm xs hxs, lv]
    by_cases c : lv xs = 0
    · rw [if_pos (lm_nil.2 c), c]
      by_cases z : x = 0
      · rw [if_pos z, z]; simp [lm_zero]
      · rw [if_neg z, lm_pos (by omega)]
        rw [show (x.toNat + 4294967296 * 0) / 4294967296 = 0 by omega, lm_zero, show (x.toNat + 4294967296 * 0) % 4294967296 = x.toNat by omega]
        simp; omega
    · rw [if_neg (fun e => c (lm_nil.1 e)), lm_pos (n := x.toNat + 4294967296 * lv xs) (by omega)]
      rw [show (x.toNat + 4294967296 * lv xs) / 4294967296 = lv xs by omega, show (x.toNat + 4294967296 * lv xs) % 4294967296 = x.toNat by omega]
      congr 1
      omega
theorem lv_append : ∀ a b : List Int, lv (a ++ b) = lv a + 4294967296 ^ a.length * lv b
  | [], b => by simp [lv]
  | x :: xs, b => by
    rw [List.cons_append, lv, lv, lv_append xs b, List.length_cons, Nat.pow_succ, Nat.mul_add, Nat.mul_comm (4294967296 ^ xs.length) 4294967296, Nat.mul_assoc, Nat.add_assoc]
theorem lv_zeros : ∀ n, lv (List.replicate n 0) = 0
  | 0 => rfl
  | n + 1 => by rw [List.replicate_succ, lv, lv_zeros n]; rfl
theorem lv_lt : ∀ l : List Int, ok32 l → lv l < 4294967296 ^ l.length
  | [], _ => by simp [lv]
  | x :: xs, h => by
    obtain ⟨hx, hxs⟩ := h.cons
    have := lv_lt xs hxs
    rw [lv, List.length_cons, Nat.pow_succ]
    omega
theorem ok32_take {l : List Int} (h : ok32 l) (n : Nat) : ok32 (l.take n) := fun x hx => h x (List.mem_of_mem_take hx)
theorem rd32 {l : List Int} (hl : ok32 l) {i : Nat} (h : i < l.length) : 0 ≤ rd l (i : Int) ∧ rd l (i : Int) < 4294967296 := by
  rw [rd_at h]
  exact hl _ (List.getElem_mem h)
theorem lv_take {l : List Int} {i : Nat} (h : i < l.length) : lv (l.take (i + 1)) = lv (l.take i) + 4294967296 ^ i * (rd l (i : Int)).toNat := by
  rw [rd_at h, List.take_add_one, List.getElem?_eq_getElem h, Option.toList_some, lv_append]
  simp only [lv, Nat.mul_zero, Nat.add_zero, List.length_take]
  rw [Nat.min_eq_left (by omega)]
theorem lm_len : ∀ (m n : Nat), n < 4294967296 ^ m → (lm n).length ≤ m
  | 0, n, h => by
    have : n = 0 := by simpa using h
    subst this
    rw [lm_zero]; simp
  | m + 1, n, h => by
    by_cases c : n = 0
    · subst c; rw [lm_zero]; simp
    · rw [lm_pos c, List.length_cons]
      have := lm_len m (n / 4294967296) (by rw [Nat.pow_succ] at h; omega)
      omega
theorem lm_low (n : Nat) (h : n ≠ 0) : 4294967296 ^ ((lm n).length - 1) ≤ n := by
  induction n using Nat.strongRecOn with
  | _ n ih =>
    rw [lm_pos h, List.length_cons, Nat.add_sub_cancel]
    by_cases c : n / 4294967296 = 0
    · rw [c, lm_zero]; simp; omega
    · have := ih (n / 4294967296) (by omega) c
      have hp : 0 < (lm (n / 4294967296)).length := by rw [lm_pos c]; simp
      have e : 4294967296 ^ (lm (n / 4294967296)).length = 4294967296 ^ ((lm (n / 4294967296)).length - 1) * 4294967296 := by rw [← Nat.pow_succ]; congr 1; omega
      rw [e]
      omega
theorem lm_high (n : Nat) : n < 4294967296 ^ (lm n).length := by
  have := lv_lt (lm n) (lm_ok n)
  rwa [lv_lm] at this
theorem lml_lt {a b : Nat} (h : (lm a).length < (lm b).length) : a < b := by
  have hb : b ≠ 0 := fun e => by subst e; rw [lm_zero] at h; simp at h
  have h1 := lm_low b hb
  have h2 := lm_high a
  have h3 : 4294967296 ^ (lm a).length ≤ 4294967296 ^ ((lm b).length - 1) := Nat.pow_le_pow_right (by omega) (by omega)
  omega
theorem lml_mono {a b : Nat} (h : a ≤ b) : (lm a).length ≤ (lm b).length := by
  by_cases c : (lm b).length < (lm a).length
  · have := lml_lt c
    omega
  · omega
theorem lml_pos (n : Nat) : decide (0 < (lm n).length) = decide (0 < n) := by
  by_cases c : n = 0
  · subst c; rw [lm_zero]; rfl
  · rw [lm_pos c]; simp; omega
theorem wu {x : Int} (h0 : 0 ≤ x) (h1 : x < 18446744073709551616) : IntKind.u64.wrap x = x := by
  rw [IntKind.wrap_u64]
  omega
/-- A long number: its sign and its places. -/
def ln (neg : Bool) (n : Nat) : Bool × List Int := (neg && decide (0 < n), lm n)
theorem made_f (neg : Bool) {l : List Int} (h : ok32 l) : exact_made.f neg l = some (ln neg (lv l)) := by
  unfold exact_made.f ln
  rw [trim_lm l h, lml_pos]
theorem made_lm (neg : Bool) (n : Nat) : exact_made.f neg (lm n) = some (ln neg n) := by rw [made_f neg (lm_ok n), lv_lm]
theorem mgM_eq (x : Int) (h0 : -9223372036854775808 ≤ x) (h1 : x ≤ 9223372036854775807) : mgM x = (x.natAbs : Int) := by
  unfold mgM
  show (if x < 0 then (-(x % 18446744073709551616)) % 18446744073709551616 else x % 18446744073709551616) = _
  split <;> omega
theorem of_f (x : Int) (h0 : -9223372036854775808 ≤ x) (h1 : x ≤ 9223372036854775807) : exact_Of.f x = some (ln (decide (x < 0)) x.natAbs) := by
  unfold exact_Of.f ofM
  rw [mgM_eq x h0 h1]
  have ho : ok32 [(x.natAbs : Int) % 4294967296, (x.natAbs : Int) / 4294967296 % 4294967296] := ok32.mk ⟨by omega, by omega⟩ (ok32.mk ⟨by omega, by omega⟩ ok32_nil)
  have e : lv [(x.natAbs : Int) % 4294967296, (x.natAbs : Int) / 4294967296 % 4294967296] = x.natAbs := by
    simp only [lv]
    omega
  rw [trim_lm _ ho, e, lml_pos]
  rfl
theorem neg_f (neg : Bool) (n : Nat) : exact_Neg.f neg (lm n) = some (ln (!neg) n) := by
  unfold exact_Neg.f
  rw [made_lm]
  rfl
theorem abs_f (neg : Bool) (n : Nat) : exact_Abs.f neg (lm n) = some (ln false n) := by
  unfold exact_Abs.f
  rw [made_lm]
  rfl
theorem sign_f (neg : Bool) (m : Nat) : exact_Sign.f neg (lm m) = some (if m = 0 then 0 else if neg = true then -1 else 1) := by
  unfold exact_Sign.f
  by_cases c : m = 0
  · subst c; rw [lm_zero]; rfl
  · have : ¬ ((lm m).length : Int) = 0 := by
      rw [lm_pos c]; simp; omega
    rw [if_neg this, if_neg c]
    cases neg <;> rfl
theorem lm_top (n : Nat) (h : n ≠ 0) : n / 4294967296 ^ ((lm n).length - 1) = (rd (lm n) (((lm n).length - 1 : Nat) : Int)).toNat ∧ 0 < n / 4294967296 ^ ((lm n).length - 1) := by
  have hp : 0 < (lm n).length := by rw [lm_pos h]; simp
  have t := lv_take (l := lm n) (i := (lm n).length - 1) (by omega)
  rw [show (lm n).length - 1 + 1 = (lm n).length by omega, List.take_length, lv_lm] at t
  have b := lv_lt ((lm n).take ((lm n).length - 1)) (ok32_take (lm_ok n) _)
  rw [List.length_take, Nat.min_eq_left (by omega)] at b
  have hpw : 0 < 4294967296 ^ ((lm n).length - 1) := Nat.pow_pos (by omega)
  constructor
  · have e := congrArg (· / 4294967296 ^ ((lm n).length - 1)) t
    rw [Nat.add_comm (lv _), Nat.mul_add_div hpw, Nat.div_eq_of_lt b, Nat.add_zero] at e
    exact e
  · exact Nat.div_pos (lm_low n h) hpw
theorem bits_f (neg : Bool) (m : Nat) (hl : (lm m).length ≤ 1000000000) : exact_Bits.f neg (lm m) = some ((bln m : Nat) : Int) := by
  unfold exact_Bits.f
  by_cases c : m = 0
  · subst c
    rw [lm_zero, bln]
    rfl
  · have hp : 0 < (lm m).length := by rw [lm_pos c]; simp
    obtain ⟨e, hpos⟩ := lm_top m c
    have r := rd32 (lm_ok m) (i := (lm m).length - 1) (by omega)
    have w : wrap64 (((lm m).length : Int) - 1) = (((lm m).length - 1 : Nat) : Int) := by rw [w64 (by omega) (by omega)]; omega
    rw [if_neg (by omega), w]
    clear w
    rw [if_pos (by omega), if_pos (by omega)]
    obtain ⟨x, hx⟩ : ∃ x : Nat, rd (lm m) (((lm m).length - 1 : Nat) : Int) = (x : Int) := ⟨(rd (lm m) (((lm m).length - 1 : Nat) : Int)).toNat, by omega⟩
    rw [hx] at e r ⊢
    rw [Int.toNat_natCast] at e
    rw [len32 x (by omega)]
    have := bl_le 32 x (by omega)
    simp only [Option.bind_some]
    rw [w64 (x := 32 * (((lm m).length - 1 : Nat) : Int)) (by omega) (by omega), w64 (by omega) (by omega)]
    congr 1
    have hs := bl_shift (32 * ((lm m).length - 1)) m (by rw [Nat.pow_mul]; exact hpos)
    rw [hs, Nat.pow_mul]
    show _ = ((32 * ((lm m).length - 1) + bln (m / 4294967296 ^ ((lm m).length - 1)) : Nat) : Int)
    rw [e]
    omega
end Go.Proofs.Ytlbljdjbcbgnlaa.LNum
