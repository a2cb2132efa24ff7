/- The pure statement of the law StreamSums, proved: the register that takes whole bytes at its high end, and the division that runs along the bits, step for step. No conditions. -/
import Derived.Test.YtgajgnemfccnhaaStmStreamSums
import Derived.Test.YtgajgnemfccnhaaAid
namespace Go.Proofs.Ytgajgnemfccnhaa.Pure
open Go.RowKit Go.Proofs.YtgajgnemfccnhaaW.PrintWords Go.Proofs.YtgajgnemfccnhaaW.PrintMore Go.Proofs.Ytgajgnemfccnhaa.Opn Go.Proofs.Ytgajgnemfccnhaa.PS Go.Proofs.Ytgajgnemfccnhaa.SStreamSums Go.Proofs.Ytgajgnemfccnhaa.Aid
set_option linter.unusedVariables false
set_option linter.unusedSimpArgs false

/-! the register, bit by bit -/
def stp (r : Nat) : Nat := if r.testBit 15 = true then ((r * 2) % 65536) ^^^ 4129 else (r * 2) % 65536
theorem t4129 (m : Nat) : (4129 : Nat).testBit m = (decide (m = 0) || decide (m = 5) || decide (m = 12)) := by
  by_cases h : m < 16
  · revert m; decide
  · rw [Nat.testBit_lt_two_pow (Nat.lt_of_lt_of_le (show 4129 < 2 ^ 16 by decide) (Nat.pow_le_pow_right (by decide) (by omega)))]
    have h0 : m ≠ 0 := by omega
    have h5 : m ≠ 5 := by omega
    have h12 : m ≠ 12 := by omega
    simp [h0, h5, h12]
theorem dbl_bit (r m : Nat) : ((r * 2) % 65536).testBit m = (decide (m < 16) && (decide (1 ≤ m) && r.testBit (m - 1))) := by
  rw [show (65536 : Nat) = 2 ^ 16 from rfl, Nat.testBit_mod_two_pow, show r * 2 = r * 2 ^ 1 from rfl, Nat.testBit_mul_two_pow]
theorem stp_lt (r : Nat) : stp r < 65536 := by
  unfold stp
  have h : (r * 2) % 65536 < 2 ^ 16 := Nat.mod_lt _ (by decide)
  split
  · exact Nat.xor_lt_two_pow h (by decide)
  · exact h
theorem stp_bit (r m : Nat) (hm : m < 16) : (stp r).testBit m = ((decide (1 ≤ m) && r.testBit (m - 1)) ^^ (r.testBit 15 && (decide (m = 0) || decide (m = 5) || decide (m = 12)))) := by
  unfold stp
  split
  · rename_i h
    rw [Nat.testBit_xor, dbl_bit, t4129, h]
    simp [hm]
  · rename_i h
    rw [dbl_bit, Bool.not_eq_true _ |>.mp h]
    simp [hm]
def byt (l : List Int) (i : Nat) : Nat := (l.getD i 0).toNat
def ob (l : List Int) (j : Nat) : Bool := (byt l (j / 8)).testBit (7 - j % 8)
def b2i (b : Bool) : Int := if b = true then 1 else 0
def qin (l : List Int) (j q : Nat) : Nat := if j % 8 = 0 then q ^^^ (byt l (j / 8) * 256) else q
def Q (l : List Int) : Nat → Nat
  | 0 => 65535
  | j + 1 => stp (qin l j (Q l j))
theorem Q_lt (l : List Int) (j : Nat) : Q l j < 65536 := by
  cases j with
  | zero => show 65535 < 65536; decide
  | succ j => exact stp_lt _
theorem byt_lt (l : List Int) (h : ∀ x ∈ l, GI .u8 x) (i : Nat) : byt l i < 256 := by
  unfold byt
  by_cases hi : i < l.length
  · have hm : l.getD i 0 ∈ l := by
      rw [List.getD_eq_getElem?_getD, List.getElem?_eq_getElem hi]
      exact List.getElem_mem hi
    have h0 := h _ hm
    generalize l.getD i 0 = x at h0 ⊢
    have h1 : (decide (IntKind.u8.min ≤ x) && decide (x ≤ IntKind.u8.max)) = true := h0
    rw [Bool.and_eq_true, decide_eq_true_eq, decide_eq_true_eq, show IntKind.u8.min = 0 from rfl, show IntKind.u8.max = 255 from rfl] at h1
    omega
  · rw [List.getD_eq_getElem?_getD, List.getElem?_eq_none (by omega)]
    decide
theorem byt_end (l : List Int) (i : Nat) (hi : l.length ≤ i) : byt l i = 0 := by
  unfold byt
  rw [List.getD_eq_getElem?_getD, List.getElem?_eq_none hi]
  rfl
theorem ob_end (l : List Int) (j : Nat) (hj : 8 * l.length ≤ j) : ob l j = false := by
  unfold ob
  rw [byt_end l _ (by omega)]
  simp
theorem qin_lt (l : List Int) (h : ∀ x ∈ l, GI .u8 x) (j q : Nat) (hq : q < 65536) : qin l j q < 65536 := by
  unfold qin
  split
  · exact Nat.xor_lt_two_pow (n := 16) hq (by have := byt_lt l h (j / 8); omega)
  · exact hq
/-- A bit of the register with the bits of the data that are not yet in it. -/
def rb (l : List Int) (q e j k : Nat) : Bool := q.testBit (15 - k) ^^ (decide (e ≤ j + k) && ob l (j + k))
theorem rb_qin (l : List Int) (h : ∀ x ∈ l, GI .u8 x) (j q k : Nat) (hk : k < 16) : rb l (qin l j q) ((j + 8) / 8 * 8) j k = rb l q ((j + 7) / 8 * 8) j k := by
  unfold rb qin
  by_cases hj : j % 8 = 0
  · rw [if_pos hj, Nat.testBit_xor, show (byt l (j / 8) * 256) = byt l (j / 8) * 2 ^ 8 from rfl, Nat.testBit_mul_two_pow]
    have e1 : (j + 7) / 8 * 8 = j := by omega
    have e2 : (j + 8) / 8 * 8 = j + 8 := by omega
    rw [e1, e2]
    by_cases hk8 : k < 8
    · have e3 : ob l (j + k) = (byt l (j / 8)).testBit (7 - k) := by
        unfold ob
        rw [show (j + k) / 8 = j / 8 by omega, show (j + k) % 8 = k by omega]
      rw [e3, show (15 - k - 8) = 7 - k by omega]
      have a1 : decide (8 ≤ 15 - k) = true := decide_eq_true (by omega)
      have a2 : decide (j + 8 ≤ j + k) = false := decide_eq_false (by omega)
      have a3 : decide (j ≤ j + k) = true := decide_eq_true (by omega)
      rw [a1, a2, a3]
      simp
    · have a1 : decide (8 ≤ 15 - k) = false := decide_eq_false (by omega)
      have a2 : decide (j + 8 ≤ j + k) = true := decide_eq_true (by omega)
      have a3 : decide (j ≤ j + k) = true := decide_eq_true (by omega)
      rw [a1, a2, a3]
      simp
  · rw [if_neg hj, show (j + 8) / 8 * 8 = (j + 7) / 8 * 8 by omega]

/-! bits as whole numbers -/
def flip (v : Int) : Int := Go.bits .xor .i64 v 1
theorem flip_b (b : Bool) : flip (b2i b) = b2i (!b) := by
  cases b <;> decide +kernel
theorem b2i_inj {a b : Bool} (h : b2i a = b2i b) : a = b := by
  cases a <;> cases b <;> simp_all [b2i]
theorem b2i_one (b : Bool) : b2i b = 1 ↔ b = true := by
  cases b <;> simp [b2i]
theorem getD_set (xs : List Int) (i j : Nat) (v : Int) (h : i < xs.length) : (xs.set i v).getD j 0 = if i = j then v else xs.getD j 0 := by
  simp only [List.getD_eq_getElem?_getD, List.getElem?_set]
  by_cases e : i = j
  · subst e; simp [h]
  · simp [e]

/-- The bits along which the division has come to place j. -/
def Rel (l cur : List Int) (j : Nat) : Prop := cur.length = 8 * l.length + 16 ∧ (∀ k, k < 16 → cur.getD (j + k) 0 = b2i (rb l (Q l j) ((j + 7) / 8 * 8) j k)) ∧ ∀ m, j + 16 ≤ m → m < 8 * l.length + 16 → cur.getD m 0 = b2i (ob l m)
def tog (cur : List Int) (i : Nat) : List Int := cur.set i (flip (cur.getD i 0))
def togs (cur : List Int) (j : Nat) : List Int := tog (tog (tog (tog cur j) (j + 4)) (j + 11)) (j + 16)
theorem tog_length (cur : List Int) (i : Nat) : (tog cur i).length = cur.length := by simp [tog]
theorem tog_getD (cur : List Int) (i m : Nat) (h : i < cur.length) : (tog cur i).getD m 0 = if i = m then flip (cur.getD m 0) else cur.getD m 0 := by
  unfold tog
  rw [getD_set _ _ _ _ h]
  by_cases e : i = m
  · subst e; simp
  · simp [e]
theorem togs_getD (cur : List Int) (j m : Nat) (h : j + 16 < cur.length) : (togs cur j).getD m 0 = if m = j ∨ m = j + 4 ∨ m = j + 11 ∨ m = j + 16 then flip (cur.getD m 0) else cur.getD m 0 := by
  unfold togs
  rw [tog_getD _ _ _ (by simp [tog_length]; omega), tog_getD _ _ _ (by simp [tog_length]; omega), tog_getD _ _ _ (by simp [tog_length]; omega), tog_getD _ _ _ (by omega)]
  by_cases e1 : m = j
  · subst e1; simp
  · by_cases e2 : m = j + 4
    · subst e2; simp
    · by_cases e3 : m = j + 11
      · subst e3; simp
      · by_cases e4 : m = j + 16
        · subst e4; simp
        · rw [if_neg (fun h => e4 h.symm), if_neg (fun h => e3 h.symm), if_neg (fun h => e2 h.symm), if_neg (fun h => e1 h.symm), if_neg (by omega)]

theorem rel_top {l cur : List Int} (h : ∀ x ∈ l, GI .u8 x) {j : Nat} (hr : Rel l cur j) : cur.getD j 0 = b2i ((qin l j (Q l j)).testBit 15) := by
  have := hr.2.1 0 (by decide)
  rw [Nat.add_zero] at this
  rw [this, ← rb_qin l h j _ 0 (by decide)]
  unfold rb
  have a : decide ((j + 8) / 8 * 8 ≤ j + 0) = false := decide_eq_false (by omega)
  rw [a]
  simp
theorem rel_step {l cur : List Int} (h : ∀ x ∈ l, GI .u8 x) {j : Nat} (hr : Rel l cur j) (hj : j < 8 * l.length) : Rel l (if cur.getD j 0 = 1 then togs cur j else cur) (j + 1) := by
  have ht := rel_top h hr
  obtain ⟨h1, h2, h3⟩ := hr
  have e9 : (j + 1 + 7) / 8 * 8 = (j + 8) / 8 * 8 := rfl
  -- what each place had
  have had : ∀ k, k < 16 → cur.getD (j + 1 + k) 0 = b2i ((decide (k < 15) && (qin l j (Q l j)).testBit (14 - k)) ^^ (decide ((j + 8) / 8 * 8 ≤ j + 1 + k) && ob l (j + 1 + k))) := by
    intro k hk
    by_cases hk' : k < 15
    · have := h2 (k + 1) (by omega)
      rw [← rb_qin l h j _ (k + 1) (by omega)] at this
      rw [show j + 1 + k = j + (k + 1) by omega, this]
      unfold rb
      rw [show 15 - (k + 1) = 14 - k by omega, decide_eq_true hk']
      simp
    · obtain rfl : k = 15 := by omega
      rw [h3 (j + 1 + 15) (by omega) (by omega)]
      have a : decide ((j + 8) / 8 * 8 ≤ j + 1 + 15) = true := decide_eq_true (by omega)
      rw [a]
      simp
  have hw : ∀ k, k < 16 → b2i (rb l (Q l (j + 1)) ((j + 1 + 7) / 8 * 8) (j + 1) k) = if (qin l j (Q l j)).testBit 15 = true ∧ (k = 3 ∨ k = 10 ∨ k = 15) then flip (cur.getD (j + 1 + k) 0) else cur.getD (j + 1 + k) 0 := by
    intro k hk
    rw [had k hk, flip_b]
    unfold rb
    rw [e9]
    show b2i ((stp (qin l j (Q l j))).testBit (15 - k) ^^ _) = _
    rw [stp_bit _ _ (by omega)]
    have a0 : decide (15 - k = 0) = decide (k = 15) := by rw [decide_eq_decide]; omega
    have a1 : decide (15 - k = 5) = decide (k = 10) := by rw [decide_eq_decide]; omega
    have a2 : decide (15 - k = 12) = decide (k = 3) := by rw [decide_eq_decide]; omega
    have a3 : decide (1 ≤ 15 - k) = decide (k < 15) := by rw [decide_eq_decide]; omega
    rw [a0, a1, a2, a3, show 15 - k - 1 = 14 - k by omega]
    generalize (decide (k < 15) && (qin l j (Q l j)).testBit (14 - k)) = x
    generalize (decide ((j + 8) / 8 * 8 ≤ j + 1 + k) && ob l (j + 1 + k)) = y
    generalize (qin l j (Q l j)).testBit 15 = z
    by_cases hh : k = 3 ∨ k = 10 ∨ k = 15
    · have : (decide (k = 15) || decide (k = 10) || decide (k = 3)) = true := by rcases hh with rfl | rfl | rfl <;> rfl
      rw [this]
      cases x <;> cases y <;> cases z <;> simp [hh]
    · have : (decide (k = 15) || decide (k = 10) || decide (k = 3)) = false := by
        rw [decide_eq_false (fun e => hh (.inr (.inr e))), decide_eq_false (fun e => hh (.inr (.inl e))), decide_eq_false (fun e => hh (.inl e))]
        rfl
      rw [this, if_neg (fun e => hh e.2)]
      simp
  rw [ht]
  by_cases hz : (qin l j (Q l j)).testBit 15 = true
  · rw [hz, if_pos (by rfl)]
    refine ⟨by simp [togs, tog_length, h1], fun k hk => ?_, fun m hm hm' => ?_⟩
    · rw [hw k hk, togs_getD _ _ _ (by omega), hz]
      by_cases hh : k = 3 ∨ k = 10 ∨ k = 15
      · rw [if_pos (by omega), if_pos ⟨rfl, hh⟩]
      · rw [if_neg (by omega), if_neg (fun e => hh e.2)]
    · rw [togs_getD _ _ _ (by omega), if_neg (by omega), h3 m (by omega) hm']
  · rw [Bool.not_eq_true _ |>.mp hz, if_neg (by decide)]
    refine ⟨h1, fun k hk => ?_, fun m hm hm' => h3 m (by omega) hm'⟩
    rw [hw k hk, if_neg (fun e => hz e.1)]

/-! the walk's words for these numbers -/
theorem w16 (n : Nat) : IntKind.u16.wrap (n : Int) = ((n % 65536 : Nat) : Int) := by
  have : IntKind.u16.wrap (n : Int) = (n : Int) % 65536 := rfl
  rw [this]
  omega
theorem x16 {a b : Nat} (ha : a < 65536) (hb : b < 65536) : Go.bits .xor .u16 (a : Int) (b : Int) = ((a ^^^ b : Nat) : Int) := by
  have hx : a ^^^ b < 65536 := Nat.xor_lt_two_pow (n := 16) ha hb
  show IntKind.u16.wrap (((BitVec.ofInt 16 (a : Int) ^^^ BitVec.ofInt 16 (b : Int)).toNat : Nat) : Int) = _
  rw [w16, BitVec.ofInt_natCast, BitVec.ofInt_natCast, BitVec.toNat_xor, BitVec.toNat_ofNat, BitVec.toNat_ofNat, Nat.mod_eq_of_lt (show a < 2 ^ 16 from ha), Nat.mod_eq_of_lt (show b < 2 ^ 16 from hb), Nat.mod_eq_of_lt hx]
theorem and15 (r : Nat) : r &&& 2 ^ 15 = (r.testBit 15).toNat * 2 ^ 15 := by
  apply Nat.eq_of_testBit_eq
  intro i
  rw [Nat.testBit_and, Nat.testBit_two_pow]
  cases hb : r.testBit 15 with
  | false =>
    rw [show false.toNat * 2 ^ 15 = 0 from rfl, Nat.zero_testBit]
    by_cases h : 15 = i
    · subst h; rw [hb]; rfl
    · rw [decide_eq_false h, Bool.and_false]
  | true =>
    rw [show true.toNat * 2 ^ 15 = 2 ^ 15 from rfl, Nat.testBit_two_pow]
    by_cases h : 15 = i
    · subst h; rw [hb]; rfl
    · rw [decide_eq_false h, Bool.and_false]
theorem a16 {r : Nat} (hr : r < 65536) : Go.bits .and .u16 (r : Int) 32768 = 0 ↔ ¬ r.testBit 15 = true := by
  have e : Go.bits .and .u16 (r : Int) 32768 = (((r.testBit 15).toNat * 32768 : Nat) : Int) := by
    show IntKind.u16.wrap (((BitVec.ofInt 16 (r : Int) &&& BitVec.ofInt 16 ((32768 : Nat) : Int)).toNat : Nat) : Int) = _
    rw [w16, BitVec.ofInt_natCast, BitVec.ofInt_natCast, BitVec.toNat_and, BitVec.toNat_ofNat, BitVec.toNat_ofNat, Nat.mod_eq_of_lt (show r < 2 ^ 16 from hr), show (32768 : Nat) % 2 ^ 16 = 2 ^ 15 from rfl, and15]
    cases r.testBit 15 <;> rfl
  rw [e]
  cases r.testBit 15 <;> decide
theorem o16 {a : Nat} (b : Bool) (ha : 2 * a < 65536) : Go.bits .or .u16 ((2 * a : Nat) : Int) (b2i b) = ((2 * a + b.toNat : Nat) : Int) := by
  have hb : b2i b = ((b.toNat : Nat) : Int) := by cases b <;> rfl
  rw [hb]
  have hb1 : b.toNat < 2 ^ 1 := by cases b <;> decide
  show IntKind.u16.wrap (((BitVec.ofInt 16 ((2 * a : Nat) : Int) ||| BitVec.ofInt 16 (b.toNat : Int)).toNat : Nat) : Int) = _
  rw [w16, BitVec.ofInt_natCast, BitVec.ofInt_natCast, BitVec.toNat_or, BitVec.toNat_ofNat, BitVec.toNat_ofNat, Nat.mod_eq_of_lt (show 2 * a < 2 ^ 16 from ha), Nat.mod_eq_of_lt (show b.toNat < 2 ^ 16 by omega)]
  have : 2 * a ||| b.toNat = 2 * a + b.toNat := by
    have := Nat.shiftLeft_add_eq_or_of_lt hb1 a
    rw [Nat.shiftLeft_eq, show a * 2 ^ 1 = 2 * a by omega] at this
    exact this.symm
  rw [this, Nat.mod_eq_of_lt (by omega)]
theorem byte_bit {x m : Nat} (hx : x < 256) (hm : m < 8) : wrap64 (Go.bits .and .u8 (shr .u8 (x : Int) (m : Int)) 1) = b2i (x.testBit m) := by
  have e1 : shr .u8 (x : Int) (m : Int) = ((x / 2 ^ m : Nat) : Int) := by
    show (x : Int) / 2 ^ min (m : Int).toNat 8 = _
    rw [show min (m : Int).toNat 8 = m by omega]
    simp
  rw [e1]
  have hq : x / 2 ^ m < 256 := Nat.lt_of_le_of_lt (Nat.div_le_self _ _) hx
  have e2 : Go.bits .and .u8 ((x / 2 ^ m : Nat) : Int) 1 = ((x / 2 ^ m % 2 : Nat) : Int) := by
    show IntKind.u8.wrap (((BitVec.ofInt 8 ((x / 2 ^ m : Nat) : Int) &&& BitVec.ofInt 8 ((1 : Nat) : Int)).toNat : Nat) : Int) = _
    rw [BitVec.ofInt_natCast, BitVec.ofInt_natCast, BitVec.toNat_and, BitVec.toNat_ofNat, BitVec.toNat_ofNat, Nat.mod_eq_of_lt (show x / 2 ^ m < 2 ^ 8 from hq), show (1 : Nat) % 2 ^ 8 = 1 from rfl, Nat.and_one_is_mod]
    have : IntKind.u8.wrap ((x / 2 ^ m % 2 : Nat) : Int) = ((x / 2 ^ m % 2 : Nat) : Int) % 256 := rfl
    rw [this]
    omega
  rw [e2, w64 (by omega) (by omega)]
  have e3 : x.testBit m = decide (x / 2 ^ m % 2 = 1) := by rw [Nat.testBit_eq_decide_div_mod_eq]
  rw [e3]
  rcases Nat.mod_two_eq_zero_or_one (x / 2 ^ m) with h | h <;> rw [h] <;> rfl

theorem rd_byt {l : List Int} (h : ∀ x ∈ l, GI .u8 x) (b : Nat) : rd l (b : Int) = ((byt l b : Nat) : Int) := by
  unfold rd byt
  rw [Int.toNat_natCast]
  by_cases hi : b < l.length
  · have hm : l.getD b 0 ∈ l := by
      rw [List.getD_eq_getElem?_getD, List.getElem?_eq_getElem hi]
      exact List.getElem_mem hi
    have h0 := h _ hm
    generalize l.getD b 0 = x at h0 ⊢
    have h1 : (decide (IntKind.u8.min ≤ x) && decide (x ≤ IntKind.u8.max)) = true := h0
    rw [Bool.and_eq_true, decide_eq_true_eq, decide_eq_true_eq, show IntKind.u8.min = 0 from rfl] at h1
    omega
  · rw [List.getD_eq_getElem?_getD, List.getElem?_eq_none (by omega)]
    decide

/-! the sum -/
def inn (l : List Int) (b t : Nat) : Nat := if t = 0 then qin l (8 * b) (Q l (8 * b)) else Q l (8 * b + t)
theorem inn_step (l : List Int) (b t : Nat) (ht : t < 8) : inn l b (t + 1) = stp (inn l b t) := by
  unfold inn
  rw [if_neg (by omega)]
  by_cases h : t = 0
  · subst h; rfl
  · rw [if_neg h]
    show stp (qin l (8 * b + t) (Q l (8 * b + t))) = _
    unfold qin
    rw [if_neg (by omega)]
theorem inn_lt (l : List Int) (h : ∀ x ∈ l, GI .u8 x) (b t : Nat) : inn l b t < 65536 := by
  unfold inn
  split
  · exact qin_lt l h _ _ (Q_lt _ _)
  · exact Q_lt _ _
theorem sum_l1 (l : List Int) (h : ∀ x ∈ l, GI .u8 x) (b : Nat) (r : Int) (nx : Ev (fun k => stream_Sum.l0 k ((Q l (8 * (b + 1)) : Nat) : Int) l (l.length : Int) (wrap64 ((b : Int) + 1))) r) : ∀ d t, t + d = 8 → Ev (fun k => stream_Sum.l1 k ((inn l b t : Nat) : Int) l (l.length : Int) (b : Int) (t : Int)) r := by
  intro d
  induction d with
  | zero =>
    intro t ht
    obtain rfl : t = 8 := by omega
    refine Ev.step (fun k => by rw [stream_Sum.l1]) ?_
    refine Ev.neg (by decide) ?_
    have : inn l b 8 = Q l (8 * (b + 1)) := by unfold inn; rw [if_neg (by decide)]; rfl
    rw [this]
    exact nx
  | succ d ih =>
    intro t ht
    have := ih (t + 1) (by omega)
    rw [inn_step l b t (by omega)] at this
    have hlt := inn_lt l h b t
    refine Ev.step (fun k => by rw [stream_Sum.l1]) ?_
    refine Ev.pos (by omega) ?_
    have e1 : wrap64 ((t : Int) + 1) = ((t + 1 : Nat) : Int) := ws (i := t) (n := 8) (by omega) (by decide)
    have e2 : IntKind.u16.wrap (((inn l b t : Nat) : Int) * 2) = (((inn l b t * 2) % 65536 : Nat) : Int) := by
      rw [show ((inn l b t : Nat) : Int) * 2 = ((inn l b t * 2 : Nat) : Int) by omega, w16]
    rw [e1, e2]
    by_cases hb : (inn l b t).testBit 15 = true
    · refine Ev.neg (fun e => (a16 hlt).1 e hb) ?_
      rw [show (4129 : Int) = ((4129 : Nat) : Int) from rfl, x16 (Nat.mod_lt _ (by decide)) (by decide)]
      unfold stp at this
      rw [if_pos hb] at this
      exact this
    · refine Ev.pos ((a16 hlt).2 hb) ?_
      unfold stp at this
      rw [if_neg hb] at this
      exact this
theorem sum_l0 (l : List Int) (h : ∀ x ∈ l, GI .u8 x) (hn : l.length ≤ 4000) : ∀ d b, b + d = l.length → Ev (fun k => stream_Sum.l0 k ((Q l (8 * b) : Nat) : Int) l (l.length : Int) (b : Int)) ((Q l (8 * l.length) : Nat) : Int) := by
  intro d
  induction d with
  | zero =>
    intro b hb
    obtain rfl : b = l.length := by omega
    refine Ev.step (fun k => by rw [stream_Sum.l0]) ?_
    exact Ev.neg (by omega) (Ev.now _)
  | succ d ih =>
    intro b hb
    have e1 : wrap64 ((b : Int) + 1) = ((b + 1 : Nat) : Int) := ws (i := b) (n := l.length) (by omega) (by omega)
    have := sum_l1 l h b _ (by rw [e1]; exact ih (b + 1) (by omega)) 8 0 (by decide)
    refine Ev.step (fun k => by rw [stream_Sum.l0]) ?_
    refine Ev.pos (by omega) (Ev.pos (by omega) (Ev.pos (by omega) ?_))
    have hx := byt_lt l h b
    have e2 : IntKind.u16.wrap ((IntKind.u16.wrap (rd l (b : Int))) * 256) = ((byt l b * 256 : Nat) : Int) := by
      rw [rd_byt h, w16, Nat.mod_eq_of_lt (by omega), show ((byt l b : Nat) : Int) * 256 = ((byt l b * 256 : Nat) : Int) by omega, w16, Nat.mod_eq_of_lt (by omega)]
    rw [e2, x16 (Q_lt _ _) (by omega)]
    have e3 : inn l b 0 = Q l (8 * b) ^^^ byt l b * 256 := by
      unfold inn qin
      rw [if_pos rfl, if_pos (by omega), show 8 * b / 8 = b by omega]
    rw [e3] at this
    exact this
theorem sum_ev (l : List Int) (h : ∀ x ∈ l, GI .u8 x) (hn : l.length ≤ 4000) : Ev (fun k => stream_Sum.f k l) ((Q l (8 * l.length) : Nat) : Int) := sum_l0 l h hn l.length 0 (by omega)

/-! the division -/
theorem wb2i (b : Bool) : IntKind.u16.wrap (b2i b) = b2i b := by cases b <;> decide +kernel
theorem rem_l5 (q : Nat) (hq : q < 65536) (y : List Int) (hy : y.length = 16) (hb : ∀ k, k < 16 → y.getD k 0 = b2i (q.testBit (15 - k))) : ∀ (d s : Nat), s + d = 16 → Ev (fun k => maskref4_Remainder.l5 k ((q / 2 ^ (16 - s) : Nat) : Int) y (y.length : Int) (s : Int)) (q : Int) := by
  intro d
  induction d with
  | zero =>
    intro s hs
    obtain rfl : s = 16 := by omega
    refine Ev.step (fun k => by rw [maskref4_Remainder.l5]) ?_
    refine Ev.neg (by omega) ?_
    rw [show 16 - 16 = 0 from rfl, Nat.pow_zero, Nat.div_one]
    exact Ev.now _
  | succ d ih =>
    intro s hs
    have := ih (s + 1) (by omega)
    have e1 : wrap64 ((s : Int) + 1) = ((s + 1 : Nat) : Int) := ws (i := s) (n := 16) (by omega) (by decide)
    refine Ev.step (fun k => by rw [maskref4_Remainder.l5]) ?_
    refine Ev.pos (by omega) (Ev.pos (by omega) (Ev.pos (by omega) ?_))
    have hz : q / 2 ^ (16 - s) = q / 2 ^ (15 - s) / 2 := by
      rw [Nat.div_div_eq_div_mul, ← Nat.pow_succ, show (15 - s).succ = 16 - s by omega]
    have e2 : rd y (s : Int) = b2i (q.testBit (15 - s)) := by
      unfold rd
      rw [Int.toNat_natCast]
      exact hb s (by omega)
    have hlt : q / 2 ^ (15 - s) < 65536 := Nat.lt_of_le_of_lt (Nat.div_le_self _ _) hq
    have e3 : IntKind.u16.wrap (((q / 2 ^ (16 - s) : Nat) : Int) * 2) = ((2 * (q / 2 ^ (16 - s)) : Nat) : Int) := by
      rw [show ((q / 2 ^ (16 - s) : Nat) : Int) * 2 = ((2 * (q / 2 ^ (16 - s)) : Nat) : Int) by omega, w16, Nat.mod_eq_of_lt (by omega)]
    have e4 : 2 * (q / 2 ^ (16 - s)) + (q.testBit (15 - s)).toNat = q / 2 ^ (15 - s) := by
      rw [hz, Nat.testBit_eq_decide_div_mod_eq]
      rcases Nat.mod_two_eq_zero_or_one (q / 2 ^ (15 - s)) with h | h <;> rw [h] <;> simp <;> omega
    rw [e1, e2, e3, wb2i, o16 _ (by omega), e4]
    rw [show 16 - (s + 1) = 15 - s by omega] at this
    exact this
theorem rem_l4s (cur : List Int) (j s : Nat) (o : Nat) (r : Int) (hs : s < 4) (ho : rd [0, 4, 11, 16] (s : Int) = (o : Int)) (ho2 : o ≤ 16) (hj : j + 16 < cur.length) (hl : cur.length < 1000000)
    (nx : Ev (fun k => maskref4_Remainder.l4 k (tog cur (j + o)) (j : Int) [0, 4, 11, 16] 4 ((s + 1 : Nat) : Int)) r) : Ev (fun k => maskref4_Remainder.l4 k cur (j : Int) [0, 4, 11, 16] 4 (s : Int)) r := by
  have e1 : wrap64 ((s : Int) + 1) = ((s + 1 : Nat) : Int) := ws (i := s) (n := 4) hs (by decide)
  have e2 : wrap64 ((j : Int) + (o : Int)) = ((j + o : Nat) : Int) := by rw [w64 (by omega) (by omega)]; omega
  refine Ev.step (fun k => by rw [maskref4_Remainder.l4]) ?_
  rw [ho, e1, e2]
  refine Ev.pos (by omega) (Ev.pos (by omega) (Ev.pos (by show (s : Int) < 4; omega) (Ev.pos (by omega) (Ev.pos (by omega) ?_))))
  rw [Int.toNat_natCast]
  exact nx
theorem rem_l4 (cur : List Int) (j : Nat) (r : Int) (hj : j + 16 < cur.length) (hl : cur.length < 1000000)
    (nx : Ev (fun k => maskref4_Remainder.l3 k (togs cur j) (wrap64 ((j : Int) + 1))) r) : Ev (fun k => maskref4_Remainder.l4 k cur (j : Int) [0, 4, 11, 16] 4 0) r := by
  refine rem_l4s cur j 0 0 r (by decide) rfl (by decide) hj hl ?_
  refine rem_l4s _ j 1 4 r (by decide) rfl (by decide) (by rw [tog_length]; exact hj) (by rw [tog_length]; exact hl) ?_
  refine rem_l4s _ j 2 11 r (by decide) rfl (by decide) (by simp only [tog_length]; exact hj) (by simp only [tog_length]; exact hl) ?_
  refine rem_l4s _ j 3 16 r (by decide) rfl (by decide) (by simp only [tog_length]; exact hj) (by simp only [tog_length]; exact hl) ?_
  refine Ev.step (fun k => by rw [maskref4_Remainder.l4]) ?_
  exact Ev.neg (by decide) nx
theorem rem_l3 (l : List Int) (h : ∀ x ∈ l, GI .u8 x) (hn : l.length ≤ 4000) : ∀ d j, j + d = 8 * l.length → ∀ cur, Rel l cur j → Ev (fun k => maskref4_Remainder.l3 k cur (j : Int)) ((Q l (8 * l.length) : Nat) : Int) := by
  intro d
  induction d with
  | zero =>
    intro j hj cur hr
    obtain rfl : j = 8 * l.length := by omega
    obtain ⟨h1, h2, h3⟩ := hr
    refine Ev.step (fun k => by rw [maskref4_Remainder.l3]) ?_
    rw [w64 (x := ((8 * l.length : Nat) : Int) + 16) (by omega) (by omega), w64 (x := (cur.length : Int) - 16) (by omega) (by omega)]
    refine Ev.neg (by omega) (Ev.pos (by omega) (Ev.pos (by omega) ?_))
    refine Ev.val rfl ?_
    have e : ((cur.length : Int) - 16).toNat = 8 * l.length := by omega
    rw [e]
    have hy : (cur.drop (8 * l.length)).length = 16 := by rw [List.length_drop]; omega
    have := rem_l5 (Q l (8 * l.length)) (Q_lt _ _) (cur.drop (8 * l.length)) hy (fun k hk => by
      have := h2 k hk
      rw [List.getD_eq_getElem?_getD, List.getElem?_drop, ← List.getD_eq_getElem?_getD, this]
      unfold rb
      rw [ob_end l _ (by omega)]
      simp) 16 0 (by decide)
    have e0 : Q l (8 * l.length) / 2 ^ (16 - 0) = 0 := Nat.div_eq_of_lt (Q_lt l _)
    rw [e0] at this
    exact this
  | succ d ih =>
    intro j hj cur hr
    have hs := rel_step h hr (by omega)
    have hl := hr.1
    refine Ev.step (fun k => by rw [maskref4_Remainder.l3]) ?_
    rw [w64 (x := (j : Int) + 16) (by omega) (by omega)]
    have e1 : wrap64 ((j : Int) + 1) = ((j + 1 : Nat) : Int) := ws (i := j) (n := 8 * l.length) (by omega) (by omega)
    refine Ev.pos (by omega) (Ev.pos (by omega) (Ev.pos (by omega) ?_))
    have e2 : rd cur (j : Int) = cur.getD j 0 := rfl
    rw [e2]
    by_cases ht : cur.getD j 0 = 1
    · rw [if_pos ht] at hs
      refine Ev.pos ht (Ev.val rfl ?_)
      refine rem_l4 cur j _ (by omega) (by omega) ?_
      rw [e1]
      exact ih (j + 1) (by omega) _ hs
    · rw [if_neg ht] at hs
      refine Ev.neg ht ?_
      rw [e1]
      exact ih (j + 1) (by omega) _ hs
def Fl (l cur : List Int) (s : Nat) : Prop := cur.length = 8 * l.length + 16 ∧ ∀ m, m < 8 * l.length + 16 → cur.getD m 0 = b2i (ob l m ^^ decide (m < s))
theorem fl_rel {l cur : List Int} (h : Fl l cur 16) : Rel l cur 0 := by
  obtain ⟨h1, h2⟩ := h
  refine ⟨h1, fun k hk => ?_, fun m hm hm' => ?_⟩
  · rw [Nat.zero_add, h2 k (by omega)]
    unfold rb
    have a : (Q l 0).testBit (15 - k) = true := by
      show (65535 : Nat).testBit (15 - k) = true
      have : ∀ k, k < 16 → (65535 : Nat).testBit (15 - k) = true := by decide
      exact this k hk
    rw [a, decide_eq_true hk, decide_eq_true (show (0 + 7) / 8 * 8 ≤ 0 + k by omega), Nat.zero_add]
    cases ob l k <;> rfl
  · rw [h2 m hm', decide_eq_false (by omega)]
    simp
theorem rem_l2 (l : List Int) (h : ∀ x ∈ l, GI .u8 x) (hn : l.length ≤ 4000) : ∀ (d s : Nat), s + d = 16 → ∀ cur, Fl l cur s → Ev (fun k => maskref4_Remainder.l2 k cur (s : Int)) ((Q l (8 * l.length) : Nat) : Int) := by
  intro d
  induction d with
  | zero =>
    intro s hs cur hf
    obtain rfl : s = 16 := by omega
    refine Ev.step (fun k => by rw [maskref4_Remainder.l2]) ?_
    exact Ev.neg (by decide) (rem_l3 l h hn (8 * l.length) 0 (by omega) cur (fl_rel hf))
  | succ d ih =>
    intro s hs cur hf
    obtain ⟨h1, h2⟩ := hf
    refine Ev.step (fun k => by rw [maskref4_Remainder.l2]) ?_
    have e1 : wrap64 ((s : Int) + 1) = ((s + 1 : Nat) : Int) := ws (i := s) (n := 16) (by omega) (by decide)
    refine Ev.pos (by omega) (Ev.pos (by omega) (Ev.pos (by omega) ?_))
    rw [e1, Int.toNat_natCast]
    refine ih (s + 1) (by omega) (tog cur s) ⟨by rw [tog_length, h1], fun m hm => ?_⟩
    rw [tog_getD _ _ _ (by omega), h2 m hm]
    by_cases e : s = m
    · subst e
      rw [if_pos rfl, flip_b, decide_eq_false (Nat.lt_irrefl s), decide_eq_true (show s < s + 1 by omega)]
      cases ob l s <;> rfl
    · rw [if_neg e]
      have : decide (m < s + 1) = decide (m < s) := by rw [decide_eq_decide]; omega
      rw [this]
def obl (l : List Int) (n : Nat) : List Int := (List.range n).map (fun j => b2i (ob l j))
theorem obl_succ (l : List Int) (n : Nat) : obl l n ++ [b2i (ob l n)] = obl l (n + 1) := by
  unfold obl
  rw [List.range_succ, List.map_append]
  rfl
theorem obl_length (l : List Int) (n : Nat) : (obl l n).length = n := by simp [obl]
theorem obl_getD (l : List Int) (n m : Nat) (hm : m < n) : (obl l n).getD m 0 = b2i (ob l m) := by
  unfold obl
  rw [List.getD_eq_getElem?_getD, List.getElem?_map, List.getElem?_range hm]
  rfl
theorem obl_fl (l : List Int) : Fl l (obl l (8 * l.length) ++ List.replicate 16 0) 0 := by
  refine ⟨by simp [obl_length], fun m hm => ?_⟩
  rw [decide_eq_false (Nat.not_lt_zero m), Bool.xor_false]
  by_cases h : m < 8 * l.length
  · rw [List.getD_eq_getElem?_getD, List.getElem?_append_left (by rw [obl_length]; exact h), ← List.getD_eq_getElem?_getD, obl_getD l _ m h]
  · rw [List.getD_eq_getElem?_getD, List.getElem?_append_right (by rw [obl_length]; omega), obl_length, List.getElem?_replicate, if_pos (by omega), ob_end l m (by omega)]
    rfl
theorem rem_l1 (l : List Int) (h : ∀ x ∈ l, GI .u8 x) (hn : l.length ≤ 4000) (b : Nat) (hb : b < l.length) (r : Int) (nx : Ev (fun k => maskref4_Remainder.l0 k (obl l (8 * (b + 1))) l (l.length : Int) (wrap64 ((b : Int) + 1))) r) : ∀ d t, t + d = 8 → Ev (fun k => maskref4_Remainder.l1 k (obl l (8 * b + t)) (rd l (b : Int)) (7 - (t : Int)) l (l.length : Int) (b : Int)) r := by
  intro d
  induction d with
  | zero =>
    intro t ht
    obtain rfl : t = 8 := by omega
    refine Ev.step (fun k => by rw [maskref4_Remainder.l1]) ?_
    exact Ev.neg (by decide) nx
  | succ d ih =>
    intro t ht
    have := ih (t + 1) (by omega)
    refine Ev.step (fun k => by rw [maskref4_Remainder.l1]) ?_
    refine Ev.pos (by omega) (Ev.pos (by omega) (Ev.pos (by rw [obl_length]; omega) ?_))
    have e1 : wrap64 (7 - (t : Int) - 1) = 7 - ((t + 1 : Nat) : Int) := by rw [w64 (by omega) (by omega)]; omega
    have e2 : wrap64 (Go.bits .and .u8 (shr .u8 (rd l (b : Int)) (7 - (t : Int))) 1) = b2i (ob l (8 * b + t)) := by
      rw [rd_byt h, show (7 - (t : Int)) = ((7 - t : Nat) : Int) by omega, byte_bit (byt_lt l h b) (by omega)]
      unfold ob
      rw [show (8 * b + t) / 8 = b by omega, show (8 * b + t) % 8 = t by omega]
    rw [e1, e2, obl_succ]
    exact this
theorem rem_l0 (l : List Int) (h : ∀ x ∈ l, GI .u8 x) (hn : l.length ≤ 4000) : ∀ d b, b + d = l.length → Ev (fun k => maskref4_Remainder.l0 k (obl l (8 * b)) l (l.length : Int) (b : Int)) ((Q l (8 * l.length) : Nat) : Int) := by
  intro d
  induction d with
  | zero =>
    intro b hb
    obtain rfl : b = l.length := by omega
    refine Ev.step (fun k => by rw [maskref4_Remainder.l0]) ?_
    exact Ev.neg (by omega) (Ev.pos (by rw [obl_length]; omega) (rem_l2 l h hn 16 0 (by decide) _ (obl_fl l)))
  | succ d ih =>
    intro b hb
    have e1 : wrap64 ((b : Int) + 1) = ((b + 1 : Nat) : Int) := ws (i := b) (n := l.length) (by omega) (by omega)
    have := rem_l1 l h hn b (by omega) _ (by rw [e1]; exact ih (b + 1) (by omega)) 8 0 (by decide)
    refine Ev.step (fun k => by rw [maskref4_Remainder.l0]) ?_
    exact Ev.pos (by omega) (Ev.pos (by omega) (Ev.pos (by omega) this))
theorem rem_ev (l : List Int) (h : ∀ x ∈ l, GI .u8 x) (hn : l.length ≤ 4000) : Ev (fun k => maskref4_Remainder.f k l) ((Q l (8 * l.length) : Nat) : Int) := rem_l0 l h hn l.length 0 (by omega)

theorem StreamSums : SStreamSums.Pure := by
  intro l hl
  obtain ⟨_, _, h⟩ := hl
  refine Ev.rounds ?_
  unfold masklaw4_StreamSums.f
  refine Ev.val (show masklaw4_streams.f = some true from rfl) (Ev.pos rfl ?_)
  by_cases hn : (l.length : Int) > 4000
  · exact Ev.pos hn (Ev.now _)
  · refine Ev.neg hn ?_
    refine Ev.bind (sum_ev l h (by omega)) (Ev.bind (rem_ev l h (by omega)) ?_)
    rw [beq_self_eq_true]
    exact Ev.now _

end Go.Proofs.Ytgajgnemfccnhaa.Pure
