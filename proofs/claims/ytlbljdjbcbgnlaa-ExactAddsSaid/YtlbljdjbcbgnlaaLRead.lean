/- Texts of numbers: what is one, and what it stands for. No conditions. -/
import Derived.Test.YtlbljdjbcbgnlaaPXx66
import Derived.Test.YtlbljdjbcbgnlaaLNum4
import Derived.Laws.Strings
namespace Go.Proofs.Ytlbljdjbcbgnlaa.LNum
open Go.RowKit Go.Proofs.YtlbljdjbcbgnlaaW.PrintWords Go.Proofs.Ytlbljdjbcbgnlaa.PX Go.Proofs.Ytlbljdjbcbgnlaa.Aid Go.Proofs.Ytlbljdjbcbgnlaa.LDec
set_option linter.unusedVariables false
set_option linter.unusedSimpArgs false

theorem bt_get {s : ByteArray} {i : Nat} (h : i < s.size) : bt s (i : Int) = ((s.data.toList.getD i 0).toNat : Int) := by
  unfold bt
  rw [dif_pos (by rw [Int.toNat_natCast]; exact h)]
  have h' : i < s.data.toList.length := by rw [data_length]; exact h
  rw [List.getD_eq_getElem?_getD, List.getElem?_eq_getElem h']
  rfl
def okB (b : UInt8) : Bool := decide (48 ≤ b.toNat) && decide (b.toNat ≤ 57)
def okD (l : List UInt8) : Bool := l.all okB
theorem okD_get {l : List UInt8} (h : okD l = true) {i : Nat} (hi : i < l.length) : 48 ≤ (l.getD i 0).toNat ∧ (l.getD i 0).toNat ≤ 57 := by
  have := List.all_eq_true.1 h (l.getD i 0) (getD_mem hi 0)
  unfold okB at this
  rw [Bool.and_eq_true, decide_eq_true_eq, decide_eq_true_eq] at this
  exact this
theorem okD_drop {l : List UInt8} {i : Nat} (hi : i < l.length) : okD (l.drop i) = (okB (l.getD i 0) && okD (l.drop (i + 1))) := by
  unfold okD
  rw [drop_cons_getD hi 0, List.all_cons]
/-- What the first digits are worth. -/
def pv (l : List UInt8) : Nat → Nat
  | 0 => 0
  | m + 1 => 10 * pv l m + ((l.getD m 0).toNat - 48)
theorem pv_lt (l : List UInt8) (h : okD l = true) : ∀ m, m ≤ l.length → pv l m < 10 ^ m
  | 0, _ => by simp [pv]
  | m + 1, hm => by
    have := pv_lt l h m (by omega)
    have := okD_get h (i := m) (by omega)
    rw [pv, Nat.pow_succ]
    omega
theorem u8_back (b : UInt8) (h : 48 ≤ b.toNat) (k : b.toNat ≤ 57) : UInt8.ofNat (48 + (b.toNat - 48) % 10) = b := by
  rw [show 48 + (b.toNat - 48) % 10 = b.toNat by omega]
  exact UInt8.ofNat_toNat
theorem dl_pv (l : List UInt8) (h : okD l = true) (h0 : (l.getD 0 0).toNat ≠ 48) : ∀ m, m < l.length → pv l (m + 1) ≠ 0 ∧ dl (pv l (m + 1)) = l.take (m + 1)
  | 0, hm => by
    have g := okD_get h hm
    have e : pv l 1 = (l.getD 0 0).toNat - 48 := by rw [pv, pv]; omega
    have n0 : pv l 1 ≠ 0 := by rw [e]; omega
    refine ⟨n0, ?_⟩
    rw [dl_pos n0, e, show ((l.getD 0 0).toNat - 48) / 10 = 0 by omega, dl_zero, u8_back _ g.1 g.2, List.nil_append]
    cases l with
    | nil => simp at hm
    | cons x xs => rfl
  | m + 1, hm => by
    obtain ⟨n0, ih⟩ := dl_pv l h h0 m (by omega)
    have g := okD_get h hm
    have e : pv l (m + 1 + 1) = 10 * pv l (m + 1) + ((l.getD (m + 1) 0).toNat - 48) := by rw [pv]
    have n1 : pv l (m + 1 + 1) ≠ 0 := by rw [e]; omega
    refine ⟨n1, ?_⟩
    rw [dl_pos n1, e, show (10 * pv l (m + 1) + ((l.getD (m + 1) 0).toNat - 48)) / 10 = pv l (m + 1) by omega, show (10 * pv l (m + 1) + ((l.getD (m + 1) 0).toNat - 48)) % 10 = ((l.getD (m + 1) 0).toNat - 48) % 10 by omega, u8_back _ g.1 g.2, ih]
    rw [List.take_add_one (i := m + 1), List.getD_eq_getElem?_getD, List.getElem?_eq_getElem hm]
    rfl
def hd45 (l : List UInt8) : Bool := l.head? == some 45
def bodyD (l : List UInt8) : List UInt8 := if hd45 l = true then l.drop 1 else l
def isD (l : List UInt8) : Bool := l == [48] || (!(bodyD l == []) && !((bodyD l).head? == some 48) && okD (bodyD l))
def cutB (s : ByteArray) : ByteArray := if hd45 s.data.toList = true then s.extract 1 s.size else s
theorem ext1 (s : ByteArray) : (s.extract 1 s.size).data.toList = s.data.toList.drop 1 := by
  rw [ByteArray.data_extract, Array.toList_extract, List.extract_eq_take_drop]
  apply List.take_of_length_le
  rw [List.length_drop, data_length]
  exact Nat.le_refl _
theorem cutB_l (s : ByteArray) : (cutB s).data.toList = bodyD s.data.toList := by
  unfold cutB bodyD
  split
  · exact ext1 s
  · rfl
theorem head_size {s : ByteArray} (h : hd45 s.data.toList = true) : 0 < s.size := by
  rw [← data_length]
  cases e : s.data.toList with
  | nil => rw [e] at h; simp [hd45] at h
  | cons x xs => simp
theorem cutB_size (s : ByteArray) : (cutB s).size = if hd45 s.data.toList = true then s.size - 1 else s.size := by
  rw [← data_length, cutB_l]
  unfold bodyD
  split
  · rw [List.length_drop, data_length]
  · rw [data_length]
theorem hd_bt {s : ByteArray} (h : 0 < s.size) : (bt s 0 == 45) = hd45 s.data.toList := by
  have e := bt_get h
  rw [show ((0 : Nat) : Int) = 0 from rfl] at e
  rw [e]
  unfold hd45
  have hl : 0 < s.data.toList.length := by rw [data_length]; exact h
  cases e2 : s.data.toList with
  | nil => rw [e2] at hl; simp at hl
  | cons x xs =>
    show (((x.toNat : Nat) : Int) == 45) = (some x == some 45)
    by_cases c : x = 45
    · subst c; rfl
    · have : ¬ ((x.toNat : Int) = 45) := fun k => c (UInt8.toNat_inj.1 (by show x.toNat = 45; omega))
      rw [show (((x.toNat : Nat) : Int) == 45) = false by rw [beq_eq_false_iff_ne]; exact this]
      exact (show (some x == some 45) = false by simpa using c).symm
theorem trimp_f (s : ByteArray) : strings_TrimPrefix.f s (⟨#[45]⟩ : ByteArray) = some (cutB s) := by
  unfold strings_TrimPrefix.f stringslite_TrimPrefix.f stringslite_HasPrefix.f
  rw [show ((⟨#[45]⟩ : ByteArray).size : Int) = 1 from rfl, show (⟨#[45]⟩ : ByteArray).toList = [45] by rw [ByteArray.toList_eq]]
  by_cases c : 1 ≤ s.size
  · rw [if_pos (by omega), if_pos (by omega), if_pos (by omega)]
    have e : (s.extract 0 (1 : Int).toNat).toList = s.data.toList.take 1 := by
      rw [ByteArray.toList_eq, ByteArray.data_extract, Array.toList_extract, List.extract_eq_take_drop]
      rfl
    rw [e]
    have e2 : (s.data.toList.take 1 == [45]) = hd45 s.data.toList := by
      unfold hd45
      have hl : 0 < s.data.toList.length := by rw [data_length]; omega
      cases e3 : s.data.toList with
      | nil => rw [e3] at hl; simp at hl
      | cons x xs => by_cases z : x = 45 <;> simp [z]
    rw [e2]
    simp only [Option.bind_some]
    unfold cutB
    by_cases d : hd45 s.data.toList = true
    · rw [if_pos d, if_pos (by omega), if_pos (by omega), if_pos d]
      rfl
    · rw [if_neg d, if_neg d]
      rfl
  · rw [if_neg (by omega)]
    have d : ¬ hd45 s.data.toList = true := fun h => by have := head_size h; omega
    unfold cutB
    rw [if_neg d]
    rfl
theorem isd_l (x : ByteArray) (hx : x.size ≤ 1000000000) : ∀ i : Nat, i ≤ x.size → Ev (fun k => maskref4_IsDec.l0 k x (i : Int)) (okD (x.data.toList.drop i)) := by
  refine down x.size ?_ ?_
  · refine Ev.step (fun k => maskref4_IsDec.l0.eq_2 ..) (Ev.neg (by omega) ?_)
    rw [List.drop_of_length_le (by rw [data_length]; exact Nat.le_refl _)]
    exact Ev.now _
  · intro i hi ih
    have g := bt_get hi
    have hl : i < x.data.toList.length := by rw [data_length]; exact hi
    rw [okD_drop hl]
    refine Ev.step (fun k => maskref4_IsDec.l0.eq_2 ..) (Ev.pos (by omega) (Ev.pos (by omega) ?_))
    rw [g]
    unfold okB
    by_cases c1 : (x.data.toList.getD i 0).toNat < 48
    · refine Ev.pos (by omega) ?_
      rw [decide_eq_false (by omega)]
      exact Ev.now _
    · refine Ev.neg (by omega) ?_
      rw [decide_eq_true (show 48 ≤ (x.data.toList.getD i 0).toNat by omega)]
      by_cases c2 : 57 < (x.data.toList.getD i 0).toNat
      · refine Ev.pos (by omega) ?_
        rw [decide_eq_false (by omega)]
        exact Ev.now _
      · refine Ev.neg (by omega) ?_
        rw [decide_eq_true (by omega), ws hi (by omega), Bool.and_self, Bool.true_and]
        exact ih
theorem isd_j1 (x : ByteArray) (hx : x.size ≤ 1000000000) : Ev (fun k => maskref4_IsDec.j1 k x) (!(x.data.toList == []) && !(x.data.toList.head? == some 48) && okD x.data.toList) := by
  refine Ev.step (fun k => maskref4_IsDec.j1.eq_2 ..) ?_
  by_cases c : x.size = 0
  · refine Ev.pos (by omega) (Ev.step (fun k => maskref4_IsDec.j2.eq_2 ..) (Ev.pos rfl ?_))
    have : x.data.toList = [] := List.eq_nil_of_length_eq_zero (by rw [data_length]; exact c)
    rw [this]
    exact Ev.now _
  · refine Ev.neg (by omega) (Ev.pos (by omega) (Ev.step (fun k => maskref4_IsDec.j2.eq_2 ..) ?_))
    have g := bt_get (s := x) (i := 0) (by omega)
    rw [show ((0 : Nat) : Int) = 0 from rfl] at g
    have hl := isd_l x hx 0 (by omega)
    rw [List.drop_zero] at hl
    rw [g]
    have hlen : 0 < x.data.toList.length := by rw [data_length]; omega
    cases e : x.data.toList with
    | nil => rw [e] at hlen; simp at hlen
    | cons y ys =>
      rw [e] at hl
      by_cases d : y = 48
      · subst d
        exact Ev.pos rfl (Ev.now _)
      · have : ¬ ((y.toNat : Int) = 48) := fun k => d (UInt8.toNat_inj.1 (by show y.toNat = 48; omega))
        refine Ev.neg (by show ¬ ((((y :: ys).getD 0 0).toNat : Int) == 48) = true; simpa using this) ?_
        refine Ev.eq hl ?_
        simp [d]
theorem isDec_ev (s : ByteArray) (hs : s.size ≤ 1000000000) : Ev (fun k => maskref4_IsDec.f k s) (isD s.data.toList) := by
  have e : s.toList = s.data.toList := ByteArray.toList_eq s
  unfold isD
  by_cases c : s.data.toList = [48]
  · refine Ev.congr (fun k => by unfold maskref4_IsDec.f; rw [if_pos (by rw [e]; exact c)]) ?_
    rw [c]
    exact Ev.now _
  · refine Ev.congr (fun k => by unfold maskref4_IsDec.f; rw [if_neg (by rw [e]; exact c)]) ?_
    rw [show (s.data.toList == [48]) = false by simpa using c, Bool.false_or]
    have key : Ev (fun k => maskref4_IsDec.j0 k s (hd45 s.data.toList)) (!(bodyD s.data.toList == []) && !((bodyD s.data.toList).head? == some 48) && okD (bodyD s.data.toList)) := by
      refine Ev.step (fun k => maskref4_IsDec.j0.eq_2 ..) ?_
      have hb := isd_j1 (cutB s) (by rw [cutB_size]; split <;> omega)
      rw [cutB_l] at hb
      unfold cutB at hb
      by_cases d : hd45 s.data.toList = true
      · rw [if_pos d] at hb
        have := head_size d
        exact Ev.pos d (Ev.pos (by omega) hb)
      · rw [if_neg d] at hb
        exact Ev.neg d hb
    by_cases z : 0 < s.size
    · refine Ev.pos (by omega) (Ev.pos (by omega) ?_)
      rw [hd_bt z]
      exact key
    · refine Ev.neg (by omega) ?_
      have : hd45 s.data.toList = false := by
        cases h : hd45 s.data.toList
        · rfl
        · have := head_size h; omega
      rw [this] at key
      exact key
/-- The number of a text. -/
def nv (l : List UInt8) : Nat := pv (bodyD l) (bodyD l).length
theorem isD_ok {l : List UInt8} (h : isD l = true) : okD (bodyD l) = true ∧ bodyD l ≠ [] ∧ (l = [48] ∨ ((bodyD l).getD 0 0).toNat ≠ 48) := by
  unfold isD at h
  by_cases c : l = [48]
  · subst c
    exact ⟨by decide, by decide, Or.inl rfl⟩
  · rw [show (l == [48]) = false by simpa using c, Bool.false_or, Bool.and_eq_true, Bool.and_eq_true] at h
    obtain ⟨⟨h1, h2⟩, h3⟩ := h
    refine ⟨h3, by simpa using h1, Or.inr ?_⟩
    cases e : bodyD l with
    | nil => rw [e] at h1; simp at h1
    | cons y ys =>
      rw [e] at h2
      intro k
      have : y = 48 := UInt8.toNat_inj.1 k
      subst this
      simp at h2
theorem tx_nv {s : ByteArray} (h : isD s.data.toList = true) : tx (hd45 s.data.toList && decide (0 < nv s.data.toList)) (nv s.data.toList) = s := by
  obtain ⟨h1, h2, h3⟩ := isD_ok h
  apply ByteArray.ext
  apply Array.ext'
  unfold tx
  rcases h3 with h3 | h3
  · rw [h3]
    decide
  · have hl : 0 < (bodyD s.data.toList).length := List.length_pos_iff.2 h2
    obtain ⟨n0, hd⟩ := dl_pv (bodyD s.data.toList) h1 h3 ((bodyD s.data.toList).length - 1) (by omega)
    rw [show (bodyD s.data.toList).length - 1 + 1 = (bodyD s.data.toList).length by omega] at n0 hd
    change nv s.data.toList ≠ 0 at n0
    change dl (nv s.data.toList) = _ at hd
    rw [List.take_length] at hd
    rw [if_neg n0, hd, decide_eq_true (Nat.pos_of_ne_zero n0), Bool.and_true]
    show (if hd45 s.data.toList = true then [45] else []) ++ bodyD s.data.toList = s.data.toList
    unfold bodyD
    by_cases d : hd45 s.data.toList = true
    · rw [if_pos d, if_pos d]
      cases e : s.data.toList with
      | nil => rw [e] at d; simp [hd45] at d
      | cons x xs =>
        rw [e] at d
        have : x = 45 := by simpa [hd45] using d
        subst this
        rfl
    · rw [if_neg d, if_neg d]
      rfl
theorem nv_lt {l : List UInt8} (h : isD l = true) : nv l < 10 ^ (bodyD l).length := pv_lt _ (isD_ok h).1 _ (Nat.le_refl _)
theorem body_len (l : List UInt8) : (bodyD l).length ≤ l.length := by
  unfold bodyD
  split
  · rw [List.length_drop]; omega
  · exact Nat.le_refl _
theorem dof_l (x : ByteArray) (hx : x.size ≤ 1000000000) (ho : okD x.data.toList = true) (neg : Bool) : ∀ (i : Nat) (acc : List Int), i ≤ x.size → acc.length + i = x.size → ok10 acc → 10 ^ acc.length * pv x.data.toList i + dv acc = pv x.data.toList x.size →
    Ev (fun k => maskref4_DecOf.l0 k x neg acc ((i : Int) - 1)) (dn neg (pv x.data.toList x.size))
  | 0, acc, hi, hl, h10, h => by
    refine Ev.step (fun k => maskref4_DecOf.l0.eq_2 ..) (Ev.neg (by omega) ?_)
    refine Ev.val (trim_f neg h10) ?_
    rw [pv, Nat.mul_zero, Nat.zero_add] at h
    rw [h]
    exact Ev.now _
  | i + 1, acc, hi, hl, h10, h => by
    have g := okD_get ho (i := i) (by rw [data_length]; omega)
    have gb := bt_get (s := x) (i := i) (by omega)
    rw [show (((i + 1 : Nat) : Int) - 1) = (i : Int) by omega]
    refine Ev.step (fun k => maskref4_DecOf.l0.eq_2 ..) (Ev.pos (by omega) (Ev.pos (by omega) (Ev.pos (by omega) (Ev.pos (by omega) ?_))))
    rw [gb, w64 (x := (i : Int) - 1) (by omega) (by omega)]
    rw [pv] at h
    generalize (x.data.toList.getD i 0).toNat = b at *
    refine dof_l x hx ho neg i (acc ++ [(((b : Int) - 48) % 256)]) (by omega) (by rw [List.length_append, List.length_singleton]; omega) (ok10_append h10 (ok10.mk ⟨by omega, by omega⟩ ok10_nil)) ?_
    rw [dv_append, List.length_append, List.length_singleton, Nat.pow_succ, ← h]
    rw [show (((b : Int) - 48) % 256) = ((b - 48 : Nat) : Int) by omega]
    simp only [dv, Int.toNat_natCast, Nat.mul_zero, Nat.add_zero]
    rw [Nat.mul_add, Nat.mul_assoc]
    omega
theorem decOf_ev (s : ByteArray) (hs : s.size ≤ 1000000000) (h : isD s.data.toList = true) : Ev (fun k => maskref4_DecOf.f k s) (dn (hd45 s.data.toList) (nv s.data.toList)) := by
  obtain ⟨h1, h2, h3⟩ := isD_ok h
  have hz : 0 < s.size := by
    have := body_len s.data.toList
    rw [data_length] at this
    have := List.length_pos_iff.2 h2
    omega
  have hb := hd_bt hz
  have key : Ev (fun k => maskref4_DecOf.j0 k (cutB s) (bt s 0 == 45)) (dn (hd45 s.data.toList) (nv s.data.toList)) := by
    have hc : (cutB s).size ≤ 1000000000 := by rw [cutB_size]; split <;> omega
    refine Ev.step (fun k => maskref4_DecOf.j0.eq_2 ..) ?_
    rw [hb, w64 (by omega) (by omega)]
    have := dof_l (cutB s) hc (by rw [cutB_l]; exact h1) (hd45 s.data.toList) (cutB s).size [] (Nat.le_refl _) (by simp) ok10_nil (by simp [dv])
    rw [cutB_l] at this
    unfold nv
    rw [show (bodyD s.data.toList).length = (cutB s).size by rw [← cutB_l, data_length]]
    exact this
  refine Ev.congr (fun k => by unfold maskref4_DecOf.f; rw [if_pos (by omega)]) ?_
  unfold cutB at key
  by_cases d : hd45 s.data.toList = true
  · rw [if_pos d] at key
    have e : bt s 0 = 45 := by rw [d] at hb; simpa using hb
    exact Ev.pos e (Ev.pos (by omega) key)
  · rw [if_neg d] at key
    have e : ¬ bt s 0 = 45 := by
      intro k
      rw [k] at hb
      exact d hb.symm
    exact Ev.neg e key
theorem rd_digits (s x : ByteArray) (hx : x.size ≤ 20000) : ∀ i : Nat, i ≤ x.size → okD (x.data.toList.drop i) = false → Ev (fun k => exact_Read.l0 k s x (x.size : Int) (i : Int)) (false, [], 10) := by
  refine down x.size ?_ ?_
  · intro h
    rw [List.drop_of_length_le (by rw [data_length]; exact Nat.le_refl _)] at h
    exact absurd h (by decide)
  · intro i hi ih h
    have g := bt_get hi
    have hl : i < x.data.toList.length := by rw [data_length]; exact hi
    rw [okD_drop hl] at h
    refine Ev.step (fun k => exact_Read.l0.eq_2 ..) (Ev.pos (by omega) (Ev.pos (by omega) (Ev.pos (by omega) ?_)))
    rw [g]
    by_cases c1 : (x.data.toList.getD i 0).toNat < 48
    · exact Ev.pos (by omega) (Ev.now _)
    · refine Ev.neg (by omega) ?_
      by_cases c2 : 57 < (x.data.toList.getD i 0).toNat
      · exact Ev.pos (by omega) (Ev.now _)
      · refine Ev.neg (by omega) ?_
        rw [ws hi (by omega)]
        refine ih ?_
        unfold okB at h
        rw [decide_eq_true (by omega), decide_eq_true (by omega), Bool.and_self, Bool.true_and] at h
        exact h
theorem rd_digits2 (s x : ByteArray) (hx : x.size ≤ 20000) (ho : okD x.data.toList = true) (R : Bool × List Int × Int) (h : Ev (fun k => exact_Read.l1 k s x 0 false ([] : List Int)) R) : ∀ i : Nat, i ≤ x.size → Ev (fun k => exact_Read.l0 k s x (x.size : Int) (i : Int)) R := by
  refine down x.size ?_ ?_
  · exact Ev.step (fun k => exact_Read.l0.eq_2 ..) (Ev.neg (by omega) h)
  · intro i hi ih
    have g := bt_get hi
    have b := okD_get ho (i := i) (by rw [data_length]; exact hi)
    refine Ev.step (fun k => exact_Read.l0.eq_2 ..) (Ev.pos (by omega) (Ev.pos (by omega) (Ev.pos (by omega) ?_)))
    rw [g]
    refine Ev.neg (by omega) (Ev.neg (by omega) ?_)
    rw [ws hi (by omega)]
    exact ih
theorem lm_small (n m : Nat) (h : n < 10 ^ m) (hm : m ≤ 1000000) : (lm n).length ≤ 1000000000 := by
  have : (10 : Nat) ^ m ≤ 4294967296 ^ m := Nat.pow_le_pow_left (by omega) m
  have := lm_len m n (by omega)
  omega
theorem ln_false (n : Nat) : ln false n = (false, lm n) := rfl
/-- One part of nine digits, or of fewer at the begin. -/
theorem rd_part (s x : ByteArray) (hx : x.size ≤ 20000) (ho : okD x.data.toList = true) (R : Bool × List Int × Int) (i : Nat) (e : Nat) (he : e ≤ x.size) (hie : i ≤ e) (h9 : e - i ≤ 9) (hi9 : e - i = 9 ∨ i = 0)
    (h : Ev (fun k => exact_Read.l1 k s x (e : Int) false (lm (pv x.data.toList e))) R) : ∀ (n j c : Nat), j + n = e → i ≤ j → c < 10 ^ (j - i) → pv x.data.toList j = 10 ^ (j - i) * pv x.data.toList i + c →
    Ev (fun k => exact_Read.l2 k s x (j : Int) (c : Int) (e : Int) false (lm (pv x.data.toList i))) R
  | 0, j, c, hj, hij, hc, hp => by
    have hj' : j = e := by omega
    subst hj'
    have hc9 : c < 1000000000 := by
      have : (10 : Nat) ^ (j - i) ≤ 10 ^ 9 := Nat.pow_le_pow_right (by omega) h9
      omega
    have hpi := pv_lt _ ho i (by rw [data_length]; omega)
    have hpj := pv_lt _ ho j (by rw [data_length]; omega)
    refine Ev.step (fun k => exact_Read.l2.eq_2 ..) (Ev.neg (by omega) ?_)
    refine Ev.val (of_f 1000000000 (by omega) (by omega)) ?_
    have t := times_ev false (pv x.data.toList i) false (1000000000 : Int).natAbs (lm_small _ _ hpi (by omega)) (by have := lm_len 1 1000000000 (by omega); show (lm 1000000000).length ≤ _; omega)
    refine Ev.bind (by exact t) ?_
    rw [w64 (x := (c : Int)) (by omega) (by omega)]
    refine Ev.val (of_f (c : Int) (by omega) (by omega)) ?_
    have hcc : (c : Int).natAbs = c := Int.natAbs_natCast c
    rw [hcc, decide_eq_false (show ¬ ((c : Int) < 0) by omega)]
    have hmul : pv x.data.toList i * (1000000000 : Int).natAbs + c = pv x.data.toList j := by
      show pv x.data.toList i * 1000000000 + c = _
      rcases hi9 with q | q
      · rw [hp, q, Nat.mul_comm]
      · subst q
        rw [hp]
        simp [pv]
    have hb1 : (lm (pv x.data.toList i * (1000000000 : Int).natAbs)).length ≤ 1000000000 := Nat.le_trans (lml_mono (by omega)) (lm_small _ _ hpj (by omega))
    have p := plus_ev false (pv x.data.toList i * (1000000000 : Int).natAbs) false c hb1 (by have := lm_len 1 c (by omega); omega)
    refine Ev.bind (by exact p) ?_
    unfold lplus
    rw [if_pos rfl]
    show Ev (fun k => exact_Read.l1 k s x (j : Int) false (lm (pv x.data.toList i * (1000000000 : Int).natAbs + c))) R
    rw [hmul]
    exact h
  | n + 1, j, c, hj, hij, hc, hp => by
    have hjx : j < x.size := by omega
    have g := bt_get hjx
    have b := okD_get ho (i := j) (by rw [data_length]; exact hjx)
    have hc8 : c < 100000000 := by
      have : (10 : Nat) ^ (j - i) ≤ 10 ^ 8 := Nat.pow_le_pow_right (by omega) (by omega)
      omega
    have hpn : pv x.data.toList (j + 1) = 10 * pv x.data.toList j + ((x.data.toList.getD j 0).toNat - 48) := by rw [pv]
    refine Ev.step (fun k => exact_Read.l2.eq_2 ..) (Ev.pos (by omega) (Ev.pos (by omega) (Ev.pos (by omega) ?_)))
    rw [g, ws hjx (by omega)]
    generalize (x.data.toList.getD j 0).toNat = bb at *
    rw [show ((10 * (c : Int)) % 4294967296 + ((bb : Int) - 48) % 256) % 4294967296 = ((10 * c + (bb - 48) : Nat) : Int) by omega]
    refine rd_part s x hx ho R i e he hie h9 hi9 h n (j + 1) (10 * c + (bb - 48)) (by omega) (by omega) ?_ ?_
    · rw [show j + 1 - i = (j - i) + 1 by omega, Nat.pow_succ]
      omega
    · rw [hpn, hp, show j + 1 - i = (j - i) + 1 by omega, Nat.pow_succ, Nat.mul_add, ← Nat.mul_assoc, Nat.mul_comm 10 (10 ^ (j - i))]
      omega
theorem rd_parts (s x : ByteArray) (hx : x.size ≤ 20000) (ho : okD x.data.toList = true) (R : Bool × List Int × Int)
    (h : Ev (fun k => exact_Read.l1 k s x (x.size : Int) false (lm (pv x.data.toList x.size))) R) : ∀ (d i : Nat), i + d = x.size → (d % 9 = 0 ∨ i = 0) → Ev (fun k => exact_Read.l1 k s x (i : Int) false (lm (pv x.data.toList i))) R := by
  intro d
  induction d using Nat.strongRecOn with
  | _ d ih =>
    intro i hi hd
    by_cases c : d = 0
    · have : i = x.size := by omega
      subst this
      exact h
    · have nine : (i = 0 → x.size % 9 = 0) → Ev (fun k => exact_Read.l2 k s x (i : Int) 0 (wrap64 ((i : Int) + 9)) false (lm (pv x.data.toList i))) R := by
        intro h0
        have h9 : 9 ≤ d := by omega
        rw [show wrap64 ((i : Int) + 9) = ((i + 9 : Nat) : Int) by rw [w64 (by omega) (by omega)]; omega]
        have := rd_part s x hx ho R i (i + 9) (by omega) (by omega) (by omega) (Or.inl (by omega)) (ih (d - 9) (by omega) (i + 9) (by omega) (Or.inl (by omega))) 9 i 0 rfl (Nat.le_refl _) (Nat.pow_pos (by omega)) (by simp)
        exact this
      refine Ev.step (fun k => exact_Read.l1.eq_2 ..) (Ev.pos (by omega) ?_)
      by_cases z : i = 0
      · subst z
        refine Ev.pos rfl (Ev.step (fun k => exact_Read.j3.eq_2 ..) ?_)
        by_cases m : 0 < x.size % 9
        · refine Ev.pos (decide_eq_true (by omega)) (Ev.step (fun k => exact_Read.j4.eq_2 ..) ?_)
          have := rd_part s x hx ho R 0 (x.size % 9) (by omega) (by omega) (by omega) (Or.inr rfl) (ih (d - x.size % 9) (by omega) (x.size % 9) (by omega) (Or.inl (by omega))) (x.size % 9) 0 0 (by omega) (Nat.le_refl _) (Nat.pow_pos (by omega)) (by simp)
          rw [show ((x.size : Int) % 9) = ((x.size % 9 : Nat) : Int) by omega]
          exact this
        · refine Ev.neg (by rw [decide_eq_true_eq]; omega) (Ev.step (fun k => exact_Read.j4.eq_2 ..) ?_)
          exact nine (fun _ => by omega)
      · refine Ev.neg (by omega) (Ev.step (fun k => exact_Read.j3.eq_2 ..) (Ev.neg (by decide) (Ev.step (fun k => exact_Read.j4.eq_2 ..) ?_)))
        exact nine (fun e => absurd e z)
/-- What Read answers for a number. -/
def readV (l : List UInt8) : Bool × List Int × Int := if 65536 < bln (nv l) then (false, [], 3) else (hd45 l && decide (0 < nv l), lm (nv l), 0)
theorem read_ok (s : ByteArray) (hs : s.size ≤ 20000) (h : isD s.data.toList = true) : Ev (fun k => exact_Read.f k s) (readV s.data.toList) := by
  obtain ⟨h1, h2, h3⟩ := isD_ok h
  have hcl : (cutB s).data.toList = bodyD s.data.toList := cutB_l s
  have hcs : (cutB s).size ≤ 20000 := by rw [cutB_size]; split <;> omega
  have hlen : (bodyD s.data.toList).length = (cutB s).size := by rw [← hcl, data_length]
  have hpos : 0 < (cutB s).size := by rw [← hlen]; exact List.length_pos_iff.2 h2
  have hnv : pv (cutB s).data.toList (cutB s).size = nv s.data.toList := by unfold nv; rw [hcl, hlen]
  have hb := nv_lt h
  have fin : Ev (fun k => exact_Read.l1 k s (cutB s) ((cutB s).size : Int) false (lm (pv (cutB s).data.toList (cutB s).size))) (readV s.data.toList) := by
    rw [hnv]
    refine Ev.step (fun k => exact_Read.l1.eq_2 ..) (Ev.neg (by omega) ?_)
    refine Ev.val (made_lm _ _) ?_
    have hneg : decide (((cutB s).size : Int) < (s.size : Int)) = hd45 s.data.toList := by
      rw [cutB_size]
      by_cases d : hd45 s.data.toList = true
      · have := head_size d
        rw [if_pos d, d]
        exact decide_eq_true (by omega)
      · rw [if_neg d]
        have : hd45 s.data.toList = false := by simpa using d
        rw [this]
        exact decide_eq_false (by omega)
    rw [hneg]
    refine Ev.val (by exact fit_f (hd45 s.data.toList && decide (0 < nv s.data.toList)) (nv s.data.toList) (lm_small _ _ hb (by rw [hlen]; omega))) ?_
    unfold readV
    split <;> exact Ev.now _
  have dig : Ev (fun k => exact_Read.l0 k s (cutB s) ((cutB s).size : Int) 0) (readV s.data.toList) := by
    refine rd_digits2 s (cutB s) hcs (by rw [hcl]; exact h1) _ ?_ 0 (by omega)
    have := rd_parts s (cutB s) hcs (by rw [hcl]; exact h1) _ fin (cutB s).size 0 (by omega) (Or.inr rfl)
    rw [pv, lm_zero] at this
    exact this
  refine Ev.congr (fun k => by unfold exact_Read.f; rw [if_neg (by omega)]) ?_
  refine Ev.val (trimp_f s) (Ev.neg (by rw [ByteArray.toList_eq, hcl]; exact h2) (Ev.pos (by omega) ?_))
  have j0 : Ev (fun k => exact_Read.j0 k s (cutB s) false) (readV s.data.toList) := Ev.step (fun k => exact_Read.j0.eq_2 ..) (Ev.neg (by decide) dig)
  have g := bt_get hpos
  rw [show ((0 : Nat) : Int) = 0 from rfl, hcl] at g
  rcases h3 with h3 | h3
  · refine Ev.pos (by rw [g, h3]; decide) ?_
    rw [show (s.toList != [48]) = false by rw [ByteArray.toList_eq, h3]; rfl]
    exact j0
  · exact Ev.neg (by rw [g]; omega) j0
theorem read_no (s : ByteArray) (hs : s.size ≤ 20000) (h : isD s.data.toList = false) : Ev (fun k => exact_Read.f k s) (false, [], 10) := by
  have hcl : (cutB s).data.toList = bodyD s.data.toList := cutB_l s
  have hcs : (cutB s).size ≤ 20000 := by rw [cutB_size]; split <;> omega
  have hlen : (bodyD s.data.toList).length = (cutB s).size := by rw [← hcl, data_length]
  unfold isD at h
  have h48 : ¬ s.data.toList = [48] := fun e => by rw [e] at h; exact absurd h (by decide)
  rw [show (s.data.toList == [48]) = false by simpa using h48, Bool.false_or] at h
  refine Ev.congr (fun k => by unfold exact_Read.f; rw [if_neg (by omega)]) ?_
  refine Ev.val (trimp_f s) ?_
  by_cases e : bodyD s.data.toList = []
  · refine Ev.pos (by rw [ByteArray.toList_eq, hcl]; exact e) (Ev.step (fun k => exact_Read.j0.eq_2 ..) (Ev.pos rfl (Ev.now _)))
  · have hpos : 0 < (cutB s).size := by rw [← hlen]; exact List.length_pos_iff.2 e
    refine Ev.neg (by rw [ByteArray.toList_eq, hcl]; exact e) (Ev.pos (by omega) ?_)
    have g := bt_get hpos
    rw [show ((0 : Nat) : Int) = 0 from rfl, hcl] at g
    by_cases z : ((bodyD s.data.toList).getD 0 0).toNat = 48
    · refine Ev.pos (by rw [g]; omega) ?_
      rw [show (s.toList != [48]) = true by rw [ByteArray.toList_eq]; simpa using h48]
      exact Ev.step (fun k => exact_Read.j0.eq_2 ..) (Ev.pos rfl (Ev.now _))
    · refine Ev.neg (by rw [g]; omega) (Ev.step (fun k => exact_Read.j0.eq_2 ..) (Ev.neg (by decide) ?_))
      refine rd_digits s (cutB s) hcs 0 (by omega) ?_
      rw [List.drop_zero, hcl]
      have hh : ((bodyD s.data.toList).head? == some 48) = false := by
        cases q : bodyD s.data.toList with
        | nil => exact absurd q e
        | cons y ys =>
          rw [q] at z
          have : ¬ y = 48 := fun k => z (by subst k; rfl)
          simp [this]
      rw [show (bodyD s.data.toList == []) = false by simpa using e, hh] at h
      simpa using h
theorem read_large (s : ByteArray) (hs : 20000 < s.size) : Ev (fun k => exact_Read.f k s) (false, [], 3) := by
  refine Ev.congr (fun k => by unfold exact_Read.f; rw [if_pos (by omega)]) (Ev.now _)
end Go.Proofs.Ytlbljdjbcbgnlaa.LNum
