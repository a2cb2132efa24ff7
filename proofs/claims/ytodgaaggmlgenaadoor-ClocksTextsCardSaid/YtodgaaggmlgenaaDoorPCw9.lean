/- What the reference's number writes: the decimal digits, as strconv.Itoa does. -/
import Derived.Test.YtodgaaggmlgenaaDoorPCw8
set_option linter.unusedSectionVars false
namespace Go.Proofs.YtodgaaggmlgenaaDoor.PC
open Go.Sort Go.RowKit Go.Proofs.YtodgaaggmlgenaaDoorW.PrintWords Go.Proofs.YtodgaaggmlgenaaDoorW.PrintLast Go.Proofs.YtodgaaggmlgenaaDoorW.PrintMore
set_option linter.unusedVariables false
set_option linter.unusedSimpArgs false

def encD (x : Int) : UInt8 := UInt8.ofNat (48 + x.toNat)
theorem digs_range : ∀ (k n : Nat), ∀ x ∈ digs k n, 0 ≤ x ∧ x ≤ 9
  | 0, n => by intro x hx; simp [digs] at hx
  | k + 1, n => by
    intro x hx
    rw [digs] at hx
    split at hx
    · simp at hx
    · rcases List.mem_cons.mp hx with rfl | h
      · omega
      · exact digs_range k _ x h
theorem digs_dec : ∀ (k n : Nat), 0 < n → n < 10 ^ k → Lib.decDigits n = ((digs k n).map encD).reverse
  | 0, n, h0, h => by simp at h; omega
  | k + 1, n, h0, h => by
    have hk : n / 10 < 10 ^ k := by rw [Nat.pow_succ] at h; omega
    rw [digs, if_neg (by omega), List.map_cons, List.reverse_cons]
    by_cases h1 : n < 10
    · rw [Lib.decDigits_one h1, show n / 10 = 0 by omega, digs_zero, show n % 10 = n by omega]
      rfl
    · rw [Lib.decDigits, dif_neg h1, digs_dec k (n / 10) (by omega) hk]
      rfl
theorem text_go (ds : List Int) (hr : ∀ x ∈ ds, 0 ≤ x ∧ x ≤ 9) (hl : ds.length ≤ 1000) : ∀ (m i : Nat) (s : ByteArray), m + i = ds.length → s.size ≤ i →
    maskref4_Dec_Text.l0 (m + 1) s ds (ds.length : Int) (i : Int) false ds = some ⟨(((ds.drop i).map encD).reverse ++ s.data.toList).toArray⟩
  | 0, i, s, h, hs => by
    rw [maskref4_Dec_Text.l0, if_neg (by omega), if_neg (by decide), List.drop_eq_nil_of_le (by omega)]
    rfl
  | m + 1, i, s, h, hs => by
    have hi : i < ds.length := by omega
    have hx := hr (ds.getD i 0) (by rw [List.getD_eq_getElem?_getD, List.getElem?_eq_getElem hi]; exact List.getElem_mem hi)
    have e0 : rd ds (i : Int) = ds.getD i 0 := rfl
    have e1 : wrap64 (48 + rd ds (i : Int)) % 256 = 48 + ds.getD i 0 := by rw [e0, w64' (by omega) (by omega)]; omega
    have e2 : wrap64 ((i : Int) + 1) = ((i + 1 : Nat) : Int) := by rw [w64' (by omega) (by omega)]; omega
    have e3 : (strOfNums [48 + ds.getD i 0]).size = 1 := rfl
    have e4 : (strOfNums [48 + ds.getD i 0] ++ s).data.toList = encD (ds.getD i 0) :: s.data.toList := by
      rw [ByteArray.data_append, Array.toList_append, strOfNums_data]
      show UInt8.ofNat (48 + ds.getD i 0).toNat :: s.data.toList = _
      rw [encD, show (48 + ds.getD i 0).toNat = 48 + (ds.getD i 0).toNat by omega]
    have ih := text_go ds hr hl m (i + 1) (strOfNums [48 + ds.getD i 0] ++ s) (by omega) (by rw [ByteArray.size_append, e3]; omega)
    rw [maskref4_Dec_Text.l0, if_pos (by omega), if_pos (by omega), if_pos (by omega), Option.bind_some, e1, e3, if_pos (by omega), e2, ih, e4]
    have hd : ds.drop i = ds.getD i 0 :: ds.drop (i + 1) := by
      rw [List.getD_eq_getElem?_getD, List.getElem?_eq_getElem hi]
      exact List.drop_eq_getElem_cons hi
    rw [hd, List.map_cons, List.reverse_cons, List.append_assoc]
    rfl
theorem digs_len : ∀ (k n : Nat), (digs k n).length ≤ k
  | 0, _ => Nat.le_refl _
  | k + 1, n => by
    rw [digs]
    split
    · simp
    · rw [List.length_cons]; have := digs_len k (n / 10); omega
theorem text_of (n : Nat) (hn : n < 10 ^ 9) : ∃ k, maskref4_Dec_Text.f k false (digs 9 n) = some (itB (n : Int)) := by
  unfold maskref4_Dec_Text.f
  by_cases h0 : n = 0
  · subst h0
    exact ⟨0, by rw [digs_zero]; unfold itB; rw [Lib.itoa_nonneg, Lib.decDigits_one (by decide)]; rfl⟩
  · have hne : ¬ ((digs 9 n).length : Int) = 0 := by
      rw [digs, if_neg h0, List.length_cons]; omega
    refine ⟨(digs 9 n).length + 1, ?_⟩
    rw [if_neg hne]
    refine (text_go (digs 9 n) (digs_range 9 n) (by have := digs_len 9 n; omega) (digs 9 n).length 0 ⟨#[]⟩ (by omega) (by decide)).trans ?_
    unfold itB
    rw [Lib.itoa_nonneg, digs_dec 9 n (by omega) hn]
    simp
set_option maxHeartbeats 1000000 in
set_option maxRecDepth 100000 in
theorem num_ref (n : Int) (w : World) (h0 : 0 ≤ n) (h1 : n < 1000000000) :
    Calls Tryd.prog 25 #[.int .i64 n] w fun e w' => e = .returned (.string (itB n)) ∧ Below w.heap.size w w' := by
  obtain ⟨m, rfl⟩ : ∃ m : Nat, n = (m : Int) := ⟨n.toNat, by omega⟩
  obtain ⟨k, hk⟩ := text_of m (by omega)
  have HK := Aside0.mk hk
  clear hk
  have HM := Aside0.mk (show m < 10 ^ 9 by omega)
  go_enter Tryd.func25, Tryd.ntmps25
  go_wp2_with fail
  refine (dec_calls m HM.out _).mono ?_
  rintro e w1 ⟨⟨A, c, rfl, hle, hc⟩, hw⟩
  have HB := Aside0.mk hw
  have HC := Aside0.mk hc
  have HE := Aside0.mk hle
  clear hw hc hle
  go_wp2_with fail
  refine (maskref4_Dec_Text.calls k false A c (digs 9 m) (itB (m : Int)) _ HC.out HE.out HK.out).mono ?_
  rintro e w2 ⟨rfl, hw⟩
  have HB2 := Aside0.mk (below_step HB.out hw)
  clear hw
  go_wp2
  go_ret
  exact ⟨rfl, HB2.out⟩
end Go.Proofs.YtodgaaggmlgenaaDoor.PC
