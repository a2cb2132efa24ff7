/- The pure statement of the law ClocksTexts, proved: Text writes what the reference writes. No conditions. -/
import Derived.Test.YtodgaaggmlgenaaDoorLClocksTextsLimits
namespace Go.Proofs.YtodgaaggmlgenaaDoor.Pure
open Go.RowKit Go.Proofs.YtodgaaggmlgenaaDoorW.PrintWords Go.Proofs.YtodgaaggmlgenaaDoor.Opn Go.Proofs.YtodgaaggmlgenaaDoor.PC Go.Proofs.YtodgaaggmlgenaaDoor.SClocksTexts Go.Proofs.YtodgaaggmlgenaaDoor.Aid Go.Proofs.YtodgaaggmlgenaaDoor.LClocksTexts
set_option linter.unusedVariables false
set_option linter.unusedSimpArgs false

theorem ba_ext {a b : ByteArray} (h : a.data.toList = b.data.toList) : a = b := ByteArray.ext (Array.ext' h)
theorem ba_assoc (a b c : ByteArray) : (a ++ b) ++ c = a ++ (b ++ c) := ba_ext (by simp [ByteArray.data_append])
theorem num_ev {n : Int} (h : okN 1000000000 n) : maskref4_number.f n = some (itB n) := by
  unfold maskref4_number.f
  exact if_pos ⟨h.1, h.2⟩
theorem it_le {n : Int} (h : okN 1000000000 n) : (itB n).size ≤ 21 := itB_size n h.1 h.2
theorem line1 (w : ByteArray) (a : Int) (ha : okN 1000000000 a) (hw : w.size ≤ 1000) : Ev (fun k => maskref4_Line.f k w [a]) ((w ++ ((⟨#[32]⟩ : ByteArray) ++ itB a)) ++ (⟨#[10]⟩ : ByteArray)) := by
  have hl : (([a] : List Int).length : Int) = 1 := rfl
  have e1 : ((⟨#[32]⟩ : ByteArray) ++ itB a).size = 1 + (itB a).size := by rw [ByteArray.size_append]; rfl
  have i1 := it_le ha
  have r0 : rd [a] 0 = a := rfl
  refine Ev.step (f := fun k => _) (fun k => by unfold maskref4_Line.f; rw [maskref4_Line.l0, hl]) ?_
  refine Ev.pos (by omega) (Ev.pos (by omega) (Ev.pos (by omega) ?_))
  rw [r0, show wrap64 (0 + 1) = 1 from w64 (by omega) (by omega)]
  refine Ev.val (num_ev ha) (Ev.pos (by omega) (Ev.pos (by omega) ?_))
  refine Ev.step (f := fun k => _) (fun k => by rw [maskref4_Line.l0]) ?_
  refine Ev.neg (by omega) (Ev.pos (by rw [ByteArray.size_append]; omega) (Ev.now _))
theorem line2 (w : ByteArray) (a b : Int) (ha : okN 1000000000 a) (hb : okN 1000000000 b) (hw : w.size ≤ 1000) : Ev (fun k => maskref4_Line.f k w [a, b]) (((w ++ ((⟨#[32]⟩ : ByteArray) ++ itB a)) ++ ((⟨#[32]⟩ : ByteArray) ++ itB b)) ++ (⟨#[10]⟩ : ByteArray)) := by
  have hl : (([a, b] : List Int).length : Int) = 2 := rfl
  have e1 : ((⟨#[32]⟩ : ByteArray) ++ itB a).size = 1 + (itB a).size := by rw [ByteArray.size_append]; rfl
  have e2 : ((⟨#[32]⟩ : ByteArray) ++ itB b).size = 1 + (itB b).size := by rw [ByteArray.size_append]; rfl
  have i1 := it_le ha
  have i2 := it_le hb
  have r0 : rd [a, b] 0 = a := rfl
  have r1 : rd [a, b] 1 = b := rfl
  refine Ev.step (f := fun k => _) (fun k => by unfold maskref4_Line.f; rw [maskref4_Line.l0, hl]) ?_
  refine Ev.pos (by omega) (Ev.pos (by omega) (Ev.pos (by omega) ?_))
  rw [r0, show wrap64 (0 + 1) = 1 from w64 (by omega) (by omega)]
  refine Ev.val (num_ev ha) (Ev.pos (by omega) (Ev.pos (by omega) ?_))
  refine Ev.step (f := fun k => _) (fun k => by rw [maskref4_Line.l0, hl]) ?_
  refine Ev.pos (by omega) (Ev.pos (by omega) (Ev.pos (by omega) ?_))
  rw [r1, show wrap64 (1 + 1) = 2 from w64 (by omega) (by omega)]
  refine Ev.val (num_ev hb) (Ev.pos (by omega) (Ev.pos (by rw [ByteArray.size_append]; omega) ?_))
  refine Ev.step (f := fun k => _) (fun k => by rw [maskref4_Line.l0]) ?_
  refine Ev.neg (by omega) (Ev.pos (by rw [ByteArray.size_append, ByteArray.size_append]; omega) (Ev.now _))
theorem whom_ev (s : ByteArray) (h : s.size ≤ 128) : maskref4_Whom.f s = some (whomB s) := by
  unfold maskref4_Whom.f whomB
  split
  · rfl
  · rw [if_pos (by omega)]

section
variable {p : Int} {l1 : List S51} {l2 : List S53} {l3 : List S49}
theorem cat_drop {α : Type} (f : α → ByteArray) (l : List α) (z : α) {i : Nat} (hi : i < l.length) : catL f (l.drop i) = (f (l.getD i z)).data.toList ++ catL f (l.drop (i + 1)) := by
  unfold catL
  rw [drop_cons_getD hi z, List.flatMap_cons]
theorem data_app (a b : ByteArray) : (a ++ b).data.toList = a.data.toList ++ b.data.toList := by simp [ByteArray.data_append]
theorem written2 (h3 : okP 1000000000 l3) (x3 : ByteArray) (hx : x3.size ≤ 90000) : ∃ r, Ev (fun k => maskref4_LimitsWritten.l2 k x3 l3 (l3.length : Int) 0) r ∧ r.data.toList = x3.data.toList ++ catL pathB l3 := by
  have key := down (P := fun i => ∀ x3 : ByteArray, x3.size ≤ 90000 + 300 * i → ∃ r, Ev (fun k => maskref4_LimitsWritten.l2 k x3 l3 (l3.length : Int) (i : Int)) r ∧ r.data.toList = x3.data.toList ++ catL pathB (l3.drop i)) l3.length ?_ ?_ 0 (by omega)
  · exact key x3 (by omega)
  · intro x3 _
    refine ⟨x3, Ev.step (f := fun k => _) (fun k => by rw [maskref4_LimitsWritten.l2]) (Ev.neg (by omega) (Ev.now _)), ?_⟩
    rw [List.drop_length]
    simp [catL]
  · intro i hi ih x3 hx3
    have hlen := h3.1
    have hp := h3.2 (rd_T49 l3 i) (getD_mem hi z49)
    have hc := cat_drop pathB l3 z49 hi
    change catL pathB (l3.drop i) = (pathB (rd_T49 l3 i)).data.toList ++ catL pathB (l3.drop (i + 1)) at hc
    rw [hc]
    have ST : ∀ k, maskref4_LimitsWritten.l2 (k + 1) x3 l3 (l3.length : Int) (i : Int) = _ := fun k => by rw [maskref4_LimitsWritten.l2]
    generalize rd_T49 l3 i = x at *
    have s0 := whomB_size _ hp.1
    have s1 := whomB_size _ hp.2.1
    have a1 : ((⟨#[32]⟩ : ByteArray) ++ whomB x.f0).size = 1 + (whomB x.f0).size := by rw [ByteArray.size_append]; rfl
    have a2 : (((⟨#[32]⟩ : ByteArray) ++ whomB x.f0) ++ (⟨#[32]⟩ : ByteArray)).size = 1 + (whomB x.f0).size + 1 := by rw [ByteArray.size_append, a1]; rfl
    have a3 : ((((⟨#[32]⟩ : ByteArray) ++ whomB x.f0) ++ (⟨#[32]⟩ : ByteArray)) ++ whomB x.f1).size = 1 + (whomB x.f0).size + 1 + (whomB x.f1).size := by rw [ByteArray.size_append, a2]
    have a4 : (((((⟨#[32]⟩ : ByteArray) ++ whomB x.f0) ++ (⟨#[32]⟩ : ByteArray)) ++ whomB x.f1) ++ (⟨#[10]⟩ : ByteArray)).size = 1 + (whomB x.f0).size + 1 + (whomB x.f1).size + 1 := by rw [ByteArray.size_append, a3]; rfl
    by_cases hz : x.f2 = 0
    · have b1 : (x3 ++ (⟨#[102, 97, 108, 115, 101]⟩ : ByteArray)).size = x3.size + 5 := by rw [ByteArray.size_append]; rfl
      obtain ⟨r, hr, e⟩ := ih ((x3 ++ (⟨#[102, 97, 108, 115, 101]⟩ : ByteArray)) ++ (((((⟨#[32]⟩ : ByteArray) ++ whomB x.f0) ++ (⟨#[32]⟩ : ByteArray)) ++ whomB x.f1) ++ (⟨#[10]⟩ : ByteArray))) (by rw [ByteArray.size_append, b1, a4]; omega)
      refine ⟨r, Ev.step (f := fun k => _) ST (Ev.pos (by omega) (Ev.pos (by omega) (Ev.pos (by omega) (Ev.pos hz (Ev.pos (by omega) (Ev.val (whom_ev _ hp.1) (Ev.pos (by omega) (Ev.pos (by omega) (Ev.val (whom_ev _ hp.2.1) (Ev.pos (by omega) (Ev.pos (by omega) (Ev.pos (by omega) ?_)))))))))))), ?_⟩
      · rw [ws hi (by omega)]; exact hr
      · rw [e, show pathB x = ((((⟨#[102, 97, 108, 115, 101, 32]⟩ : ByteArray) ++ whomB x.f0) ++ ⟨#[32]⟩) ++ whomB x.f1) ++ ⟨#[10]⟩ from if_pos hz]
        simp [data_app]
    · have i1 := it_le hp.2.2
      have b1 : ((⟨#[109, 117, 108, 116, 105, 32]⟩ : ByteArray) ++ itB x.f2).size = 6 + (itB x.f2).size := by rw [ByteArray.size_append]; rfl
      have b2 : (x3 ++ ((⟨#[109, 117, 108, 116, 105, 32]⟩ : ByteArray) ++ itB x.f2)).size = x3.size + (6 + (itB x.f2).size) := by rw [ByteArray.size_append, b1]
      obtain ⟨r, hr, e⟩ := ih ((x3 ++ ((⟨#[109, 117, 108, 116, 105, 32]⟩ : ByteArray) ++ itB x.f2)) ++ (((((⟨#[32]⟩ : ByteArray) ++ whomB x.f0) ++ (⟨#[32]⟩ : ByteArray)) ++ whomB x.f1) ++ (⟨#[10]⟩ : ByteArray))) (by rw [ByteArray.size_append, b2, a4]; omega)
      refine ⟨r, Ev.step (f := fun k => _) ST (Ev.pos (by omega) (Ev.pos (by omega) (Ev.pos (by omega) (Ev.neg hz (Ev.val (num_ev hp.2.2) (Ev.pos (by omega) (Ev.pos (by omega) (Ev.val (whom_ev _ hp.1) (Ev.pos (by omega) (Ev.pos (by omega) (Ev.val (whom_ev _ hp.2.1) (Ev.pos (by omega) (Ev.pos (by omega) (Ev.pos (by omega) ?_)))))))))))))), ?_⟩
      · rw [ws hi (by omega)]; exact hr
      · rw [e, show pathB x = ((((((⟨#[109, 117, 108, 116, 105, 32]⟩ : ByteArray) ++ itB x.f2) ++ ⟨#[32]⟩) ++ whomB x.f0) ++ ⟨#[32]⟩) ++ whomB x.f1) ++ ⟨#[10]⟩ from if_neg hz]
        simp [data_app]
theorem written1 (h2 : okO 1000000000 l2) (h3 : okP 1000000000 l3) (x3 : ByteArray) (hx : x3.size ≤ 45000) : ∃ r, Ev (fun k => maskref4_LimitsWritten.l1 k x3 l2 (l2.length : Int) 0 p l1 l2 l3) r ∧ r.data.toList = (x3.data.toList ++ catL outB l2) ++ catL pathB l3 := by
  have key := down (P := fun i => ∀ x3 : ByteArray, x3.size ≤ 45000 + 300 * i → ∃ r, Ev (fun k => maskref4_LimitsWritten.l1 k x3 l2 (l2.length : Int) (i : Int) p l1 l2 l3) r ∧ r.data.toList = (x3.data.toList ++ catL outB (l2.drop i)) ++ catL pathB l3) l2.length ?_ ?_ 0 (by omega)
  · exact key x3 (by omega)
  · intro x3 hx3
    have hlen := h2.1
    obtain ⟨r, hr, e⟩ := written2 h3 x3 (by omega)
    refine ⟨r, Ev.step (f := fun k => _) (fun k => by rw [maskref4_LimitsWritten.l1]) (Ev.neg (by omega) hr), ?_⟩
    rw [List.drop_length, e]
    simp [catL]
  · intro i hi ih x3 hx3
    have hlen := h2.1
    have hp := h2.2 (rd_T53 l2 i) (getD_mem hi z53)
    have hc := cat_drop outB l2 z53 hi
    change catL outB (l2.drop i) = (outB (rd_T53 l2 i)).data.toList ++ catL outB (l2.drop (i + 1)) at hc
    rw [hc]
    have ST : ∀ k, maskref4_LimitsWritten.l1 (k + 1) x3 l2 (l2.length : Int) (i : Int) p l1 l2 l3 = _ := fun k => by rw [maskref4_LimitsWritten.l1]
    generalize rd_T53 l2 i = x at *
    have i1 := it_le hp.2
    have hs := hp.1
    have w0 : ((⟨#[111, 117, 116, 112, 117, 116, 32]⟩ : ByteArray) ++ x.f0).size = 7 + x.f0.size := by rw [ByteArray.size_append]; rfl
    have L := line1 ((⟨#[111, 117, 116, 112, 117, 116, 32]⟩ : ByteArray) ++ x.f0) x.f1 hp.2 (by omega)
    have e0 : ((((⟨#[111, 117, 116, 112, 117, 116, 32]⟩ : ByteArray) ++ x.f0) ++ ((⟨#[32]⟩ : ByteArray) ++ itB x.f1)) ++ (⟨#[10]⟩ : ByteArray)) = outB x := by
      unfold outB; simp only [ba_assoc]
    rw [e0] at L
    have z0 : (outB x).size ≤ 300 := by
      unfold outB
      simp only [ByteArray.size_append]
      show 7 + x.f0.size + 1 + (itB x.f1).size + 1 ≤ 300
      omega
    obtain ⟨r, hr, e⟩ := ih (x3 ++ outB x) (by rw [ByteArray.size_append]; omega)
    refine ⟨r, Ev.step (f := fun k => _) ST (Ev.pos (by omega) (Ev.pos (by omega) (Ev.pos (by omega) (Ev.pos (by omega) (Ev.bind L (Ev.pos (by omega) ?_)))))), ?_⟩
    · rw [ws hi (by omega)]; exact hr
    · rw [e, data_app]
      simp only [List.append_assoc]
theorem written0 (h1 : okI 1000000000 l1) (h2 : okO 1000000000 l2) (h3 : okP 1000000000 l3) (x3 : ByteArray) (hx : x3.size ≤ 1000) : ∃ r, Ev (fun k => maskref4_LimitsWritten.l0 k x3 l1 (l1.length : Int) 0 p l1 l2 l3) r ∧ r.data.toList = ((x3.data.toList ++ catL inB l1) ++ catL outB l2) ++ catL pathB l3 := by
  have key := down (P := fun i => ∀ x3 : ByteArray, x3.size ≤ 1000 + 300 * i → ∃ r, Ev (fun k => maskref4_LimitsWritten.l0 k x3 l1 (l1.length : Int) (i : Int) p l1 l2 l3) r ∧ r.data.toList = ((x3.data.toList ++ catL inB (l1.drop i)) ++ catL outB l2) ++ catL pathB l3) l1.length ?_ ?_ 0 (by omega)
  · exact key x3 (by omega)
  · intro x3 hx3
    have hlen := h1.1
    obtain ⟨r, hr, e⟩ := written1 (p := p) (l1 := l1) h2 h3 x3 (by omega)
    refine ⟨r, Ev.step (f := fun k => _) (fun k => by rw [maskref4_LimitsWritten.l0]) (Ev.neg (by omega) hr), ?_⟩
    rw [List.drop_length, e]
    simp [catL]
  · intro i hi ih x3 hx3
    have hlen := h1.1
    have hp := h1.2 (rd_T51 l1 i) (getD_mem hi z51)
    have hc := cat_drop inB l1 z51 hi
    change catL inB (l1.drop i) = (inB (rd_T51 l1 i)).data.toList ++ catL inB (l1.drop (i + 1)) at hc
    rw [hc]
    have ST : ∀ k, maskref4_LimitsWritten.l0 (k + 1) x3 l1 (l1.length : Int) (i : Int) p l1 l2 l3 = _ := fun k => by rw [maskref4_LimitsWritten.l0]
    generalize rd_T51 l1 i = x at *
    have i1 := it_le hp.2.1
    have i2 := it_le hp.2.2
    have hs := hp.1
    have w0 : ((⟨#[105, 110, 112, 117, 116, 32]⟩ : ByteArray) ++ x.f0).size = 6 + x.f0.size := by rw [ByteArray.size_append]; rfl
    have L := line2 ((⟨#[105, 110, 112, 117, 116, 32]⟩ : ByteArray) ++ x.f0) x.f1.f0 x.f1.f1 hp.2.1 hp.2.2 (by omega)
    have e0 : (((((⟨#[105, 110, 112, 117, 116, 32]⟩ : ByteArray) ++ x.f0) ++ ((⟨#[32]⟩ : ByteArray) ++ itB x.f1.f0)) ++ ((⟨#[32]⟩ : ByteArray) ++ itB x.f1.f1)) ++ (⟨#[10]⟩ : ByteArray)) = inB x := by
      unfold inB; simp only [ba_assoc]
    rw [e0] at L
    have z0 : (inB x).size ≤ 300 := by
      unfold inB
      simp only [ByteArray.size_append]
      show 6 + x.f0.size + 1 + (itB x.f1.f0).size + 1 + (itB x.f1.f1).size + 1 ≤ 300
      omega
    obtain ⟨r, hr, e⟩ := ih (x3 ++ inB x) (by rw [ByteArray.size_append]; omega)
    refine ⟨r, Ev.step (f := fun k => _) ST (Ev.pos (by omega) (Ev.pos (by omega) (Ev.pos (by omega) (Ev.pos (by omega) (Ev.bind L (Ev.pos (by omega) ?_)))))), ?_⟩
    · rw [ws hi (by omega)]; exact hr
    · rw [e, data_app]
      simp only [List.append_assoc]
theorem written (hp : okN 1000000000 p) (h1 : okI 1000000000 l1) (h2 : okO 1000000000 l2) (h3 : okP 1000000000 l3) : ∃ r, Ev (fun k => maskref4_LimitsWritten.f k p l1 l2 l3) r ∧ r.data.toList = wrL p l1 l2 l3 := by
  unfold maskref4_LimitsWritten.f wrL
  have L := line1 (⟨#[112, 101, 114, 105, 111, 100]⟩ : ByteArray) p hp (by decide)
  have e0 : (((⟨#[112, 101, 114, 105, 111, 100]⟩ : ByteArray) ++ ((⟨#[32]⟩ : ByteArray) ++ itB p)) ++ (⟨#[10]⟩ : ByteArray)) = perB p := by
    unfold perB
    refine ba_ext ?_
    simp [data_app]
  rw [e0] at L
  obtain ⟨r, hr, e⟩ := written0 (p := p) h1 h2 h3 (perB p) (by have := perSz p hp.1 hp.2; omega)
  exact ⟨r, Ev.bind L hr, e⟩
/-- Limits in which nothing is wrong. -/
theorem fits9 (h : CheckV p l1 l2 l3 = 0) : okN 1000000000 p ∧ okI 1000000000 l1 ∧ okO 1000000000 l2 ∧ okP 1000000000 l3 := by
  unfold CheckV at h
  by_cases hp : p < 1 ∨ 67108864 < p
  · rw [if_pos hp] at h; exact absurd h (by decide)
  rw [if_neg hp] at h
  by_cases hl : 128 < l1.length ∨ 128 < l2.length ∨ 64 < l3.length
  · rw [if_pos hl] at h; exact absurd h (by decide)
  rw [if_neg hl] at h
  by_cases q1 : firstErr (errI l1) l1.length 0 = 0
  · rw [if_pos q1] at h
    by_cases q2 : firstErr (errO l2) l2.length 0 = 0
    · rw [if_pos q2] at h
      have z1 := firstErr_all _ 0 q1
      have z2 := firstErr_all _ 0 q2
      have z3 := firstErr_all _ 0 h
      refine ⟨⟨by omega, by omega⟩, ⟨by omega, fun x hx => ?_⟩, ⟨by omega, fun x hx => ?_⟩, ⟨by omega, fun x hx => ?_⟩⟩
      · obtain ⟨i, hi, rfl⟩ := mem_at z51 hx
        have a := errI_ok (z1 i (by omega) (by omega))
        have c := a.2
        unfold badI at c
        simp only [Bool.or_eq_false_iff, decide_eq_false_iff_not] at c
        exact ⟨nm_size a.1, ⟨by omega, by omega⟩, ⟨by omega, by omega⟩⟩
      · obtain ⟨i, hi, rfl⟩ := mem_at z53 hx
        have a := errO_ok (z2 i (by omega) (by omega))
        have c := a.2
        unfold badO at c
        simp only [Bool.or_eq_false_iff, decide_eq_false_iff_not] at c
        exact ⟨nm_size a.1, ⟨by omega, by omega⟩⟩
      · obtain ⟨i, hi, rfl⟩ := mem_at z49 hx
        have a := errP_ok (z3 i (by omega) (by omega))
        have c := a.2
        unfold badC at c
        simp only [Bool.or_eq_false_iff, decide_eq_false_iff_not] at c
        have d := a.1
        unfold badP at d
        simp only [Bool.or_eq_false_iff, Bool.and_eq_false_iff, Bool.not_eq_false', beq_iff_eq] at d
        refine ⟨?_, ?_, ⟨by omega, by omega⟩⟩
        · rcases d.1 with e | e
          · omega
          · exact nm_size e
        · rcases d.2 with e | e
          · omega
          · exact nm_size e
    · rw [if_neg q2] at h; exact absurd h q2
  · rw [if_neg q1] at h; exact absurd h q1
end

theorem ClocksTexts : SClocksTexts.Pure := by
  intro p l1 l2 l3 _ h1 h2 h3
  have s1 : ∀ x ∈ l1, x.f0.size ≤ 140737488351232 := fun x hx => (h1.2.2 x hx).1
  have s2 : ∀ x ∈ l2, x.f0.size ≤ 140737488351232 := fun x hx => (h2.2.2 x hx).1
  have s3 : ∀ x ∈ l3, x.f0.size ≤ 140737488351232 ∧ x.f1.size ≤ 140737488351232 := fun x hx => ⟨(h3.2.2 x hx).1, (h3.2.2 x hx).2.1⟩
  have L := limits_ev (p := p) s1 s2 s3 h1.2.1 h2.2.1 h3.2.1
  have ok : clocks_Check.ok l1 l2 l3 = true := by
    unfold clocks_Check.ok
    simp only [Bool.and_eq_true, List.all_eq_true, decide_eq_true_eq]
    exact ⟨⟨fun x hx => by have := s1 x hx; omega, fun x hx => by have := s2 x hx; omega⟩, fun x hx => ⟨by have := (s3 x hx).1; omega, by have := (s3 x hx).2; omega⟩⟩
  have C : clocks_Check.f p l1 l2 l3 = some (CheckV p l1 l2 l3) := by unfold clocks_Check.f; rw [if_pos ok]
  have key : Ev (fun k => masklaw4_ClocksTexts.f k p l1 l2 l3) true := by
    unfold masklaw4_ClocksTexts.f
    by_cases e : CheckV p l1 l2 l3 = 0
    · obtain ⟨hp, k1, k2, k3⟩ := fits9 e
      obtain ⟨r, hr, er⟩ := written hp k1 k2 k3
      have wk : clocks_write.ok p l1 l2 l3 = true := by
        unfold clocks_write.ok clocks_write.n
        simp only [Bool.and_eq_true, List.all_eq_true, decide_eq_true_eq]
        exact ⟨⟨⟨⟨⟨⟨hp, k1.1⟩, k2.1⟩, k3.1⟩, fun x hx => ⟨⟨(k1.2 x hx).1, (k1.2 x hx).2.1⟩, (k1.2 x hx).2.2⟩⟩, fun x hx => ⟨(k2.2 x hx).1, (k2.2 x hx).2⟩⟩, fun x hx => ⟨⟨(k3.2 x hx).1, (k3.2 x hx).2.1⟩, (k3.2 x hx).2.2⟩⟩
      have T : clocks_Text.f p l1 l2 l3 = some (⟨(wrL p l1 l2 l3).toArray⟩, 0) := by
        unfold clocks_Text.f clocks_write.f
        rw [C, Option.bind_some, if_pos e, if_pos wk, Option.bind_some]
      refine Ev.val rfl (Ev.pos rfl (Ev.val T (Ev.bind L (Ev.pos e (Ev.pos rfl (Ev.bind hr ?_))))))
      have q : ((⟨(wrL p l1 l2 l3).toArray⟩ : ByteArray).toList == r.toList) = true := by
        rw [beq_iff_eq, ba_toList, ba_toList, er]
      show Ev (fun _ => some ((⟨(wrL p l1 l2 l3).toArray⟩ : ByteArray).toList == r.toList)) true
      rw [q]
      exact Ev.now _
    · have T : clocks_Text.f p l1 l2 l3 = some ((⟨#[]⟩ : ByteArray), CheckV p l1 l2 l3) := by
        unfold clocks_Text.f
        rw [C, Option.bind_some, if_neg e]
      refine Ev.val rfl (Ev.pos rfl (Ev.val T (Ev.bind L (Ev.neg e (Ev.pos rfl ?_)))))
      have q : ((⟨#[]⟩ : ByteArray).toList == ([] : List UInt8)) = true := by rw [beq_iff_eq]; exact (ba_nil _).mpr rfl
      show Ev (fun _ => some ((⟨#[]⟩ : ByteArray).toList == ([] : List UInt8))) true
      rw [q]
      exact Ev.now _
  exact key.rounds
end Go.Proofs.YtodgaaggmlgenaaDoor.Pure
