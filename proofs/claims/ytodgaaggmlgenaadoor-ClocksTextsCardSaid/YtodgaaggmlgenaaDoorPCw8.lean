/- What the reference's DecInt makes of a number: its decimal digits, the lowest first. -/
import Derived.Test.YtodgaaggmlgenaaDoorPCw7
set_option linter.unusedSectionVars false
namespace Go.Proofs.YtodgaaggmlgenaaDoor.PC
open Go.Sort Go.RowKit Go.Proofs.YtodgaaggmlgenaaDoorW.PrintWords Go.Proofs.YtodgaaggmlgenaaDoorW.PrintLast Go.Proofs.YtodgaaggmlgenaaDoorW.PrintMore
set_option linter.unusedVariables false
set_option linter.unusedSimpArgs false

def digs : Nat → Nat → List Int
  | 0, _ => []
  | k + 1, n => if n = 0 then [] else ((n % 10 : Nat) : Int) :: digs k (n / 10)
theorem digs_zero : ∀ k, digs k 0 = []
  | 0 => rfl
  | k + 1 => rfl
theorem digs_last : ∀ (k n : Nat), n < 10 ^ k → digs k n = [] ∨ (digs k n).getD ((digs k n).length - 1) 0 ≠ 0
  | 0, n, h => .inl rfl
  | k + 1, n, h => by
    rw [digs]
    by_cases h0 : n = 0
    · rw [if_pos h0]; exact .inl rfl
    · rw [if_neg h0]
      refine .inr ?_
      have hk : n / 10 < 10 ^ k := by rw [Nat.pow_succ] at h; omega
      rcases digs_last k (n / 10) hk with e | e
      · by_cases h1 : n / 10 = 0
        · rw [h1, digs_zero]
          show ((n % 10 : Nat) : Int) ≠ 0
          omega
        · exfalso
          cases k with
          | zero => simp at hk; omega
          | succ k => rw [digs, if_neg h1] at e; exact absurd e (by simp)
      · cases hd : digs k (n / 10) with
        | nil => rw [hd] at e; exact absurd rfl e
        | cons a r =>
          rw [hd] at e
          simpa using e

set_option maxHeartbeats 2000000 in
set_option maxRecDepth 100000 in
theorem dec_calls (n : Nat) (hn : n < 10 ^ 9) (w : World) :
    Calls Tryd.prog 38 #[.int .i64 n] w fun e w' => (∃ A c, e = .returned (.agg #[.bool false, .slice A (digs 9 n).length c]) ∧ (digs 9 n).length ≤ c ∧ Kd.C (Kd.int .i64) w' A (digs 9 n).length (digs 9 n)) ∧ Below w.heap.size w w' := by
  obtain ⟨i0, hi, hz0, hz1, hz2⟩ := info_parts info3
  have HN := Aside0.mk hn
  clear hn
  have HB0 := Aside0.mk (below_alloc (Below.refl w.heap.size w) (.cells #[.bool false, .slice none 0 0] 77))
  have BK0 := Aside0.mk (blk_new w (.cells #[.bool false, .slice none 0 0] 77))
  go_enter Tryd.func38, Tryd.ntmps38
  go_wp2
  go_loopw [3, 4] (fun v i wr => ∃ (j m : Nat) (ao : Option Addr) (cv : Nat) (ds : List Int), m < 1000000000 ∧ i = .int .i64 m ∧ v = .slice ao ds.length cv ∧ Aside0 (m < 10 ^ j ∧ ds.length + j ≤ 9 ∧ ds ++ digs j m = digs 9 n) ∧ Aside0 (wr.ownsRow (w.heap.size + 1) 3 1 (.slice ao ds.length cv) ds.length (nums .i64 ds)) ∧ Aside0 (Below w.heap.size w wr) ∧ Aside0 (wr.heap[w.heap.size]? = some (.cells #[.bool false, .slice none 0 0] 77 (0, 0)))) (fun _ i _ => (intOf i).toNat)
  case atStart => exact ⟨9, n, none, 0, [], HN.out, rfl, rfl, ⟨HN.out, by decide, rfl⟩, ⟨World.ownsRow_nil _ _ _ _⟩, HB0, BK0⟩
  case round =>
    clear HB0 BK0
    obtain ⟨j, m, ao, cv, ds, hm, rfl, rfl, HJ, HO, HB, BK⟩ := hrel
    by_cases hm0 : m = 0
    · subst hm0
      have HD := Aside0.mk (show ds = digs 9 n by have := HJ.out.2.2; rwa [digs_zero, List.append_nil] at this)
      have e4 : decide ((n : Int) < 0) = false := decide_eq_false (by omega)
      obtain ⟨A, c, hv, hle, hR⟩ := own_reads_of_le (enc := Value.int .i64) (d := (0 : Int)) HO.out
      injection hv with hA hn1 hcv
      subst hA
      subst hcv
      have HC := Aside0.mk (Kd.C_of_reads (h1 := fun _ => rfl) hR)
      have HE := Aside0.mk hle
      have HK := Aside0.mk HO.out
      clear hle hR HO HJ
      go_wp2_with fail
      refine (trim_calls _ _ ds _ HC.out HE.out ?_).mono ?_
      · rw [HD.out]; exact digs_last 9 n HN.out
      rintro e w4 ⟨rfl, hw⟩
      have HB4 := Aside0.mk (below_step HB.out hw)
      have BK4 := Aside0.mk (blk_below BK.out hw)
      have b0 : w4.frozen? ⟨w.heap.size, 0, none⟩ = false := blk_frozen BK4.out 0
      have b1 : w4.frozen? ⟨w.heap.size, 1, none⟩ = false := blk_frozen BK4.out 1
      have g0 : w4.cell? ⟨w.heap.size, 0, none⟩ = some (.bool false) := (blk_cell BK4.out 0).trans rfl
      have g1 : w4.cell? ⟨w.heap.size, 1, none⟩ = some (.slice none 0 0) := (blk_cell BK4.out 1).trans rfl
      have hw4 := hw
      clear HB BK HC hw
      have HW4 := Aside0.mk hw4
      clear hw4
      go_wp2
      refine bodyPost_ret (results_cell_row rfl _ _ w.heap.size 77 #[.bool false, .slice ao ds.length cv] (0, 0) _ rfl (blk_put (cs := #[.bool false, .slice none 0 0]) (blk_put (cs := #[.bool false, .slice none 0 0]) BK4.out 0 _ rfl) 1 _ rfl) Tryd.underlying77 rfl (by kernel_rfl)) rfl ?_
      refine ⟨?_, below_set (below_set HB4.out (Nat.le_refl _)) (Nat.le_refl _)⟩
      have hw4 := HW4.out
      have k1 := HK.out.kept (row := none) ⟨hw4.os, hw4.tape, hw4.output, hw4.size, fun i hi _ => hw4.block i hi⟩ (by cases hv : (Value.slice ao ds.length cv).ownBlock <;> simp)
      have hne : (Value.slice ao ds.length cv).ownBlock ≠ some w.heap.size := fun hk => by
        have := (k1.lt w.heap.size hk).1
        omega
      have k2 := k1.kept (row := some w.heap.size) (w' := w4.setCell ⟨w.heap.size, 0, none⟩ (.bool false)) ⟨rfl, rfl, rfl, by simp [World.setCell], fun k _ hk => Below.heap_setCell _ _ _ _ (fun e => hk (by simp [e]))⟩ (Or.inr hne)
      have k3 := k2.kept (row := some w.heap.size) (w' := (w4.setCell ⟨w.heap.size, 0, none⟩ (.bool false)).setCell ⟨w.heap.size, 1, none⟩ (.slice ao ds.length cv)) ⟨rfl, rfl, rfl, by simp [World.setCell], fun k _ hk => Below.heap_setCell _ _ _ _ (fun e => hk (by simp [e]))⟩ (Or.inr hne)
      obtain ⟨A, c, hv, hle, hR⟩ := own_reads_of_le (enc := Value.int .i64) (d := (0 : Int)) k3
      injection hv with hA hn1 hcv
      subst hA
      subst hcv
      have HCf := Kd.C_of_reads (h1 := fun _ => rfl) hR
      rw [HD.out] at hle HCf ⊢
      exact ⟨ao, cv, rfl, hle, HCf⟩
    · have e1 : (m != 0) = true := bne_iff_ne.mpr hm0
      have e2 : ((m : Int) != 0) = true := bne_iff_ne.mpr (by omega)
      have e3 : decide ((m : Int) % 10 < 0) = false := decide_eq_false (by omega)
      obtain ⟨j, rfl⟩ : ∃ j', j = j' + 1 := by
        cases j with
        | zero => have := HJ.out.1; simp at this; omega
        | succ j => exact ⟨j, rfl⟩
      go_wp2_with (first
        | (at_builtin; refine wpList_append_own _ rfl _ _ 43 rfl (w.heap.size + 1) 3 i0 (.int .i64 0) 1 8 Tryd.underlying43 hi hz0 hz1 hz2 rfl (by decide) _ _ _ rfl (HO.out.alloc _) ⟨wr.heap.size, 0, none⟩ 1 1 [.int .i64 ((m : Int) % 10)] rfl rfl (cell_one_new _ _ _) (fun x hx => by simp at hx; subst hx; rfl) (by unfold maxLen; have := HJ.out.2.1; omega) (by have := HJ.out.2.1; omega) (by have := blk_lt BK.out; simp; omega) ?_; intro v' w3 hown' hgrow3 hnil3))
      go_roundw
      case rel =>
        have hs : (wr.alloc (.cells #[.int .i64 ((m : Int) % 10)] 3)).heap.size = wr.heap.size + 1 := by simp
        obtain ⟨g3, cap3, rfl⟩ : ∃ g3 cap3, v' = .slice (some ⟨g3, 0, none⟩) (ds.length + 1) cap3 := by
          rcases hown'.2 with ⟨_, h⟩ | ⟨g3, cap3, _, h, _⟩
          · omega
          · exact ⟨g3, cap3, h⟩
        refine ⟨j, m / 10, some ⟨g3, 0, none⟩, cap3, ds ++ [((m % 10 : Nat) : Int)], by omega, by first | rfl | simp, by rw [List.length_append]; rfl, ⟨?_, ?_, ?_⟩, ⟨?_⟩, ⟨?_⟩, ⟨?_⟩⟩
        · have := HJ.out.1; rw [Nat.pow_succ] at this; omega
        · have := HJ.out.2.1; rw [List.length_append]; simp; omega
        · rw [← HJ.out.2.2, digs, if_neg hm0, List.append_assoc]; rfl
        · have e : nums .i64 (ds ++ [((m % 10 : Nat) : Int)]) = nums .i64 ds ++ [.int .i64 ((m : Int) % 10)] := by simp [nums]
          rw [e, List.length_append]
          exact hown'
        · exact (below_alloc HB.out _).grown hgrow3 (by have := blk_lt BK.out; omega) (fun k hk => by
            have := (HO.out.lt k hk).1
            omega)
        · refine (hgrow3.block w.heap.size (by have := blk_lt BK.out; omega) ?_).trans (blk_alloc BK.out _)
          intro hk
          have := (HO.out.lt w.heap.size hk.symm).1
          omega
      case measure => simp [intOf]; omega
end Go.Proofs.YtodgaaggmlgenaaDoor.PC
