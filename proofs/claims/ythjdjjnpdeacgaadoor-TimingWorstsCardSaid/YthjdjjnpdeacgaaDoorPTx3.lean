-- PRINTED by print.py (a twelfth state) out of the translation. Not trusted: Lean checks it.
import Derived.Test.YthjdjjnpdeacgaaDoorPTx0
namespace Go.Proofs.YthjdjjnpdeacgaaDoor.PT
open Go.RowKit Go.Proofs.YthjdjjnpdeacgaaDoorW.PrintWords Go.Proofs.YthjdjjnpdeacgaaDoorW.PrintLast Go.Proofs.YthjdjjnpdeacgaaDoorW.PrintMore
attribute [local go_sem] max2_int min2_int max_two min_two max_three min_three max_four min_four   -- for this text's walks alone
set_option linter.unusedVariables false
set_option linter.unusedSimpArgs false

-- the contract of function 54 (maskwright/graph.Name): written by hand
/-! ### graph_Name: function 54 -/
def graph_Name.ok (c : Int) : Bool := decide (33 ≤ c) && decide (c ≤ 126)
def graph_Name.b (a0 : ByteArray) : Bool := decide (1 ≤ a0.size) && decide (a0.size ≤ 128) && (List.range a0.size).all (fun j => graph_Name.ok (bt a0 (j : Int)))
def graph_Name.f (a0 : ByteArray) : Option Bool := some (graph_Name.b a0)
theorem graph_Name.row (s : ByteArray) (c : Nat) (j : Nat) (hj : j < s.size) : (bytesRow s c)[j]? = some (.int .u8 (bt s (j : Int))) := by
  have h1 : j < (s.data.map (fun b => Value.int .u8 b.toNat)).size := by simpa using hj
  unfold bytesRow
  rw [Array.getElem?_append_left h1, Array.getElem?_eq_getElem h1]
  simp only [Array.getElem_map, Option.some.injEq, Value.int.injEq, true_and]
  unfold bt
  rw [dif_pos (by simpa using hj)]
  rfl
set_option maxHeartbeats 2000000 in
set_option maxRecDepth 100000 in
theorem graph_Name.calls (a0 : ByteArray) (r : Bool) (w : World) (h : graph_Name.f a0 = some r) :
    Calls Tryd.prog 54 #[.string a0] w fun e w' => e = .returned (.bool r) ∧ Below w.heap.size w w' := by
  obtain rfl := Option.some.inj h
  clear h
  have HB0 := Aside0.mk (Below.refl w.heap.size w)
  by_cases h1 : a0.size < 1
  · have HF := Aside0.mk (show graph_Name.b a0 = false by simp [graph_Name.b]; omega)
    have d1 : decide ((a0.size : Int) < 1) = true := decide_eq_true (by omega)
    clear h1
    go_enter Tryd.func54, Tryd.ntmps54
    go_wp2
    go_ret
    exact ⟨by rw [HF.out]; rfl, HB0.out⟩
  by_cases h2 : 128 < a0.size
  · have HF := Aside0.mk (show graph_Name.b a0 = false by simp [graph_Name.b]; omega)
    have d1 : decide ((a0.size : Int) < 1) = false := decide_eq_false (by omega)
    have d2 : decide (128 < (a0.size : Int)) = true := decide_eq_true (by omega)
    clear h1 h2
    go_enter Tryd.func54, Tryd.ntmps54
    go_wp2
    go_ret
    exact ⟨by rw [HF.out]; rfl, HB0.out⟩
  have d1 : decide ((a0.size : Int) < 1) = false := decide_eq_false (by omega)
  have d2 : decide (128 < (a0.size : Int)) = false := decide_eq_false (by omega)
  have HP := Aside0.mk (show graph_Name.b a0 = (List.range a0.size).all (fun j => graph_Name.ok (bt a0 (j : Int))) by
    simp only [graph_Name.b, decide_eq_true (show 1 ≤ a0.size by omega), decide_eq_true (show a0.size ≤ 128 by omega), Bool.true_and])
  have hs : a0.size ≤ 128 := by omega
  clear h1 h2
  have hcv := fun (w : World) (s : ByteArray) => run_bytes_of_string (P := Tryd.prog) w 9 118 5 s Tryd.underlying9 Tryd.underlying118 Tryd.underlying5
  go_enter Tryd.func54, Tryd.ntmps54
  go_wp2
  clear hcv d1 d2
  have HB := Aside0.mk (below_drew1 (below_alloc HB0.out (.cells (bytesRow a0 (grownCap w a0.size 0 5)) 5 ((bytesRow a0 (grownCap w a0.size 0 5)).size, (bytesRow a0 (grownCap w a0.size 0 5)).size + 1))))
  have HC := Aside0.mk (show ∀ j : Nat, j < a0.size → ((w.alloc (.cells (bytesRow a0 (grownCap w a0.size 0 5)) 5 ((bytesRow a0 (grownCap w a0.size 0 5)).size, (bytesRow a0 (grownCap w a0.size 0 5)).size + 1))).drew).cell? ⟨w.heap.size, j, none⟩ = some (.int .u8 (bt a0 (j : Int))) from fun j hj => (cell_of_row _ _ j _ _ _ (blk_drew (blk_new w _))).trans (graph_Name.row a0 _ j hj))
  generalize (w.alloc (.cells (bytesRow a0 (grownCap w a0.size 0 5)) 5 ((bytesRow a0 (grownCap w a0.size 0 5)).size, (bytesRow a0 (grownCap w a0.size 0 5)).size + 1))).drew = w1 at HB HC ⊢
  generalize grownCap w a0.size 0 5 = cap
  clear HB0
  go_loop [16] (fun v26 => ∃ i : Int, 0 ≤ i ∧ i ≤ a0.size ∧ v26 = .int .i64 i ∧ Aside0 (∀ j : Nat, (j : Int) < i → graph_Name.ok (bt a0 (j : Int)) = true)) (fun v26 => (a0.size - (intOf v26).toNat))
  case atStart => exact ⟨0, by omega, by omega, rfl, ⟨fun j hj => by omega⟩⟩
  case round =>
    obtain ⟨i, h0, h1, rfl, HI⟩ := hrel
    by_cases hlt : i < a0.size
    · have c1 := HC.out i.toNat (by omega)
      rw [Int.toNat_of_nonneg h0] at c1
      have br := bt_range a0 i
      have HN := Aside0.mk (show graph_Name.ok (bt a0 i) = true → ∀ j : Nat, (j : Int) < i + 1 → graph_Name.ok (bt a0 (j : Int)) = true from fun hk j hj => if e : (j : Int) = i then e ▸ hk else HI.out j (by omega))
      have HF := Aside0.mk (show graph_Name.ok (bt a0 i) = false → graph_Name.b a0 = false from fun hk => by
        rw [HP.out, List.all_eq_false]
        exact ⟨i.toNat, List.mem_range.2 (by omega), by rw [Int.toNat_of_nonneg h0, hk]; simp⟩)
      clear HI
      generalize bt a0 i = b at c1 br HN HF
      have e1 : decide (i < (a0.size : Int)) = true := decide_eq_true hlt
      by_cases r1 : b < 33
      · have d1 : decide (b < 33) = true := decide_eq_true r1
        have HK := Aside0.mk (HF.out (by unfold graph_Name.ok; simp; omega))
        clear r1 br HN HF
        go_wp2
        go_ret
        exact ⟨by rw [HK.out]; rfl, HB.out⟩
      have d1 : decide (b < 33) = false := decide_eq_false r1
      by_cases r2 : 126 < b
      · have d2 : decide (126 < b) = true := decide_eq_true r2
        have HK := Aside0.mk (HF.out (by unfold graph_Name.ok; simp; omega))
        clear r1 r2 br HN HF
        go_wp2
        go_ret
        exact ⟨by rw [HK.out]; rfl, HB.out⟩
      have d2 : decide (126 < b) = false := decide_eq_false r2
      have HK := Aside0.mk (HN.out (by unfold graph_Name.ok; simp; omega))
      clear r1 r2 br HN HF
      go_wp2
      go_round
      case rel => exact ⟨i + 1, by omega, by omega, by go_num, HK⟩
      case measure => simp [intOf]; omega
    · have e1 : decide (i < (a0.size : Int)) = false := decide_eq_false hlt
      have HK := Aside0.mk (show graph_Name.b a0 = true by
        rw [HP.out, List.all_eq_true]
        exact fun j hj => HI.out j (by have := List.mem_range.1 hj; omega))
      clear HI
      go_wp2
      go_ret
      exact ⟨by rw [HK.out]; rfl, HB.out⟩

end Go.Proofs.YthjdjjnpdeacgaaDoor.PT
