-- PRINTED by print.py (a twelfth state) out of the translation. Not trusted: Lean checks it.
import Derived.Test.YtagpbgabcenodaaPFx0
import Derived.Test.YtagpbgabcenodaaPFx6
import Derived.Test.YtagpbgabcenodaaPFx8
namespace Go.Proofs.Ytagpbgabcenodaa.PF
open Go.RowKit Go.Proofs.YtagpbgabcenodaaW.PrintWords Go.Proofs.YtagpbgabcenodaaW.PrintLast Go.Proofs.YtagpbgabcenodaaW.PrintMore
attribute [local go_sem] max2_int min2_int max_two min_two max_three min_three max_four min_four   -- for this text's walks alone
set_option linter.unusedVariables false
set_option linter.unusedSimpArgs false

-- the contract of function 23 (maskwright/masklaw4.floors): written by hand
/-! ### masklaw4_floors: function 23 -/
def masklaw4_floors.f : Option Bool := some true
abbrev flprt : List S59 := [(⟨(⟨#[97]⟩ : ByteArray), false, 0, 0⟩ : S59)]
theorem fl_size : floor_Size.f 1 2 2 ([] : List (S86)) ([] : List (S88)) flprt = some (16, 12) := by decide +kernel
theorem fl_at : floor_At.f 20 1 2 2 ([] : List (S86)) ([] : List (S88)) flprt (⟨#[97]⟩ : ByteArray) false = some (0, 0, true) := by decide +kernel
theorem fl_check : floor_Check.f 20 1 2 2 ([] : List (S86)) ([] : List (S88)) flprt = some 0 := by decide +kernel
theorem fl_none : floor_Check.f 20 0 0 0 ([] : List (S86)) ([] : List (S88)) ([] : List (S59)) = some 2 := by decide +kernel
theorem fl_row {w : World} {g : Nat} (B : w.heap[g]? = some (.cells #[.string (⟨#[97]⟩ : ByteArray), .bool false, .int .i64 0, .int .i64 0] 59 (0, 0))) : Kd.C k59 w (some ⟨g, 0, none⟩) flprt.length flprt := by
  refine ⟨rfl, by decide, fun _ => ⟨_, rfl, fun j p hj => ?_⟩⟩
  match j, hj with
  | 0, hj =>
    obtain rfl := Option.some.inj hj
    refine ⟨[.string (⟨#[97]⟩ : ByteArray), .bool false, .int .i64 0, .int .i64 0], rfl, k59_mk w _, fun i u hu => ?_⟩
    rw [Nat.zero_mul, Nat.zero_add]
    have e : (⟨g, 0, none⟩ : Addr).add i = ⟨g, i, none⟩ := by
      unfold Addr.add
      split
      · rename_i h
        rw [h]
      · simp
    rw [e, blk_cell B i]
    simpa using hu
theorem fl_keep (w : World) (cs0 cs1 : Array Value) (w1 : World) (h : Below ((w.alloc (.cells cs0 59)).alloc (.cells cs1 69)).heap.size ((w.alloc (.cells cs0 59)).alloc (.cells cs1 69)) w1) :
    w1.heap[w.heap.size]? = some (.cells cs0 59 (0, 0)) ∧ w1.heap[w.heap.size + 1]? = some (.cells cs1 69 (0, 0)) ∧ Below w.heap.size w w1 := by
  refine ⟨blk_below (blk_alloc (blk_new w _) _) h, ?_, below_step (below_alloc (below_alloc (Below.refl _ _) _) _) h⟩
  have := blk_below (blk_new (w.alloc (.cells cs0 59)) (.cells cs1 69)) h
  simpa using this
theorem fl_cells {w : World} {g : Nat} {a b c d e f : Value} (B : w.heap[g]? = some (.cells #[a, b, c, d, e, f] 69 (0, 0))) :
    w.cell? ⟨g, 0, none⟩ = some a ∧ w.cell? ⟨g, 1, none⟩ = some b ∧ w.cell? ⟨g, 2, none⟩ = some c ∧ w.cell? ⟨g, 3, none⟩ = some d ∧ w.cell? ⟨g, 4, none⟩ = some e ∧ w.cell? ⟨g, 5, none⟩ = some f :=
  ⟨blk_cell B 0, blk_cell B 1, blk_cell B 2, blk_cell B 3, blk_cell B 4, blk_cell B 5⟩
set_option maxHeartbeats 400000 in
set_option maxRecDepth 100000 in
theorem masklaw4_floors.calls (r : Bool) (w : World) (h : masklaw4_floors.f = some r) :
    Calls Try.prog 23 #[] w fun e w' => e = .returned (.bool r) ∧ Below w.heap.size w w' := by
  obtain rfl := Option.some.inj h
  clear h
  go_enter Try.func23, Try.ntmps23
  go_wp2_with fail
  refine (floor_Size.calls 1 2 2 none 0 [] none 0 [] (some ⟨w.heap.size, 0, none⟩) 1 flprt 16 12 _ ?_ (by simp) ?_ (by simp) ?_ (by simp) fl_size).mono ?_
  · exact Hnd.noC _ _ _
  · exact Hnd.noC _ _ _
  · exact fl_row (blk_alloc (blk_new w _) _)
  rintro e w1 ⟨rfl, hb1⟩
  obtain ⟨B0, B1, HB⟩ := fl_keep w _ _ w1 hb1
  clear hb1
  obtain ⟨c0, c1, c2, c3, c4, c5⟩ := fl_cells B1
  go_wp2_with fail
  refine (floor_At.calls 20 1 2 2 none 0 [] none 0 [] (some ⟨w.heap.size, 0, none⟩) 1 flprt (⟨#[97]⟩ : ByteArray) false 0 0 true _ ?_ (by simp) ?_ (by simp) ?_ (by simp) fl_at).mono ?_
  · exact Hnd.noC _ _ _
  · exact Hnd.noC _ _ _
  · exact fl_row B0
  rintro e w2 ⟨rfl, hb2⟩
  clear c0 c1 c2 c3 c4 c5
  replace B0 := blk_below B0 hb2
  replace B1 := blk_below B1 hb2
  replace HB := below_step HB hb2
  clear hb2
  obtain ⟨c0, c1, c2, c3, c4, c5⟩ := fl_cells B1
  have hs : w.heap.size + 1 < w2.heap.size := blk_lt B1
  go_wp2_with fail
  refine (floor_Check.calls 20 1 2 2 none 0 [] none 0 [] (some ⟨w.heap.size, 0, none⟩) 1 flprt 0 _ ?_ (by simp) ?_ (by simp) ?_ (by simp) fl_check).mono ?_
  · exact Hnd.noC _ _ _
  · exact Hnd.noC _ _ _
  · exact fl_row (blk_alloc B0 _)
  rintro e w3 ⟨rfl, hb3⟩
  clear c0 c1 c2 c3 c4 c5 hs
  replace HB := below_step (below_alloc HB _) hb3
  clear hb3 B0 B1
  go_wp2_with fail
  refine (floor_Check.calls 20 0 0 0 none 0 [] none 0 [] none 0 [] 2 _ ?_ (by simp) ?_ (by simp) ?_ (by simp) fl_none).mono ?_
  · exact Hnd.noC _ _ _
  · exact Hnd.noC _ _ _
  · exact Hnd.noC _ _ _
  rintro e w4 ⟨rfl, hb4⟩
  replace HB := below_step HB hb4
  clear hb4
  go_wp2
  go_ret
  exact ⟨rfl, HB⟩

end Go.Proofs.Ytagpbgabcenodaa.PF
namespace Go.Proofs.Ytagpbgabcenodaa.PF
open Go.RowKit Go.Proofs.YtagpbgabcenodaaW.PrintWords Go.Proofs.YtagpbgabcenodaaW.PrintLast Go.Proofs.YtagpbgabcenodaaW.PrintMore
attribute [local go_sem] max2_int min2_int max_two min_two max_three min_three max_four min_four   -- for this text's walks alone
set_option linter.unusedVariables false
set_option linter.unusedSimpArgs false

-- the contract of function 51 (maskwright/lib.Name): written by hand
/-! ### lib_Name: function 51 -/
def lib_Name.ok (c : Int) : Bool := (decide (97 ≤ c) && decide (c ≤ 122)) || (decide (48 ≤ c) && decide (c ≤ 57)) || decide (c = 95)
def lib_Name.b (a0 : ByteArray) : Bool := decide (1 ≤ a0.size) && decide (a0.size ≤ 40) && decide (97 ≤ bt a0 0) && decide (bt a0 0 ≤ 122) && (List.range a0.size).all (fun j => lib_Name.ok (bt a0 (j : Int)))
def lib_Name.f (a0 : ByteArray) : Option Bool := some (lib_Name.b a0)
theorem lib_Name.row (s : ByteArray) (c : Nat) (j : Nat) (hj : j < s.size) : (bytesRow s c)[j]? = some (.int .u8 (bt s (j : Int))) := by
  have h1 : j < (s.data.map (fun b => Value.int .u8 b.toNat)).size := by simpa using hj
  unfold bytesRow
  rw [Array.getElem?_append_left h1, Array.getElem?_eq_getElem h1]
  simp only [Array.getElem_map, Option.some.injEq, Value.int.injEq, true_and]
  unfold bt
  rw [dif_pos (by simpa using hj)]
  rfl
set_option maxHeartbeats 2000000 in
set_option maxRecDepth 100000 in
theorem lib_Name.calls (a0 : ByteArray) (r : Bool) (w : World) (h : lib_Name.f a0 = some r) :
    Calls Try.prog 51 #[.string a0] w fun e w' => e = .returned (.bool r) ∧ Below w.heap.size w w' := by
  obtain rfl := Option.some.inj h
  clear h
  have HB0 := Aside0.mk (Below.refl w.heap.size w)
  by_cases h1 : a0.size < 1
  · have HF := Aside0.mk (show lib_Name.b a0 = false by simp [lib_Name.b]; omega)
    have d1 : decide ((a0.size : Int) < 1) = true := decide_eq_true (by omega)
    clear h1
    go_enter Try.func51, Try.ntmps51
    go_wp2
    go_ret
    exact ⟨by rw [HF.out]; rfl, HB0.out⟩
  by_cases h2 : 40 < a0.size
  · have HF := Aside0.mk (show lib_Name.b a0 = false by simp [lib_Name.b]; omega)
    have d1 : decide ((a0.size : Int) < 1) = false := decide_eq_false (by omega)
    have d2 : decide (40 < (a0.size : Int)) = true := decide_eq_true (by omega)
    clear h1 h2
    go_enter Try.func51, Try.ntmps51
    go_wp2
    go_ret
    exact ⟨by rw [HF.out]; rfl, HB0.out⟩
  have d1 : decide ((a0.size : Int) < 1) = false := decide_eq_false (by omega)
  have d2 : decide (40 < (a0.size : Int)) = false := decide_eq_false (by omega)
  have q0 : (0 < a0.size) = True := eq_true (by omega)
  have hx0 : ∀ h : 0 < a0.size, ((a0[0]'h).toNat : Int) = bt a0 0 := fun h => bt_at a0 0 h
  by_cases h3 : bt a0 0 < 97
  · have HF := Aside0.mk (show lib_Name.b a0 = false by simp [lib_Name.b]; omega)
    have d3 : decide (bt a0 0 < 97) = true := decide_eq_true h3
    clear h1 h2 h3
    go_enter Try.func51, Try.ntmps51
    go_wp2
    go_ret
    exact ⟨by rw [HF.out]; rfl, HB0.out⟩
  have d3 : decide (bt a0 0 < 97) = false := decide_eq_false h3
  by_cases h4 : 122 < bt a0 0
  · have HF := Aside0.mk (show lib_Name.b a0 = false by simp [lib_Name.b]; omega)
    have d4 : decide (122 < bt a0 0) = true := decide_eq_true h4
    clear h1 h2 h3 h4
    go_enter Try.func51, Try.ntmps51
    go_wp2
    go_ret
    exact ⟨by rw [HF.out]; rfl, HB0.out⟩
  have d4 : decide (122 < bt a0 0) = false := decide_eq_false h4
  have HP := Aside0.mk (show lib_Name.b a0 = (List.range a0.size).all (fun j => lib_Name.ok (bt a0 (j : Int))) by
    simp only [lib_Name.b, decide_eq_true (show 1 ≤ a0.size by omega), decide_eq_true (show a0.size ≤ 40 by omega), decide_eq_true (show 97 ≤ bt a0 0 by omega), decide_eq_true (show bt a0 0 ≤ 122 by omega), Bool.true_and])
  have hs : a0.size ≤ 40 := by omega
  clear h1 h2 h3 h4
  have hcv := fun (w : World) (s : ByteArray) => run_bytes_of_string (P := Try.prog) w 9 100 5 s Try.underlying9 Try.underlying100 Try.underlying5
  go_enter Try.func51, Try.ntmps51
  go_wp2
  clear hcv hx0 q0 d1 d2 d3 d4
  have HB := Aside0.mk (below_drew1 (below_alloc HB0.out (.cells (bytesRow a0 (grownCap w a0.size 0 5)) 5 ((bytesRow a0 (grownCap w a0.size 0 5)).size, (bytesRow a0 (grownCap w a0.size 0 5)).size + 1))))
  have HC := Aside0.mk (show ∀ j : Nat, j < a0.size → ((w.alloc (.cells (bytesRow a0 (grownCap w a0.size 0 5)) 5 ((bytesRow a0 (grownCap w a0.size 0 5)).size, (bytesRow a0 (grownCap w a0.size 0 5)).size + 1))).drew).cell? ⟨w.heap.size, j, none⟩ = some (.int .u8 (bt a0 (j : Int))) from fun j hj => (cell_of_row _ _ j _ _ _ (blk_drew (blk_new w _))).trans (lib_Name.row a0 _ j hj))
  generalize (w.alloc (.cells (bytesRow a0 (grownCap w a0.size 0 5)) 5 ((bytesRow a0 (grownCap w a0.size 0 5)).size, (bytesRow a0 (grownCap w a0.size 0 5)).size + 1))).drew = w1 at HB HC ⊢
  generalize grownCap w a0.size 0 5 = cap
  clear HB0
  go_loop [26] (fun v26 => ∃ i : Int, 0 ≤ i ∧ i ≤ a0.size ∧ v26 = .int .i64 i ∧ Aside0 (∀ j : Nat, (j : Int) < i → lib_Name.ok (bt a0 (j : Int)) = true)) (fun v26 => (a0.size - (intOf v26).toNat))
  case atStart => exact ⟨0, by omega, by omega, rfl, ⟨fun j hj => by omega⟩⟩
  case round =>
    obtain ⟨i, h0, h1, rfl, HI⟩ := hrel
    by_cases hlt : i < a0.size
    · have c1 := HC.out i.toNat (by omega)
      rw [Int.toNat_of_nonneg h0] at c1
      have br := bt_range a0 i
      have HN := Aside0.mk (show lib_Name.ok (bt a0 i) = true → ∀ j : Nat, (j : Int) < i + 1 → lib_Name.ok (bt a0 (j : Int)) = true from fun hk j hj => if e : (j : Int) = i then e ▸ hk else HI.out j (by omega))
      have HF := Aside0.mk (show lib_Name.ok (bt a0 i) = false → lib_Name.b a0 = false from fun hk => by
        rw [HP.out, List.all_eq_false]
        exact ⟨i.toNat, List.mem_range.2 (by omega), by rw [Int.toNat_of_nonneg h0, hk]; simp⟩)
      clear HI
      generalize bt a0 i = b at c1 br HN HF
      have e1 : decide (i < (a0.size : Int)) = true := decide_eq_true hlt
      by_cases r1 : 97 ≤ b ∧ b ≤ 122
      · have d1 : decide (b < 97) = false := decide_eq_false (by omega)
        have d2 : decide (122 < b) = false := decide_eq_false (by omega)
        have HK := Aside0.mk (HN.out (by unfold lib_Name.ok; simp; omega))
        clear r1 br HN HF
        go_wp2
        go_round
        case rel => exact ⟨i + 1, by omega, by omega, by go_num, HK⟩
        case measure => simp [intOf]; omega
      by_cases r2 : 48 ≤ b ∧ b ≤ 57
      · have d1 : decide (b < 97) = true := decide_eq_true (by omega)
        have d3 : decide (b < 48) = false := decide_eq_false (by omega)
        have d4 : decide (57 < b) = false := decide_eq_false (by omega)
        have HK := Aside0.mk (HN.out (by unfold lib_Name.ok; simp; omega))
        clear r1 r2 br HN HF
        go_wp2
        go_round
        case rel => exact ⟨i + 1, by omega, by omega, by go_num, HK⟩
        case measure => simp [intOf]; omega
      by_cases r3 : b = 95
      · have d1 : decide (b < 97) = true := decide_eq_true (by omega)
        have d3 : decide (b < 48) = false := decide_eq_false (by omega)
        have d4 : decide (57 < b) = true := decide_eq_true (by omega)
        have d5 : (b != 95) = false := bne_eq_false_iff_eq.mpr r3
        have HK := Aside0.mk (HN.out (by unfold lib_Name.ok; simp; omega))
        clear r1 r2 r3 br HN HF
        go_wp2
        go_round
        case rel => exact ⟨i + 1, by omega, by omega, by go_num, HK⟩
        case measure => simp [intOf]; omega
      have d5 : (b != 95) = true := bne_iff_ne.mpr r3
      have HK := Aside0.mk (HF.out (by unfold lib_Name.ok; simp; omega))
      by_cases r4 : b < 48
      · have d1 : decide (b < 97) = true := decide_eq_true (by omega)
        have d3 : decide (b < 48) = true := decide_eq_true r4
        clear r1 r2 r3 r4 br HN HF
        go_wp2
        go_ret
        exact ⟨by rw [HK.out]; rfl, HB.out⟩
      have d3 : decide (b < 48) = false := decide_eq_false r4
      have d4 : decide (57 < b) = true := decide_eq_true (by omega)
      by_cases r5 : b < 97
      · have d1 : decide (b < 97) = true := decide_eq_true r5
        clear r1 r2 r3 r4 r5 br HN HF
        go_wp2
        go_ret
        exact ⟨by rw [HK.out]; rfl, HB.out⟩
      · have d1 : decide (b < 97) = false := decide_eq_false r5
        have d2 : decide (122 < b) = true := decide_eq_true (by omega)
        clear r1 r2 r3 r4 r5 br HN HF
        go_wp2
        go_ret
        exact ⟨by rw [HK.out]; rfl, HB.out⟩
    · have e1 : decide (i < (a0.size : Int)) = false := decide_eq_false hlt
      have HK := Aside0.mk (show lib_Name.b a0 = true by
        rw [HP.out, List.all_eq_true]
        exact fun j hj => HI.out j (by have := List.mem_range.1 hj; omega))
      clear HI
      go_wp2
      go_ret
      exact ⟨by rw [HK.out]; rfl, HB.out⟩

end Go.Proofs.Ytagpbgabcenodaa.PF
namespace Go.Proofs.Ytagpbgabcenodaa.PF
open Go.RowKit Go.Proofs.YtagpbgabcenodaaW.PrintWords Go.Proofs.YtagpbgabcenodaaW.PrintLast Go.Proofs.YtagpbgabcenodaaW.PrintMore
attribute [local go_sem] max2_int min2_int max_two min_two max_three min_three max_four min_four   -- for this text's walks alone
set_option linter.unusedVariables false
set_option linter.unusedSimpArgs false

-- the contract of function 52 (maskwright/netlist.Mask): written by hand
/-! ### netlist_Mask: function 52 -/
def netlist_Mask.f (a0 : Int) : Option Int := some (if a0 = 0 then 1 else if a0 = 1 then 3 else if a0 = 2 then 15 else if a0 = 3 then 255 else if a0 = 4 then 65535 else if a0 = 5 then 4294967295 else if a0 = 6 then 18446744073709551615 else 0)
set_option maxHeartbeats 2000000 in
set_option maxRecDepth 100000 in
theorem netlist_Mask.calls (a0 : Int) (r : Int) (w : World) (h : netlist_Mask.f a0 = some r) :
    Calls Try.prog 52 #[.int .i64 a0] w fun e w' => e = .returned (.int .u64 r) ∧ Drawn0 w w' := by
  obtain rfl := Option.some.inj h
  clear h
  by_cases h1 : a0 < 0
  · have HF := Aside0.mk (show (if a0 = 0 then (1 : Int) else if a0 = 1 then 3 else if a0 = 2 then 15 else if a0 = 3 then 255 else if a0 = 4 then 65535 else if a0 = 5 then 4294967295 else if a0 = 6 then 18446744073709551615 else 0) = 0 by
      rw [if_neg (by omega), if_neg (by omega), if_neg (by omega), if_neg (by omega), if_neg (by omega), if_neg (by omega), if_neg (by omega)])
    have d1 : decide (a0 < 0) = true := decide_eq_true h1
    generalize (if a0 = 0 then (1 : Int) else if a0 = 1 then 3 else if a0 = 2 then 15 else if a0 = 3 then 255 else if a0 = 4 then 65535 else if a0 = 5 then 4294967295 else if a0 = 6 then 18446744073709551615 else 0) = q at HF ⊢
    clear h1
    go_enter Try.func52, Try.ntmps52
    go_wp2
    go_ret
    exact ⟨by rw [HF.out]; rfl, Drawn0.refl _⟩
  by_cases h2 : 6 < a0
  · have HF := Aside0.mk (show (if a0 = 0 then (1 : Int) else if a0 = 1 then 3 else if a0 = 2 then 15 else if a0 = 3 then 255 else if a0 = 4 then 65535 else if a0 = 5 then 4294967295 else if a0 = 6 then 18446744073709551615 else 0) = 0 by
      rw [if_neg (by omega), if_neg (by omega), if_neg (by omega), if_neg (by omega), if_neg (by omega), if_neg (by omega), if_neg (by omega)])
    have d1 : decide (a0 < 0) = false := decide_eq_false h1
    have d2 : decide (6 < a0) = true := decide_eq_true h2
    generalize (if a0 = 0 then (1 : Int) else if a0 = 1 then 3 else if a0 = 2 then 15 else if a0 = 3 then 255 else if a0 = 4 then 65535 else if a0 = 5 then 4294967295 else if a0 = 6 then 18446744073709551615 else 0) = q at HF ⊢
    clear h1 h2
    go_enter Try.func52, Try.ntmps52
    go_wp2
    go_ret
    exact ⟨by rw [HF.out]; rfl, Drawn0.refl _⟩
  have hc : a0 = 0 ∨ a0 = 1 ∨ a0 = 2 ∨ a0 = 3 ∨ a0 = 4 ∨ a0 = 5 ∨ a0 = 6 := by omega
  clear h1 h2
  rcases hc with rfl | rfl | rfl | rfl | rfl | rfl | rfl
  all_goals
    go_enter Try.func52, Try.ntmps52
    go_wp2
    go_ret
    exact ⟨by rfl, Drawn0.refl _⟩

end Go.Proofs.Ytagpbgabcenodaa.PF
namespace Go.Proofs.Ytagpbgabcenodaa.PF
open Go.RowKit Go.Proofs.YtagpbgabcenodaaW.PrintWords Go.Proofs.YtagpbgabcenodaaW.PrintLast Go.Proofs.YtagpbgabcenodaaW.PrintMore
attribute [local go_sem] max2_int min2_int max_two min_two max_three min_three max_four min_four   -- for this text's walks alone
set_option linter.unusedVariables false
set_option linter.unusedSimpArgs false

/-! ### lib_in: function 53 -/
def lib_in.l0 : Nat → Int → List Int → Int → Int → Option (Bool)
  | 0, _, _, _, _ => none
  | k + 1, x0, x7, x8, x9 => if x9 < x8 then (if 0 ≤ x9 then (if x9 < (x7.length : Int) then (if (rd x7 x9) < 0 then (some false) else (if (rd x7 x9) > x0 then (some false) else (lib_in.l0 k x0 x7 x8 (wrap64 (x9 + 1))))) else (none)) else (none)) else (some true)
def lib_in.f (k : Nat) (a0 : Int) (l1 : List Int) : Option (Bool) := lib_in.l0 k a0 l1 (l1.length : Int) 0
theorem lib_in.mono_l : ∀ k, (∀ y0 y1 y2 y3, LeO (lib_in.l0 k y0 y1 y2 y3) (lib_in.l0 (k + 1) y0 y1 y2 y3))
  | 0 => fun _ _ _ _ r h => by simp [lib_in.l0] at h
  | k + 1 => by
    have ih0 := lib_in.mono_l k
    · intro y0 y1 y2 y3
      unfold lib_in.l0
      repeat' first
      | (with_reducible exact ih0 _ _ _ _)
      | (with_reducible exact LeO.refl _)
      | (with_reducible exact LeO.none _)
      | (with_reducible refine LeO.ite ?_ ?_)
      | (with_reducible refine LeO.bind ?_ (fun _ => ?_))
      | exact ih0 _ _ _ _
      | exact LeO.none _
      | refine LeO.ite ?_ ?_
      | refine LeO.bind ?_ (fun _ => ?_)
theorem lib_in.mono : ∀ a0 a1 k, LeO (lib_in.f k a0 a1) (lib_in.f (k + 1) a0 a1) := by
  intro a0 a1 k
  have ih0 := lib_in.mono_l k
  unfold lib_in.f
  repeat' first
      | (with_reducible exact ih0 _ _ _ _)
      | (with_reducible exact LeO.refl _)
      | (with_reducible exact LeO.none _)
      | (with_reducible refine LeO.ite ?_ ?_)
      | (with_reducible refine LeO.bind ?_ (fun _ => ?_))
      | exact ih0 _ _ _ _
      | exact LeO.none _
      | refine LeO.ite ?_ ?_
      | refine LeO.bind ?_ (fun _ => ?_)
set_option maxHeartbeats 8000000 in
set_option maxRecDepth 100000 in
theorem lib_in.calls (k : Nat) (a0 : Int) (A1 : Option Addr) (c1 : Nat) (l1 : List Int) (r : Bool) (w : World) (hr1 : Kd.C (Kd.int .i64) w A1 l1.length l1) (hc1 : l1.length ≤ c1) (h : lib_in.f k a0 l1 = some r) :
    Calls Try.prog 53 #[.int .i64 a0, .slice A1 l1.length c1] w fun e w' => e = .returned (.bool r) ∧ Drawn0 w w' := by
  have HR1 := Aside0.mk hr1
  have HC1 := Aside0.mk hc1
  clear hr1 hc1
  have H : (lib_in.l0 k a0 l1 (l1.length : Int) 0) = some r := h
  clear h
  have H' := Aside0.mk H
  clear H
  go_enter Try.func53, Try.ntmps53
  go_wp2
  go_loopg [9] k (fun kq v9 w' => ∃ (x9_1 : Int), v9 = .int .i64 x9_1 ∧ Aside0 (lib_in.l0 kq a0 l1 (l1.length : Int) x9_1 = some r) ∧ Aside0 (kq ≤ k) ∧ Drawn0 w w')
  case atStart => exact ⟨(0), (by first | rfl | (simp; done) | (simp [*]; done)), H', ⟨Nat.le_refl _⟩, by repeat (first | exact Drawn0.refl _ | apply Drawn0.step)⟩
  case round =>
    clear H'
    try clear c1
    try clear p2
    obtain ⟨x9_1, rfl, HA, HK1, ⟨m1, rfl⟩⟩ := hrel
    cases gk with
    | zero => exact absurd HA.out (by simp [lib_in.l0])
    | succ k1 =>
      have H := HA.out
      clear HA
      simp only [lib_in.l0] at H
      by_cases c3 : x9_1 < (l1.length : Int)
      · rw [if_pos c3] at H
        have c3b0 : decide (x9_1 < (l1.length : Int)) = true := decide_eq_true c3
        clear c3
        by_cases c4 : 0 ≤ x9_1
        · rw [if_pos c4] at H
          have c4b0 : decide (0 ≤ x9_1) = true := decide_eq_true c4
          clear c4
          by_cases c5 : x9_1 < (l1.length : Int)
          · rw [if_pos c5] at H
            have c5b0 : decide (x9_1 < (l1.length : Int)) = true := decide_eq_true c5
            clear c5
            by_cases c6 : (rd l1 x9_1) < 0
            · rw [if_pos c6] at H
              have c6b0 : decide ((rd l1 x9_1) < 0) = true := decide_eq_true c6
              clear c6
              obtain rfl := Option.some.inj H
              have p143 : 0 ≤ (x9_1 : Int) := of_decide_eq_true (by first | (with_reducible assumption) | assumption)
              have q143 : x9_1 < (l1.length : Int) := of_decide_eq_true (by first | (with_reducible assumption) | assumption)
              obtain ⟨ad143, e143, hx143_0⟩ := Kd.at_int HR1.out x9_1 p143 q143
              cases e143
              replace p143 := eq_true p143
              replace q143 := eq_true q143
              go_wp2
              go_ret
              exact ⟨by first | rfl | (simp; done) | (simp [*]; done), by repeat (first | exact Drawn0.refl _ | apply Drawn0.step)⟩
            · rw [if_neg c6] at H
              have c6b0 : decide ((rd l1 x9_1) < 0) = false := decide_eq_false c6
              clear c6
              by_cases c7 : (rd l1 x9_1) > a0
              · rw [if_pos c7] at H
                have c7b0 : decide (a0 < (rd l1 x9_1)) = true := decide_eq_true c7
                clear c7
                obtain rfl := Option.some.inj H
                have p143 : 0 ≤ (x9_1 : Int) := of_decide_eq_true (by first | (with_reducible assumption) | assumption)
                have q143 : x9_1 < (l1.length : Int) := of_decide_eq_true (by first | (with_reducible assumption) | assumption)
                obtain ⟨ad143, e143, hx143_0⟩ := Kd.at_int HR1.out x9_1 p143 q143
                cases e143
                replace p143 := eq_true p143
                replace q143 := eq_true q143
                go_wp2
                go_ret
                exact ⟨by first | rfl | (simp; done) | (simp [*]; done), by repeat (first | exact Drawn0.refl _ | apply Drawn0.step)⟩
              · rw [if_neg c7] at H
                have c7b0 : decide (a0 < (rd l1 x9_1)) = false := decide_eq_false c7
                clear c7
                have H' := Aside0.mk H
                clear H
                have p143 : 0 ≤ (x9_1 : Int) := of_decide_eq_true (by first | (with_reducible assumption) | assumption)
                have q143 : x9_1 < (l1.length : Int) := of_decide_eq_true (by first | (with_reducible assumption) | assumption)
                obtain ⟨ad143, e143, hx143_0⟩ := Kd.at_int HR1.out x9_1 p143 q143
                cases e143
                replace p143 := eq_true p143
                replace q143 := eq_true q143
                go_wp2
                go_roundg k1
                case measure => have := HK1.out; omega
                case rel => exact ⟨(wrap64 (x9_1 + 1)), (by first | rfl | (simp; done) | (simp [*]; done)), H', ⟨by have := HK1.out; omega⟩, by repeat (first | exact Drawn0.refl _ | apply Drawn0.step)⟩
          · rw [if_neg c5] at H
            exact absurd H (by simp)
        · rw [if_neg c4] at H
          exact absurd H (by simp)
      · rw [if_neg c3] at H
        have c3b0 : decide (x9_1 < (l1.length : Int)) = false := decide_eq_false c3
        clear c3
        obtain rfl := Option.some.inj H
        go_wp2
        go_ret
        exact ⟨by first | rfl | (simp; done) | (simp [*]; done), by repeat (first | exact Drawn0.refl _ | apply Drawn0.step)⟩

end Go.Proofs.Ytagpbgabcenodaa.PF
