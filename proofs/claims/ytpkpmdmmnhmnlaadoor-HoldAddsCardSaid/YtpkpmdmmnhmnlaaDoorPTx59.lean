-- PRINTED by print.py (a twelfth state) out of the translation. Not trusted: Lean checks it.
import Derived.Test.YtpkpmdmmnhmnlaaDoorCmp
import Derived.Test.YtpkpmdmmnhmnlaaDoorPTx0
import Derived.Test.YtpkpmdmmnhmnlaaDoorPTx13
namespace Go.Proofs.YtpkpmdmmnhmnlaaDoor.PT
open Go.RowKit Go.Proofs.YtpkpmdmmnhmnlaaDoorW.PrintWords Go.Proofs.YtpkpmdmmnhmnlaaDoorW.PrintLast Go.Proofs.YtpkpmdmmnhmnlaaDoorW.PrintMore
attribute [local go_sem] max2_int min2_int max_two min_two max_three min_three max_four min_four   -- for this text's walks alone
set_option linter.unusedVariables false
set_option linter.unusedSimpArgs false

-- the contract of function 66 (maskwright/lib.Name): written by hand
/-! ### lib_Name: function 66 -/
def lib_Name.ok (c : Int) : Bool := (decide (97 ≤ c) && decide (c ≤ 122)) || (decide (48 ≤ c) && decide (c ≤ 57)) || decide (c = 95)
def lib_Name.b (a0 : ByteArray) : Bool := decide (1 ≤ a0.size) && decide (a0.size ≤ 40) && decide (97 ≤ bt a0 0) && decide (bt a0 0 ≤ 122) && (List.range a0.size).all (fun j => lib_Name.ok (bt a0 (j : Int)))
def lib_Name.f (a0 : ByteArray) : Option Bool := some (lib_Name.b a0)
theorem lib_Name.row (s : ByteArray) (c : Nat) (j : Nat) (hj : j < s.size) : (bytesRow s c)[j]? = some (.int .u8 (bt s (j : Int))) := by
 have h1 : j < (s.data.map (fun b => Value.int .u8 b.toNat)).size := by simpa using hj
 unfold bytesRow
 rw [Array.getElem?_append_left h1, Array.getElem?_eq_getElem h1]
 simp only [Array.getElem_map, Option.some.injEq, Value.int.injEq, true_and]
 unfold bt
 rw [dif_pos (by simpa using hj)]
 rfl
set_option maxHeartbeats 2000000 in
set_option maxRecDepth 100000 in
theorem lib_Name.calls (a0 : ByteArray) (r : Bool) (w : World) (h : lib_Name.f a0 = some r) :
    Calls Tryd.prog 66 #[.string a0] w fun e w' => e = .returned (.bool r) ∧ Below w.heap.size w w' := by
 obtain rfl := Option.some.inj h
 clear h
 have HB0 := Aside0.mk (Below.refl w.heap.size w)
 by_cases h1 : a0.size < 1
 · have HF := Aside0.mk (show lib_Name.b a0 = false by simp [lib_Name.b]; omega)
   have d1 : decide ((a0.size : Int) < 1) = true := decide_eq_true (by omega)
   clear h1
   go_enter Tryd.func66, Tryd.ntmps66
   go_wp2
   go_ret
   exact ⟨by rw [HF.out]; rfl, HB0.out⟩
 by_cases h2 : 40 < a0.size
 · have HF := Aside0.mk (show lib_Name.b a0 = false by simp [lib_Name.b]; omega)
   have d1 : decide ((a0.size : Int) < 1) = false := decide_eq_false (by omega)
   have d2 : decide (40 < (a0.size : Int)) = true := decide_eq_true (by omega)
   clear h1 h2
   go_enter Tryd.func66, Tryd.ntmps66
   go_wp2
   go_ret
   exact ⟨by rw [HF.out]; rfl, HB0.out⟩
 have d1 : decide ((a0.size : Int) < 1) = false := decide_eq_false (by omega)
 have d2 : decide (40 < (a0.size : Int)) = false := decide_eq_false (by omega)
 have q0 : (0 < a0.size) = True := eq_true (by omega)
 have hx0 : ∀ h : 0 < a0.size, ((a0[0]'h).toNat : Int) = bt a0 0 := fun h => bt_at a0 0 h
 by_cases h3 : bt a0 0 < 97
 · have HF := Aside0.mk (show lib_Name.b a0 = false by simp [lib_Name.b]; omega)
   have d3 : decide (bt a0 0 < 97) = true := decide_eq_true h3
   clear h1 h2 h3
   go_enter Tryd.func66, Tryd.ntmps66
   go_wp2
   go_ret
   exact ⟨by rw [HF.out]; rfl, HB0.out⟩
 have d3 : decide (bt a0 0 < 97) = false := decide_eq_false h3
 by_cases h4 : 122 < bt a0 0
 · have HF := Aside0.mk (show lib_Name.b a0 = false by simp [lib_Name.b]; omega)
   have d4 : decide (122 < bt a0 0) = true := decide_eq_true h4
   clear h1 h2 h3 h4
   go_enter Tryd.func66, Tryd.ntmps66
   go_wp2
   go_ret
   exact ⟨by rw [HF.out]; rfl, HB0.out⟩
 have d4 : decide (122 < bt a0 0) = false := decide_eq_false h4
 have HP := Aside0.mk (show lib_Name.b a0 = (List.range a0.size).all (fun j => lib_Name.ok (bt a0 (j : Int))) by
   simp only [lib_Name.b, decide_eq_true (show 1 ≤ a0.size by omega), decide_eq_true (show a0.size ≤ 40 by omega), decide_eq_true (show 97 ≤ bt a0 0 by omega), decide_eq_true (show bt a0 0 ≤ 122 by omega), Bool.true_and])
 have hs : a0.size ≤ 40 := by omega
 clear h1 h2 h3 h4
 have hcv := fun (w : World) (s : ByteArray) => run_bytes_of_string (P := Tryd.prog) w 9 132 5 s Tryd.underlying9 Tryd.underlying132 Tryd.underlying5
 go_enter Tryd.func66, Tryd.ntmps66
 go_wp2
 clear hcv hx0 q0 d1 d2 d3 d4
 have HB := Aside0.mk (below_drew1 (below_alloc HB0.out (.cells (bytesRow a0 (grownCap w a0.size 0 5)) 5 ((bytesRow a0 (grownCap w a0.size 0 5)).size, (bytesRow a0 (grownCap w a0.size 0 5)).size + 1))))
 have HC := Aside0.mk (show ∀ j : Nat, j < a0.size → ((w.alloc (.cells (bytesRow a0 (grownCap w a0.size 0 5)) 5 ((bytesRow a0 (grownCap w a0.size 0 5)).size, (bytesRow a0 (grownCap w a0.size 0 5)).size + 1))).drew).cell? ⟨w.heap.size, j, none⟩ = some (.int .u8 (bt a0 (j : Int))) from fun j hj => (cell_of_row _ _ j _ _ _ (blk_drew (blk_new w _))).trans (lib_Name.row a0 _ j hj))
 generalize (w.alloc (.cells (bytesRow a0 (grownCap w a0.size 0 5)) 5 ((bytesRow a0 (grownCap w a0.size 0 5)).size, (bytesRow a0 (grownCap w a0.size 0 5)).size + 1))).drew = w1 at HB HC ⊢
 generalize grownCap w a0.size 0 5 = cap
 clear HB0
 go_loop [26] (fun v26 => ∃ i : Int, 0 ≤ i ∧ i ≤ a0.size ∧ v26 = .int .i64 i ∧ Aside0 (∀ j : Nat, (j : Int) < i → lib_Name.ok (bt a0 (j : Int)) = true)) (fun v26 => (a0.size - (intOf v26).toNat))
 case atStart => exact ⟨0, by omega, by omega, rfl, ⟨fun j hj => by omega⟩⟩
 obtain ⟨i, h0, h1, rfl, HI⟩ := hrel
 by_cases hlt : i < a0.size
 rotate_left
 · have e1 : decide (i < (a0.size : Int)) = false := decide_eq_false hlt
   have HK := Aside0.mk (show lib_Name.b a0 = true by
     rw [HP.out, List.all_eq_true]
     exact fun j hj => HI.out j (by have := List.mem_range.1 hj; omega))
   clear HI
   go_wp2
   go_ret
   exact ⟨by rw [HK.out]; rfl, HB.out⟩
 have c1 := HC.out i.toNat (by omega)
 rw [Int.toNat_of_nonneg h0] at c1
 have br := bt_range a0 i
 have HN := Aside0.mk (show lib_Name.ok (bt a0 i) = true → ∀ j : Nat, (j : Int) < i + 1 → lib_Name.ok (bt a0 (j : Int)) = true from fun hk j hj => if e : (j : Int) = i then e ▸ hk else HI.out j (by omega))
 have HF := Aside0.mk (show lib_Name.ok (bt a0 i) = false → lib_Name.b a0 = false from fun hk => by
   rw [HP.out, List.all_eq_false]
   exact ⟨i.toNat, List.mem_range.2 (by omega), by rw [Int.toNat_of_nonneg h0, hk]; simp⟩)
 clear HI
 generalize bt a0 i = b at c1 br HN HF
 by_cases r1 : 97 ≤ b ∧ b ≤ 122
 · have d1 : decide (b < 97) = false := decide_eq_false (by omega)
   have d2 : decide (122 < b) = false := decide_eq_false (by omega)
   have HK := Aside0.mk (HN.out (by unfold lib_Name.ok; simp; omega))
   clear r1 br HN HF
   go_wp2
   go_round
   case rel => exact ⟨i + 1, by omega, by omega, by go_num, HK⟩
   case measure => simp [intOf]; omega
 by_cases r2 : 48 ≤ b ∧ b ≤ 57
 · have d1 : decide (b < 97) = true := decide_eq_true (by omega)
   have d3 : decide (b < 48) = false := decide_eq_false (by omega)
   have d4 : decide (57 < b) = false := decide_eq_false (by omega)
   have HK := Aside0.mk (HN.out (by unfold lib_Name.ok; simp; omega))
   clear r1 r2 br HN HF
   go_wp2
   go_round
   case rel => exact ⟨i + 1, by omega, by omega, by go_num, HK⟩
   case measure => simp [intOf]; omega
 by_cases r3 : b = 95
 · have d1 : decide (b < 97) = true := decide_eq_true (by omega)
   have d3 : decide (b < 48) = false := decide_eq_false (by omega)
   have d4 : decide (57 < b) = true := decide_eq_true (by omega)
   have d5 : (b != 95) = false := bne_eq_false_iff_eq.mpr r3
   have HK := Aside0.mk (HN.out (by unfold lib_Name.ok; simp; omega))
   clear r1 r2 r3 br HN HF
   go_wp2
   go_round
   case rel => exact ⟨i + 1, by omega, by omega, by go_num, HK⟩
   case measure => simp [intOf]; omega
 have d5 : (b != 95) = true := bne_iff_ne.mpr r3
 have HK := Aside0.mk (HF.out (by unfold lib_Name.ok; simp; omega))
 by_cases r4 : b < 48
 · have d1 : decide (b < 97) = true := decide_eq_true (by omega)
   have d3 : decide (b < 48) = true := decide_eq_true r4
   clear r1 r2 r3 r4 br HN HF
   go_wp2
   go_ret
   exact ⟨by rw [HK.out]; rfl, HB.out⟩
 have d3 : decide (b < 48) = false := decide_eq_false r4
 have d4 : decide (57 < b) = true := decide_eq_true (by omega)
 by_cases r5 : b < 97
 · have d1 : decide (b < 97) = true := decide_eq_true r5
   clear r1 r2 r3 r4 r5 br HN HF
   go_wp2
   go_ret
   exact ⟨by rw [HK.out]; rfl, HB.out⟩
 have d1 : decide (b < 97) = false := decide_eq_false r5
 have d2 : decide (122 < b) = true := decide_eq_true (by omega)
 clear r1 r2 r3 r4 r5 br HN HF
 go_wp2
 go_ret
 exact ⟨by rw [HK.out]; rfl, HB.out⟩

end Go.Proofs.YtpkpmdmmnhmnlaaDoor.PT
namespace Go.Proofs.YtpkpmdmmnhmnlaaDoor.PT
open Go.RowKit Go.Proofs.YtpkpmdmmnhmnlaaDoorW.PrintWords Go.Proofs.YtpkpmdmmnhmnlaaDoorW.PrintLast Go.Proofs.YtpkpmdmmnhmnlaaDoorW.PrintMore
attribute [local go_sem] max2_int min2_int max_two min_two max_three min_three max_four min_four   -- for this text's walks alone
set_option linter.unusedVariables false
set_option linter.unusedSimpArgs false

/-! ### lib_in: function 67 -/
def lib_in.l0 : Nat → Int → List Int → Int → Int → Option (Bool)
  | 0, _, _, _, _ => none
  | k + 1, x0, x7, x8, x9 => if x9 < x8 then (if 0 ≤ x9 then (if x9 < (x7.length : Int) then (if (rd x7 x9) < 0 then (some false) else (if (rd x7 x9) > x0 then (some false) else (lib_in.l0 k x0 x7 x8 (wrap64 (x9 + 1))))) else (none)) else (none)) else (some true)
def lib_in.f (k : Nat) (a0 : Int) (l1 : List Int) : Option (Bool) := lib_in.l0 k a0 l1 (l1.length : Int) 0
theorem lib_in.mono_l : ∀ k, (∀ y0 y1 y2 y3, LeO (lib_in.l0 k y0 y1 y2 y3) (lib_in.l0 (k + 1) y0 y1 y2 y3))
  | 0 => fun _ _ _ _ r h => by simp [lib_in.l0] at h
  | k + 1 => by
    have ih0 := lib_in.mono_l k
    · intro y0 y1 y2 y3
      unfold lib_in.l0
      repeat' first
      | (with_reducible exact ih0 _ _ _ _)
      | (with_reducible exact LeO.refl _)
      | (with_reducible exact LeO.none _)
      | (with_reducible refine LeO.ite ?_ ?_)
      | (with_reducible refine LeO.bind ?_ (fun _ => ?_))
theorem lib_in.mono : ∀ a0 a1 k, LeO (lib_in.f k a0 a1) (lib_in.f (k + 1) a0 a1) := by
 intro a0 a1 k
 have ih0 := lib_in.mono_l k
 unfold lib_in.f
 repeat' first
     | (with_reducible exact ih0 _ _ _ _)
     | (with_reducible exact LeO.refl _)
     | (with_reducible exact LeO.none _)
     | (with_reducible refine LeO.ite ?_ ?_)
     | (with_reducible refine LeO.bind ?_ (fun _ => ?_))
set_option maxHeartbeats 8000000 in
set_option maxRecDepth 100000 in
theorem lib_in.calls (k : Nat) (a0 : Int) (A1 : Option Addr) (c1 : Nat) (l1 : List Int) (r : Bool) (w : World) (hr1 : Kd.C (Kd.int .i64) w A1 l1.length l1) (hc1 : l1.length ≤ c1) (h : lib_in.f k a0 l1 = some r) :
    Calls Tryd.prog 67 #[.int .i64 a0, .slice A1 l1.length c1] w fun e w' => e = .returned (.bool r) ∧ Drawn0 w w' := by
 have HR1 := Aside0.mk hr1
 clear hr1 hc1
 have H : (lib_in.l0 k a0 l1 (l1.length : Int) 0) = some r := h
 clear h
 have H' := Aside0.mk H
 clear H
 go_enter Tryd.func67, Tryd.ntmps67
 go_wp2
 go_loopg [9] k (fun kq v9 w' => ∃ (x9_1 : Int), v9 = .int .i64 x9_1 ∧ Aside0 (lib_in.l0 kq a0 l1 (l1.length : Int) x9_1 = some r) ∧ Aside0 (kq ≤ k) ∧ Drawn0 w w')
 case atStart => exact ⟨(0), (by first | rfl | (simp; done) | (simp [*]; done)), H', ⟨Nat.le_refl _⟩, by repeat (first | exact Drawn0.refl _ | apply Drawn0.step)⟩
 clear H'
 obtain ⟨x9_1, rfl, HA, HK1, ⟨m1, rfl⟩⟩ := hrel
 cases gk with
 | zero => exact absurd HA.out (by simp [lib_in.l0])
 | succ k1 =>
  have H := HA.out
  clear HA
  simp only [lib_in.l0] at H
  by_cases c3 : x9_1 < (l1.length : Int)
  rotate_left
  · rw [if_neg c3] at H
    have c3b0 : decide (x9_1 < (l1.length : Int)) = false := decide_eq_false c3
    clear c3
    obtain rfl := Option.some.inj H
    go_wp2
    go_ret
    exact ⟨by first | rfl | (simp; done) | (simp [*]; done), by repeat (first | exact Drawn0.refl _ | apply Drawn0.step)⟩
  rw [if_pos c3] at H
  have c3b0 : decide (x9_1 < (l1.length : Int)) = true := decide_eq_true c3
  clear c3
  by_cases c4 : 0 ≤ x9_1
  rotate_left
  · rw [if_neg c4] at H
    exact absurd H (by simp)
  rw [if_pos c4] at H
  have c4b0 : decide (0 ≤ x9_1) = true := decide_eq_true c4
  clear c4
  by_cases c5 : x9_1 < (l1.length : Int)
  rotate_left
  · rw [if_neg c5] at H
    exact absurd H (by simp)
  rw [if_pos c5] at H
  have c5b0 : decide (x9_1 < (l1.length : Int)) = true := decide_eq_true c5
  clear c5
  by_cases c6 : (rd l1 x9_1) < 0
  · rw [if_pos c6] at H
    have c6b0 : decide ((rd l1 x9_1) < 0) = true := decide_eq_true c6
    clear c6
    obtain rfl := Option.some.inj H
    have p302 : 0 ≤ (x9_1 : Int) := of_decide_eq_true (by first | (with_reducible assumption) | assumption)
    have q302 : x9_1 < (l1.length : Int) := of_decide_eq_true (by first | (with_reducible assumption) | assumption)
    obtain ⟨ad302, e302, hx302_0⟩ := Kd.at_int HR1.out x9_1 p302 q302
    cases e302
    replace p302 := eq_true p302
    replace q302 := eq_true q302
    go_wp2
    go_ret
    exact ⟨by first | rfl | (simp; done) | (simp [*]; done), by repeat (first | exact Drawn0.refl _ | apply Drawn0.step)⟩
  rw [if_neg c6] at H
  have c6b0 : decide ((rd l1 x9_1) < 0) = false := decide_eq_false c6
  clear c6
  by_cases c7 : (rd l1 x9_1) > a0
  · rw [if_pos c7] at H
    have c7b0 : decide (a0 < (rd l1 x9_1)) = true := decide_eq_true c7
    clear c7
    obtain rfl := Option.some.inj H
    have p302 : 0 ≤ (x9_1 : Int) := of_decide_eq_true (by first | (with_reducible assumption) | assumption)
    have q302 : x9_1 < (l1.length : Int) := of_decide_eq_true (by first | (with_reducible assumption) | assumption)
    obtain ⟨ad302, e302, hx302_0⟩ := Kd.at_int HR1.out x9_1 p302 q302
    cases e302
    replace p302 := eq_true p302
    replace q302 := eq_true q302
    go_wp2
    go_ret
    exact ⟨by first | rfl | (simp; done) | (simp [*]; done), by repeat (first | exact Drawn0.refl _ | apply Drawn0.step)⟩
  rw [if_neg c7] at H
  have c7b0 : decide (a0 < (rd l1 x9_1)) = false := decide_eq_false c7
  clear c7
  have H' := Aside0.mk H
  clear H
  have p302 : 0 ≤ (x9_1 : Int) := of_decide_eq_true (by first | (with_reducible assumption) | assumption)
  have q302 : x9_1 < (l1.length : Int) := of_decide_eq_true (by first | (with_reducible assumption) | assumption)
  obtain ⟨ad302, e302, hx302_0⟩ := Kd.at_int HR1.out x9_1 p302 q302
  cases e302
  replace p302 := eq_true p302
  replace q302 := eq_true q302
  go_wp2
  go_roundg k1
  case measure => have := HK1.out; omega
  case rel => exact ⟨(wrap64 (x9_1 + 1)), (by first | rfl | (simp; done) | (simp [*]; done)), H', ⟨by have := HK1.out; omega⟩, by repeat (first | exact Drawn0.refl _ | apply Drawn0.step)⟩

end Go.Proofs.YtpkpmdmmnhmnlaaDoor.PT
namespace Go.Proofs.YtpkpmdmmnhmnlaaDoor.PT
open Go.RowKit Go.Proofs.YtpkpmdmmnhmnlaaDoorW.PrintWords Go.Proofs.YtpkpmdmmnhmnlaaDoorW.PrintLast Go.Proofs.YtpkpmdmmnhmnlaaDoorW.PrintMore
attribute [local go_sem] max2_int min2_int max_two min_two max_three min_three max_four min_four   -- for this text's walks alone
set_option linter.unusedVariables false
set_option linter.unusedSimpArgs false

/-! ### lib_CheckCell: function 56 -/
mutual
def lib_CheckCell.j0 : Nat → Int → Int → Int → ByteArray → Bool → Int → Int → Int → List Int → List Int → List Int → Int → Int → Int → Option (Int)
 | 0, _, _, _, _, _, _, _, _, _, _, _, _, _, _ => none
 | k + 1, x3, x4, x5, x304000, x304001, x304002, x304003, x304004, x304005, x304006, x304007, x304008, x304009, x304010 => if x304002 < x3 then (lib_CheckCell.j1 k x4 x5 true x304000 x304001 x304002 x304003 x304004 x304005 x304006 x304007 x304008 x304009 x304010) else (if x304002 > 6 then (lib_CheckCell.j1 k x4 x5 true x304000 x304001 x304002 x304003 x304004 x304005 x304006 x304007 x304008 x304009 x304010) else (if x304001 = true then (lib_CheckCell.j1 k x4 x5 (decide (x304002 > 2)) x304000 x304001 x304002 x304003 x304004 x304005 x304006 x304007 x304008 x304009 x304010) else (lib_CheckCell.j1 k x4 x5 false x304000 x304001 x304002 x304003 x304004 x304005 x304006 x304007 x304008 x304009 x304010)))
def lib_CheckCell.j6 : Nat → ByteArray → Bool → Int → Int → Int → List Int → List Int → List Int → Int → Int → Int → Option (Int)
 | 0, _, _, _, _, _, _, _, _, _, _, _ => none
 | k + 1, x304000, x304001, x304002, x304003, x304004, x304005, x304006, x304007, x304008, x304009, x304010 => lib_CheckCell.l0 k (x304006.length : Int) 0 x304000 x304001 x304002 x304003 x304004 x304005 x304006 x304007 x304008 x304009 x304010
def lib_CheckCell.l0 : Nat → Int → Int → ByteArray → Bool → Int → Int → Int → List Int → List Int → List Int → Int → Int → Int → Option (Int)
 | 0, _, _, _, _, _, _, _, _, _, _, _, _, _ => none
 | k + 1, x136, x137, x304000, x304001, x304002, x304003, x304004, x304005, x304006, x304007, x304008, x304009, x304010 => if x137 < x136 then (if 0 ≤ x137 then (if x137 < (x304006.length : Int) then (if x137 < (x304007.length : Int) then (if (rd x304006 x137) > (rd x304007 x137) then (some 5) else (lib_CheckCell.l0 k x136 (wrap64 (x137 + 1)) x304000 x304001 x304002 x304003 x304004 x304005 x304006 x304007 x304008 x304009 x304010)) else (none)) else (none)) else (none)) else (some 0)
def lib_CheckCell.j1 : Nat → Int → Int → Bool → ByteArray → Bool → Int → Int → Int → List Int → List Int → List Int → Int → Int → Int → Option (Int)
 | 0, _, _, _, _, _, _, _, _, _, _, _, _, _, _ => none
 | k + 1, x4, x5, x20, x304000, x304001, x304002, x304003, x304004, x304005, x304006, x304007, x304008, x304009, x304010 => if x20 = true then (some 2) else (if (x304005.length : Int) = x4 then (if (x304006.length : Int) = x5 then (lib_CheckCell.j2 k ((x304007.length : Int) != x5) x304000 x304001 x304002 x304003 x304004 x304005 x304006 x304007 x304008 x304009 x304010) else (lib_CheckCell.j2 k true x304000 x304001 x304002 x304003 x304004 x304005 x304006 x304007 x304008 x304009 x304010)) else (lib_CheckCell.j2 k true x304000 x304001 x304002 x304003 x304004 x304005 x304006 x304007 x304008 x304009 x304010))
def lib_CheckCell.j2 : Nat → Bool → ByteArray → Bool → Int → Int → Int → List Int → List Int → List Int → Int → Int → Int → Option (Int)
 | 0, _, _, _, _, _, _, _, _, _, _, _, _ => none
 | k + 1, x39, x304000, x304001, x304002, x304003, x304004, x304005, x304006, x304007, x304008, x304009, x304010 => if x39 = true then (some 4) else (if x304001 = true then (if x304003 = 0 then ((netlist_Mask.f x304002).bind fun t305 => (lib_CheckCell.j3 k ((Go.bits .andNot .u64 x304003 t305) != 0) x304000 x304001 x304002 x304003 x304004 x304005 x304006 x304007 x304008 x304009 x304010)) else (lib_CheckCell.j3 k true x304000 x304001 x304002 x304003 x304004 x304005 x304006 x304007 x304008 x304009 x304010)) else ((netlist_Mask.f x304002).bind fun t306 => (lib_CheckCell.j3 k ((Go.bits .andNot .u64 x304003 t306) != 0) x304000 x304001 x304002 x304003 x304004 x304005 x304006 x304007 x304008 x304009 x304010)))
def lib_CheckCell.j3 : Nat → Bool → ByteArray → Bool → Int → Int → Int → List Int → List Int → List Int → Int → Int → Int → Option (Int)
 | 0, _, _, _, _, _, _, _, _, _, _, _, _ => none
 | k + 1, x59, x304000, x304001, x304002, x304003, x304004, x304005, x304006, x304007, x304008, x304009, x304010 => if x59 = true then (some 4) else ((lib_in.f k 64 (([x304004] : List Int))).bind fun t310 => (if t310 = true then (if x304004 = 0 then (lib_CheckCell.j4 k true x304000 x304001 x304002 x304003 x304004 x304005 x304006 x304007 x304008 x304009 x304010) else ((lib_in.f k 1000 x304005).bind fun t311 => (if t311 = true then ((lib_in.f k 1000 (([x304008] : List Int))).bind fun t315 => (lib_CheckCell.j4 k (!t315) x304000 x304001 x304002 x304003 x304004 x304005 x304006 x304007 x304008 x304009 x304010)) else (lib_CheckCell.j4 k true x304000 x304001 x304002 x304003 x304004 x304005 x304006 x304007 x304008 x304009 x304010)))) else (lib_CheckCell.j4 k true x304000 x304001 x304002 x304003 x304004 x304005 x304006 x304007 x304008 x304009 x304010)))
def lib_CheckCell.j4 : Nat → Bool → ByteArray → Bool → Int → Int → Int → List Int → List Int → List Int → Int → Int → Int → Option (Int)
 | 0, _, _, _, _, _, _, _, _, _, _, _, _ => none
 | k + 1, x76, x304000, x304001, x304002, x304003, x304004, x304005, x304006, x304007, x304008, x304009, x304010 => if x76 = true then (some 2) else ((lib_in.f k 10000 x304006).bind fun t316 => (if t316 = true then ((lib_in.f k 10000 x304007).bind fun t317 => (if t317 = true then ((lib_in.f k 10000 (([x304009, x304010] : List Int))).bind fun t321 => (lib_CheckCell.j5 k (!t321) x304000 x304001 x304002 x304003 x304004 x304005 x304006 x304007 x304008 x304009 x304010)) else (lib_CheckCell.j5 k true x304000 x304001 x304002 x304003 x304004 x304005 x304006 x304007 x304008 x304009 x304010))) else (lib_CheckCell.j5 k true x304000 x304001 x304002 x304003 x304004 x304005 x304006 x304007 x304008 x304009 x304010)))
def lib_CheckCell.j5 : Nat → Bool → ByteArray → Bool → Int → Int → Int → List Int → List Int → List Int → Int → Int → Int → Option (Int)
 | 0, _, _, _, _, _, _, _, _, _, _, _, _ => none
 | k + 1, x100, x304000, x304001, x304002, x304003, x304004, x304005, x304006, x304007, x304008, x304009, x304010 => if x100 = true then (some 2) else (if x304001 = true then (lib_CheckCell.j6 k x304000 x304001 x304002 x304003 x304004 x304005 x304006 x304007 x304008 x304009 x304010) else (if x304009 = 0 then (if x304010 = 0 then (lib_CheckCell.j6 k x304000 x304001 x304002 x304003 x304004 x304005 x304006 x304007 x304008 x304009 x304010) else (some 4)) else (some 4)))
end
def lib_CheckCell.f (k : Nat) (a0_0 : ByteArray) (a0_1 : Bool) (a0_2 : Int) (a0_3 : Int) (a0_4 : Int) (l0_5 : List Int) (l0_6 : List Int) (l0_7 : List Int) (a0_8 : Int) (a0_9 : Int) (a0_10 : Int) : Option (Int) := (lib_Name.f a0_0).bind fun t304 => (if t304 = true then (if a0_1 = true then (lib_CheckCell.j0 k 1 (wrap64 (a0_2 + 1)) 1 a0_0 a0_1 a0_2 a0_3 a0_4 l0_5 l0_6 l0_7 a0_8 a0_9 a0_10) else (lib_CheckCell.j0 k 0 a0_2 a0_2 a0_0 a0_1 a0_2 a0_3 a0_4 l0_5 l0_6 l0_7 a0_8 a0_9 a0_10)) else (some 9))
theorem lib_CheckCell.mono_l : ∀ k, (∀ y0 y1 y2 y3 y4 y5 y6 y7 y8 y9 y10 y11 y12 y13, LeO (lib_CheckCell.j0 k y0 y1 y2 y3 y4 y5 y6 y7 y8 y9 y10 y11 y12 y13) (lib_CheckCell.j0 (k + 1) y0 y1 y2 y3 y4 y5 y6 y7 y8 y9 y10 y11 y12 y13)) ∧ (∀ y0 y1 y2 y3 y4 y5 y6 y7 y8 y9 y10, LeO (lib_CheckCell.j6 k y0 y1 y2 y3 y4 y5 y6 y7 y8 y9 y10) (lib_CheckCell.j6 (k + 1) y0 y1 y2 y3 y4 y5 y6 y7 y8 y9 y10)) ∧ (∀ y0 y1 y2 y3 y4 y5 y6 y7 y8 y9 y10 y11 y12, LeO (lib_CheckCell.l0 k y0 y1 y2 y3 y4 y5 y6 y7 y8 y9 y10 y11 y12) (lib_CheckCell.l0 (k + 1) y0 y1 y2 y3 y4 y5 y6 y7 y8 y9 y10 y11 y12)) ∧ (∀ y0 y1 y2 y3 y4 y5 y6 y7 y8 y9 y10 y11 y12 y13, LeO (lib_CheckCell.j1 k y0 y1 y2 y3 y4 y5 y6 y7 y8 y9 y10 y11 y12 y13) (lib_CheckCell.j1 (k + 1) y0 y1 y2 y3 y4 y5 y6 y7 y8 y9 y10 y11 y12 y13)) ∧ (∀ y0 y1 y2 y3 y4 y5 y6 y7 y8 y9 y10 y11, LeO (lib_CheckCell.j2 k y0 y1 y2 y3 y4 y5 y6 y7 y8 y9 y10 y11) (lib_CheckCell.j2 (k + 1) y0 y1 y2 y3 y4 y5 y6 y7 y8 y9 y10 y11)) ∧ (∀ y0 y1 y2 y3 y4 y5 y6 y7 y8 y9 y10 y11, LeO (lib_CheckCell.j3 k y0 y1 y2 y3 y4 y5 y6 y7 y8 y9 y10 y11) (lib_CheckCell.j3 (k + 1) y0 y1 y2 y3 y4 y5 y6 y7 y8 y9 y10 y11)) ∧ (∀ y0 y1 y2 y3 y4 y5 y6 y7 y8 y9 y10 y11, LeO (lib_CheckCell.j4 k y0 y1 y2 y3 y4 y5 y6 y7 y8 y9 y10 y11) (lib_CheckCell.j4 (k + 1) y0 y1 y2 y3 y4 y5 y6 y7 y8 y9 y10 y11)) ∧ (∀ y0 y1 y2 y3 y4 y5 y6 y7 y8 y9 y10 y11, LeO (lib_CheckCell.j5 k y0 y1 y2 y3 y4 y5 y6 y7 y8 y9 y10 y11) (lib_CheckCell.j5 (k + 1) y0 y1 y2 y3 y4 y5 y6 y7 y8 y9 y10 y11))
 | 0 => ⟨fun _ _ _ _ _ _ _ _ _ _ _ _ _ _ r h => by simp [lib_CheckCell.j0] at h, fun _ _ _ _ _ _ _ _ _ _ _ r h => by simp [lib_CheckCell.j6] at h, fun _ _ _ _ _ _ _ _ _ _ _ _ _ r h => by simp [lib_CheckCell.l0] at h, fun _ _ _ _ _ _ _ _ _ _ _ _ _ _ r h => by simp [lib_CheckCell.j1] at h, fun _ _ _ _ _ _ _ _ _ _ _ _ r h => by simp [lib_CheckCell.j2] at h, fun _ _ _ _ _ _ _ _ _ _ _ _ r h => by simp [lib_CheckCell.j3] at h, fun _ _ _ _ _ _ _ _ _ _ _ _ r h => by simp [lib_CheckCell.j4] at h, fun _ _ _ _ _ _ _ _ _ _ _ _ r h => by simp [lib_CheckCell.j5] at h⟩
 | k + 1 => by
  obtain ⟨ih0, ih1, ih2, ih3, ih4, ih5, ih6, ih7⟩ := lib_CheckCell.mono_l k
  refine ⟨?_, ?_, ?_, ?_, ?_, ?_, ?_, ?_⟩
  · intro y0 y1 y2 y3 y4 y5 y6 y7 y8 y9 y10 y11 y12 y13
    unfold lib_CheckCell.j0
    repeat' first
    | (with_reducible exact ih3 _ _ _ _ _ _ _ _ _ _ _ _ _ _)
    | (with_reducible exact LeO.refl _)
    | (with_reducible exact LeO.none _)
    | (with_reducible refine LeO.ite ?_ ?_)
    | (with_reducible refine LeO.bind ?_ (fun _ => ?_))
  · intro y0 y1 y2 y3 y4 y5 y6 y7 y8 y9 y10
    unfold lib_CheckCell.j6
    repeat' first
    | (with_reducible exact ih2 _ _ _ _ _ _ _ _ _ _ _ _ _)
    | (with_reducible exact LeO.refl _)
    | (with_reducible exact LeO.none _)
    | (with_reducible refine LeO.ite ?_ ?_)
    | (with_reducible refine LeO.bind ?_ (fun _ => ?_))
  · intro y0 y1 y2 y3 y4 y5 y6 y7 y8 y9 y10 y11 y12
    unfold lib_CheckCell.l0
    repeat' first
    | (with_reducible exact ih2 _ _ _ _ _ _ _ _ _ _ _ _ _)
    | (with_reducible exact LeO.refl _)
    | (with_reducible exact LeO.none _)
    | (with_reducible refine LeO.ite ?_ ?_)
    | (with_reducible refine LeO.bind ?_ (fun _ => ?_))
  · intro y0 y1 y2 y3 y4 y5 y6 y7 y8 y9 y10 y11 y12 y13
    unfold lib_CheckCell.j1
    repeat' first
    | (with_reducible exact ih4 _ _ _ _ _ _ _ _ _ _ _ _)
    | (with_reducible exact LeO.refl _)
    | (with_reducible exact LeO.none _)
    | (with_reducible refine LeO.ite ?_ ?_)
    | (with_reducible refine LeO.bind ?_ (fun _ => ?_))
  · intro y0 y1 y2 y3 y4 y5 y6 y7 y8 y9 y10 y11
    unfold lib_CheckCell.j2
    repeat' first
    | (with_reducible exact ih5 _ _ _ _ _ _ _ _ _ _ _ _)
    | (with_reducible exact LeO.refl _)
    | (with_reducible exact LeO.none _)
    | (with_reducible refine LeO.ite ?_ ?_)
    | (with_reducible refine LeO.bind ?_ (fun _ => ?_))
  · intro y0 y1 y2 y3 y4 y5 y6 y7 y8 y9 y10 y11
    unfold lib_CheckCell.j3
    repeat' first
    | (with_reducible exact ih6 _ _ _ _ _ _ _ _ _ _ _ _)
    | (with_reducible exact lib_in.mono _ _ _)
    | (with_reducible exact LeO.refl _)
    | (with_reducible exact LeO.none _)
    | (with_reducible refine LeO.ite ?_ ?_)
    | (with_reducible refine LeO.bind ?_ (fun _ => ?_))
  · intro y0 y1 y2 y3 y4 y5 y6 y7 y8 y9 y10 y11
    unfold lib_CheckCell.j4
    repeat' first
    | (with_reducible exact ih7 _ _ _ _ _ _ _ _ _ _ _ _)
    | (with_reducible exact lib_in.mono _ _ _)
    | (with_reducible exact LeO.refl _)
    | (with_reducible exact LeO.none _)
    | (with_reducible refine LeO.ite ?_ ?_)
    | (with_reducible refine LeO.bind ?_ (fun _ => ?_))
  · intro y0 y1 y2 y3 y4 y5 y6 y7 y8 y9 y10 y11
    unfold lib_CheckCell.j5
    repeat' first
    | (with_reducible exact ih1 _ _ _ _ _ _ _ _ _ _ _)
    | (with_reducible exact LeO.refl _)
    | (with_reducible exact LeO.none _)
    | (with_reducible refine LeO.ite ?_ ?_)
    | (with_reducible refine LeO.bind ?_ (fun _ => ?_))
theorem lib_CheckCell.mono : ∀ a0 a1 a2 a3 a4 a5 a6 a7 a8 a9 a10 k, LeO (lib_CheckCell.f k a0 a1 a2 a3 a4 a5 a6 a7 a8 a9 a10) (lib_CheckCell.f (k + 1) a0 a1 a2 a3 a4 a5 a6 a7 a8 a9 a10) := by
 intro a0 a1 a2 a3 a4 a5 a6 a7 a8 a9 a10 k
 obtain ⟨ih0, ih1, ih2, ih3, ih4, ih5, ih6, ih7⟩ := lib_CheckCell.mono_l k
 unfold lib_CheckCell.f
 repeat' first
  | (with_reducible exact ih0 _ _ _ _ _ _ _ _ _ _ _ _ _ _)
  | (with_reducible exact LeO.refl _)
  | (with_reducible exact LeO.none _)
  | (with_reducible refine LeO.ite ?_ ?_)
  | (with_reducible refine LeO.bind ?_ (fun _ => ?_))
set_option maxHeartbeats 8000000 in
set_option maxRecDepth 100000 in
theorem lib_CheckCell.calls (k : Nat) (a0_0 : ByteArray) (a0_1 : Bool) (a0_2 : Int) (a0_3 : Int) (a0_4 : Int) (A0_5 : Option Addr) (c0_5 : Nat) (l0_5 : List Int) (A0_6 : Option Addr) (c0_6 : Nat) (l0_6 : List Int) (A0_7 : Option Addr) (c0_7 : Nat) (l0_7 : List Int) (a0_8 : Int) (a0_9 : Int) (a0_10 : Int) (r : Int) (w : World) (hr0_5 : Kd.C (Kd.int .i64) w A0_5 l0_5.length l0_5) (hc0_5 : l0_5.length ≤ c0_5) (hr0_6 : Kd.C (Kd.int .i64) w A0_6 l0_6.length l0_6) (hc0_6 : l0_6.length ≤ c0_6) (hr0_7 : Kd.C (Kd.int .i64) w A0_7 l0_7.length l0_7) (hc0_7 : l0_7.length ≤ c0_7) (h : lib_CheckCell.f k a0_0 a0_1 a0_2 a0_3 a0_4 l0_5 l0_6 l0_7 a0_8 a0_9 a0_10 = some r) :
 Calls Tryd.prog 56 #[.agg #[.string a0_0, .bool a0_1, .int .i64 a0_2, .int .u64 a0_3, .int .i64 a0_4, .slice A0_5 l0_5.length c0_5, .slice A0_6 l0_6.length c0_6, .slice A0_7 l0_7.length c0_7, .int .i64 a0_8, .int .i64 a0_9, .int .i64 a0_10]] w fun e w' => e = .returned (.int .i64 r) ∧ Below w.heap.size w w' := by
 have HR0_5 := Aside0.mk hr0_5
 have HC0_5 := Aside0.mk hc0_5
 clear hr0_5 hc0_5
 have HR0_6 := Aside0.mk hr0_6
 have HC0_6 := Aside0.mk hc0_6
 clear hr0_6 hc0_6
 have HR0_7 := Aside0.mk hr0_7
 have HC0_7 := Aside0.mk hc0_7
 clear hr0_7 hc0_7
 have HB := Aside0.mk (Below.refl w.heap.size w)
 have H : ((lib_Name.f a0_0).bind fun t304 => (if t304 = true then (if a0_1 = true then (lib_CheckCell.j0 k 1 (wrap64 (a0_2 + 1)) 1 a0_0 a0_1 a0_2 a0_3 a0_4 l0_5 l0_6 l0_7 a0_8 a0_9 a0_10) else (lib_CheckCell.j0 k 0 a0_2 a0_2 a0_0 a0_1 a0_2 a0_3 a0_4 l0_5 l0_6 l0_7 a0_8 a0_9 a0_10)) else (some 9))) = some r := h
 clear h
 replace H := Option.bind_eq_some_iff.mp H
 obtain ⟨t304, A20, H⟩ := H
 replace H : (if t304 = true then (if a0_1 = true then (lib_CheckCell.j0 k 1 (wrap64 (a0_2 + 1)) 1 a0_0 a0_1 a0_2 a0_3 a0_4 l0_5 l0_6 l0_7 a0_8 a0_9 a0_10) else (lib_CheckCell.j0 k 0 a0_2 a0_2 a0_0 a0_1 a0_2 a0_3 a0_4 l0_5 l0_6 l0_7 a0_8 a0_9 a0_10)) else (some 9)) = some r := H
 have A2 := Aside0.mk A20
 clear A20
 by_cases c3 : t304 = true
 rotate_left
 · replace c3 := Bool.eq_false_iff.mpr c3
   subst c3
   have H1 : (some 9) = some r := by rw [if_neg (show ¬ (false = true) by decide)] at H; exact H
   clear H
   have H := H1
   clear H1
   obtain rfl := Option.some.inj H
   go_enter Tryd.func56, Tryd.ntmps56
   go_wp2_with (first | ((with_reducible refine gate_dst (N := 1) rfl ?_); (try (refine gate_guard (by rfl) ?_; dsimp only)); refine box_event ?hg (N := 1) ?hd (cs := #[.string a0_0, .bool a0_1, .int .i64 a0_2, .int .u64 a0_3, .int .i64 a0_4, .slice A0_5 l0_5.length c0_5, .slice A0_6 l0_6.length c0_6, .slice A0_7 l0_7.length c0_7, .int .i64 a0_8, .int .i64 a0_9, .int .i64 a0_10]) (t := 48) ?hr ?_; (case hd => rfl); (case hg => rfl); (case hr => first | (go_simp; done) | (go_simp; rfl)); intro gb303 hg w95 hbox hb; have BK303 := Aside0.mk (hbox); replace HB := Aside0.mk (below_step bl hb); clear hb hbox hg; obtain ⟨hcz96_0, hcz96_1, hcz96_2, hcz96_3, hcz96_4, hcz96_5, hcz96_6, hcz96_7, hcz96_8, hcz96_9, hcz96_10, hfz96_0, hfz96_1, hfz96_2, hfz96_3, hfz96_4, hfz96_5, hfz96_6, hfz96_7, hfz96_8, hfz96_9, hfz96_10⟩ := bz11 BK303.out) | (go_at_call 66; (with_reducible refine (lib_Name.calls a0_0 false _ A2.out).mono ?_); rintro e w97 ⟨rfl, hb⟩; replace BK303 := Aside0.mk (bb BK303.out hb); replace HB := Aside0.mk (below_step bl hb); (try clear hb)))
   repeat (go_quiet (fail); try go_wp2_with fail)
   go_ret
   exact ⟨by first | rfl | (simp [errW_none, errW_some] <;> rfl) | (simp [*, errW_none, errW_some] <;> rfl), bl⟩
 subst c3
 have H1 : (if a0_1 = true then (lib_CheckCell.j0 k 1 (wrap64 (a0_2 + 1)) 1 a0_0 a0_1 a0_2 a0_3 a0_4 l0_5 l0_6 l0_7 a0_8 a0_9 a0_10) else (lib_CheckCell.j0 k 0 a0_2 a0_2 a0_0 a0_1 a0_2 a0_3 a0_4 l0_5 l0_6 l0_7 a0_8 a0_9 a0_10)) = some r := by rw [if_pos rfl] at H; exact H
 clear H
 have H := H1
 clear H1
 have HC4 := Aside0.mk H
 clear H
 go_enter Tryd.func56, Tryd.ntmps56
 go_upto_if 16 with (first | ((with_reducible refine gate_dst (N := 1) rfl ?_); (try (refine gate_guard (by rfl) ?_; dsimp only)); refine box_event ?hg (N := 1) ?hd (cs := #[.string a0_0, .bool a0_1, .int .i64 a0_2, .int .u64 a0_3, .int .i64 a0_4, .slice A0_5 l0_5.length c0_5, .slice A0_6 l0_6.length c0_6, .slice A0_7 l0_7.length c0_7, .int .i64 a0_8, .int .i64 a0_9, .int .i64 a0_10]) (t := 48) ?hr ?_; (case hd => rfl); (case hg => rfl); (case hr => first | (go_simp; done) | (go_simp; rfl)); intro gb303 hg w5 hbox hb; have BK303 := Aside0.mk (hbox); replace HB := Aside0.mk (below_step bl hb); clear hb hbox hg; obtain ⟨hcz6_0, hcz6_1, hcz6_2, hcz6_3, hcz6_4, hcz6_5, hcz6_6, hcz6_7, hcz6_8, hcz6_9, hcz6_10, hfz6_0, hfz6_1, hfz6_2, hfz6_3, hfz6_4, hfz6_5, hfz6_6, hfz6_7, hfz6_8, hfz6_9, hfz6_10⟩ := bz11 BK303.out) | (go_at_call 66; (with_reducible refine (lib_Name.calls a0_0 true _ A2.out).mono ?_); rintro e w7 ⟨rfl, hb⟩; replace BK303 := Aside0.mk (bb BK303.out hb); replace HB := Aside0.mk (below_step bl hb); (try clear hb); obtain ⟨hcz8_0, hcz8_1, hcz8_2, hcz8_3, hcz8_4, hcz8_5, hcz8_6, hcz8_7, hcz8_8, hcz8_9, hcz8_10, hfz8_0, hfz8_1, hfz8_2, hfz8_3, hfz8_4, hfz8_5, hfz8_6, hfz8_7, hfz8_8, hfz8_9, hfz8_10⟩ := bz11 BK303.out))
 repeat (go_quiet (fail); go_upto_if 16 with (fail))
 (try simp only [Act.put, List.setIfInBounds_toArray, List.set_cons_zero, List.set_cons_succ])
 go_cut [3, 4, 5] (fun v3 v4 v5 wc => ∃ (kq : Nat) (x3_3 : Int) (x4_3 : Int) (x5_3 : Int), v3 = .int .i64 x3_3 ∧ v4 = .int .i64 x4_3 ∧ v5 = .int .i64 x5_3 ∧ Aside0 (lib_CheckCell.j0 kq x3_3 x4_3 x5_3 a0_0 a0_1 a0_2 a0_3 a0_4 l0_5 l0_6 l0_7 a0_8 a0_9 a0_10 = some r) ∧ Aside0 (kq ≤ k) ∧ Aside0 (wc.heap[gb303]? = some (.cells #[.string a0_0, .bool a0_1, .int .i64 a0_2, .int .u64 a0_3, .int .i64 a0_4, (.slice A0_5 l0_5.length c0_5), (.slice A0_6 l0_6.length c0_6), (.slice A0_7 l0_7.length c0_7), .int .i64 a0_8, .int .i64 a0_9, .int .i64 a0_10] 48 (0, 0))) ∧ Aside0 (Below w.heap.size w wc))
 case first =>
  have H := HC4.out
  clear HC4
  by_cases c9 : a0_1 = true
  · subst c9
    have H1 : (lib_CheckCell.j0 k 1 (wrap64 (a0_2 + 1)) 1 a0_0 true a0_2 a0_3 a0_4 l0_5 l0_6 l0_7 a0_8 a0_9 a0_10) = some r := by rw [if_pos rfl] at H; exact H
    clear H
    have H := H1
    clear H1
    have H' := Aside0.mk H
    clear H
    obtain ⟨hcz10_0, hcz10_1, hcz10_2, hcz10_3, hcz10_4, hcz10_5, hcz10_6, hcz10_7, hcz10_8, hcz10_9, hcz10_10, hfz10_0, hfz10_1, hfz10_2, hfz10_3, hfz10_4, hfz10_5, hfz10_6, hfz10_7, hfz10_8, hfz10_9, hfz10_10⟩ := bz11 BK303.out
    go_wp2
    repeat (go_quiet (fail); try go_wp2)
    go_meet
    case rel => exact ⟨_, (1), (wrap64 (a0_2 + 1)), (1), (by first | rfl | (simp; done) | (simp [*]; done)), (by first | rfl | (simp; done) | (simp [*]; done)), (by first | rfl | (simp; done) | (simp [*]; done)), H', ⟨by first | omega | exact Nat.le_refl _⟩, ⟨bk BK303.out⟩, ⟨bl⟩⟩
  replace c9 := Bool.eq_false_iff.mpr c9
  subst c9
  have H1 : (lib_CheckCell.j0 k 0 a0_2 a0_2 a0_0 false a0_2 a0_3 a0_4 l0_5 l0_6 l0_7 a0_8 a0_9 a0_10) = some r := by rw [if_neg (show ¬ (false = true) by decide)] at H; exact H
  clear H
  have H := H1
  clear H1
  have H' := Aside0.mk H
  clear H
  go_wp2
  repeat (go_quiet (fail); try go_wp2)
  go_meet
  case rel => exact ⟨_, (0), (a0_2), (a0_2), (by first | rfl | (simp; done) | (simp [*]; done)), (by first | rfl | (simp; done) | (simp [*]; done)), (by first | rfl | (simp; done) | (simp [*]; done)), H', ⟨by first | omega | exact Nat.le_refl _⟩, ⟨bk BK303.out⟩, ⟨bl⟩⟩
 clear HC4
 clear hcz6_0 hcz6_1 hcz6_10 hcz6_2 hcz6_3 hcz6_4 hcz6_5 hcz6_6 hcz6_7 hcz6_8 hcz6_9 hcz8_0 hcz8_1 hcz8_10 hcz8_2 hcz8_3 hcz8_4 hcz8_5 hcz8_6 hcz8_7 hcz8_8 hcz8_9 hfz6_0 hfz6_1 hfz6_10 hfz6_2 hfz6_3 hfz6_4 hfz6_5 hfz6_6 hfz6_7 hfz6_8 hfz6_9 hfz8_0 hfz8_1 hfz8_10 hfz8_2 hfz8_3 hfz8_4 hfz8_5 hfz8_6 hfz8_7 hfz8_8 hfz8_9
 obtain ⟨kq, x3_3, x4_3, x5_3, rfl, rfl, rfl, HA, HJ3, BK303, HB⟩ := hcut
 cases kq with
 | zero => exact absurd HA.out (by simp [lib_CheckCell.j0])
 | succ kj3 =>
  have H := HA.out
  clear HA
  simp only [lib_CheckCell.j0] at H
  have HC11 := Aside0.mk H
  clear H
  go_upto_block 0 with (fail)
  repeat (go_quiet (fail); go_upto_block 0 with (fail))
  go_cut [] (fun wc => ∃ (kq : Nat), Aside0 (lib_CheckCell.j6 kq a0_0 a0_1 a0_2 a0_3 a0_4 l0_5 l0_6 l0_7 a0_8 a0_9 a0_10 = some r) ∧ Aside0 (kq ≤ kj3) ∧ Aside0 (wc.heap[gb303]? = some (.cells #[.string a0_0, .bool a0_1, .int .i64 a0_2, .int .u64 a0_3, .int .i64 a0_4, (.slice A0_5 l0_5.length c0_5), (.slice A0_6 l0_6.length c0_6), (.slice A0_7 l0_7.length c0_7), .int .i64 a0_8, .int .i64 a0_9, .int .i64 a0_10] 48 (0, 0))) ∧ Aside0 (Below w.heap.size w wc))
  case first =>
   have H := HC11.out
   clear HC11
   have HC12 := Aside0.mk H
   clear H
   go_upto_region 6 with (fail)
   repeat (go_quiet (fail); go_upto_region 6 with (fail))
   go_cut [20] (fun v20 wc => ∃ (kq : Nat) (x20_11 : Bool), v20 = .bool x20_11 ∧ Aside0 (lib_CheckCell.j1 kq x4_3 x5_3 x20_11 a0_0 a0_1 a0_2 a0_3 a0_4 l0_5 l0_6 l0_7 a0_8 a0_9 a0_10 = some r) ∧ Aside0 (kq ≤ kj3) ∧ Aside0 (wc.heap[gb303]? = some (.cells #[.string a0_0, .bool a0_1, .int .i64 a0_2, .int .u64 a0_3, .int .i64 a0_4, (.slice A0_5 l0_5.length c0_5), (.slice A0_6 l0_6.length c0_6), (.slice A0_7 l0_7.length c0_7), .int .i64 a0_8, .int .i64 a0_9, .int .i64 a0_10] 48 (0, 0))) ∧ Aside0 (Below w.heap.size w wc))
   case first =>
    have H := HC12.out
    clear HC12
    by_cases c13 : a0_2 < x3_3
    · rw [if_pos c13] at H
      have c13b0 : decide (a0_2 < x3_3) = true := decide_eq_true c13
      clear c13
      (first | rw [c13b0] | (simp only [i64_w, i32_w]; rw [c13b0]) | skip)
      have H' := Aside0.mk H
      clear H
      obtain ⟨hcz14_0, hcz14_1, hcz14_2, hcz14_3, hcz14_4, hcz14_5, hcz14_6, hcz14_7, hcz14_8, hcz14_9, hcz14_10, hfz14_0, hfz14_1, hfz14_2, hfz14_3, hfz14_4, hfz14_5, hfz14_6, hfz14_7, hfz14_8, hfz14_9, hfz14_10⟩ := bz11 BK303.out
      go_wp2
      repeat (go_quiet (fail); try go_wp2)
      go_meet
      case rel => exact ⟨_, (true), (by first | rfl | (simp; done) | (simp [*]; done)), H', ⟨by have := HJ3.out; first | omega | exact Nat.le_refl _⟩, ⟨bk BK303.out⟩, ⟨bl⟩⟩
    rw [if_neg c13] at H
    have c13b0 : decide (a0_2 < x3_3) = false := decide_eq_false c13
    clear c13
    (first | rw [c13b0] | (simp only [i64_w, i32_w]; rw [c13b0]) | skip)
    by_cases c15 : a0_2 > 6
    · rw [if_pos c15] at H
      have c15b0 : decide (6 < a0_2) = true := decide_eq_true c15
      clear c15
      have H' := Aside0.mk H
      clear H
      obtain ⟨hcz16_0, hcz16_1, hcz16_2, hcz16_3, hcz16_4, hcz16_5, hcz16_6, hcz16_7, hcz16_8, hcz16_9, hcz16_10, hfz16_0, hfz16_1, hfz16_2, hfz16_3, hfz16_4, hfz16_5, hfz16_6, hfz16_7, hfz16_8, hfz16_9, hfz16_10⟩ := bz11 BK303.out
      go_wp2
      repeat (go_quiet (fail); try go_wp2)
      go_meet
      case rel => exact ⟨_, (true), (by first | rfl | (simp; done) | (simp [*]; done)), H', ⟨by have := HJ3.out; first | omega | exact Nat.le_refl _⟩, ⟨bk BK303.out⟩, ⟨bl⟩⟩
    rw [if_neg c15] at H
    have c15b0 : decide (6 < a0_2) = false := decide_eq_false c15
    clear c15
    by_cases c17 : a0_1 = true
    · subst c17
      have H1 : (lib_CheckCell.j1 kj3 x4_3 x5_3 (decide (a0_2 > 2)) a0_0 true a0_2 a0_3 a0_4 l0_5 l0_6 l0_7 a0_8 a0_9 a0_10) = some r := by rw [if_pos rfl] at H; exact H
      clear H
      have H := H1
      clear H1
      have H' := Aside0.mk H
      clear H
      obtain ⟨hcz18_0, hcz18_1, hcz18_2, hcz18_3, hcz18_4, hcz18_5, hcz18_6, hcz18_7, hcz18_8, hcz18_9, hcz18_10, hfz18_0, hfz18_1, hfz18_2, hfz18_3, hfz18_4, hfz18_5, hfz18_6, hfz18_7, hfz18_8, hfz18_9, hfz18_10⟩ := bz11 BK303.out
      go_wp2
      repeat (go_quiet (fail); try go_wp2)
      go_meet
      case rel => exact ⟨_, (decide (a0_2 > 2)), (by first | rfl | (simp; done) | (simp [*]; done)), H', ⟨by have := HJ3.out; first | omega | exact Nat.le_refl _⟩, ⟨bk BK303.out⟩, ⟨bl⟩⟩
    replace c17 := Bool.eq_false_iff.mpr c17
    subst c17
    have H1 : (lib_CheckCell.j1 kj3 x4_3 x5_3 false a0_0 false a0_2 a0_3 a0_4 l0_5 l0_6 l0_7 a0_8 a0_9 a0_10) = some r := by rw [if_neg (show ¬ (false = true) by decide)] at H; exact H
    clear H
    have H := H1
    clear H1
    have H' := Aside0.mk H
    clear H
    obtain ⟨hcz19_0, hcz19_1, hcz19_2, hcz19_3, hcz19_4, hcz19_5, hcz19_6, hcz19_7, hcz19_8, hcz19_9, hcz19_10, hfz19_0, hfz19_1, hfz19_2, hfz19_3, hfz19_4, hfz19_5, hfz19_6, hfz19_7, hfz19_8, hfz19_9, hfz19_10⟩ := bz11 BK303.out
    go_wp2
    repeat (go_quiet (fail); try go_wp2)
    go_meet
    case rel => exact ⟨_, (false), (by first | rfl | (simp; done) | (simp [*]; done)), H', ⟨by have := HJ3.out; first | omega | exact Nat.le_refl _⟩, ⟨bk BK303.out⟩, ⟨bl⟩⟩
   clear HC12
   obtain ⟨kq, x20_11, rfl, HA, HJ11, BK303, HB⟩ := hcut
   cases kq with
   | zero => exact absurd HA.out (by simp [lib_CheckCell.j1])
   | succ kj11 =>
    have H := HA.out
    clear HA
    simp only [lib_CheckCell.j1] at H
    by_cases c20 : x20_11 = true
    · subst c20
      have H1 : (some 2) = some r := by rw [if_pos rfl] at H; exact H
      clear H
      have H := H1
      clear H1
      obtain rfl := Option.some.inj H
      go_wp2
      repeat (go_quiet (fail); try go_wp2)
      go_ret
      exact ⟨by first | rfl | (simp [errW_none, errW_some] <;> rfl) | (simp [*, errW_none, errW_some] <;> rfl), bl⟩
    replace c20 := Bool.eq_false_iff.mpr c20
    subst c20
    have H1 : (if (l0_5.length : Int) = x4_3 then (if (l0_6.length : Int) = x5_3 then (lib_CheckCell.j2 kj11 ((l0_7.length : Int) != x5_3) a0_0 a0_1 a0_2 a0_3 a0_4 l0_5 l0_6 l0_7 a0_8 a0_9 a0_10) else (lib_CheckCell.j2 kj11 true a0_0 a0_1 a0_2 a0_3 a0_4 l0_5 l0_6 l0_7 a0_8 a0_9 a0_10)) else (lib_CheckCell.j2 kj11 true a0_0 a0_1 a0_2 a0_3 a0_4 l0_5 l0_6 l0_7 a0_8 a0_9 a0_10)) = some r := by rw [if_neg (show ¬ (false = true) by decide)] at H; exact H
    clear H
    have H := H1
    clear H1
    have HC21 := Aside0.mk H
    clear H
    go_upto_region 8 with (fail)
    repeat (go_quiet (fail); go_upto_region 8 with (fail))
    go_cut [39] (fun v39 wc => ∃ (kq : Nat) (x39_20 : Bool), v39 = .bool x39_20 ∧ Aside0 (lib_CheckCell.j2 kq x39_20 a0_0 a0_1 a0_2 a0_3 a0_4 l0_5 l0_6 l0_7 a0_8 a0_9 a0_10 = some r) ∧ Aside0 (kq ≤ kj11) ∧ Aside0 (wc.heap[gb303]? = some (.cells #[.string a0_0, .bool a0_1, .int .i64 a0_2, .int .u64 a0_3, .int .i64 a0_4, (.slice A0_5 l0_5.length c0_5), (.slice A0_6 l0_6.length c0_6), (.slice A0_7 l0_7.length c0_7), .int .i64 a0_8, .int .i64 a0_9, .int .i64 a0_10] 48 (0, 0))) ∧ Aside0 (Below w.heap.size w wc))
    case first =>
     have H := HC21.out
     clear HC21
     by_cases c22 : (l0_5.length : Int) = x4_3
     rotate_left
     · rw [if_neg c22] at H
       have c22b0 : ((l0_5.length : Int) == x4_3) = false := beq_eq_false_iff_ne.mpr c22
       have c22b1 : ((l0_5.length : Int) != x4_3) = true := bne_iff_ne.mpr c22
       (first | rw [c22b0] | (simp only [i64_w, i32_w]; rw [c22b0]) | skip)
       have H' := Aside0.mk H
       clear H
       obtain ⟨hcz26_0, hcz26_1, hcz26_2, hcz26_3, hcz26_4, hcz26_5, hcz26_6, hcz26_7, hcz26_8, hcz26_9, hcz26_10, hfz26_0, hfz26_1, hfz26_2, hfz26_3, hfz26_4, hfz26_5, hfz26_6, hfz26_7, hfz26_8, hfz26_9, hfz26_10⟩ := bz11 BK303.out
       go_wp2
       repeat (go_quiet (fail); try go_wp2)
       go_meet
       case rel => exact ⟨_, (true), (by first | rfl | (simp; done) | (simp [*]; done)), H', ⟨by have := HJ3.out; have := HJ11.out; first | omega | exact Nat.le_refl _⟩, ⟨bk BK303.out⟩, ⟨bl⟩⟩
     rw [if_pos c22] at H
     have c22b0 : ((l0_5.length : Int) == x4_3) = true := beq_iff_eq.mpr c22
     have c22b1 : ((l0_5.length : Int) != x4_3) = false := bne_eq_false_iff_eq.mpr c22
     clear c22
     (first | rw [c22b0] | (simp only [i64_w, i32_w]; rw [c22b0]) | skip)
     by_cases c23 : (l0_6.length : Int) = x5_3
     rotate_left
     · rw [if_neg c23] at H
       have c23b1 : ((l0_6.length : Int) != x5_3) = true := bne_iff_ne.mpr c23
       have H' := Aside0.mk H
       clear H
       obtain ⟨hcz25_0, hcz25_1, hcz25_2, hcz25_3, hcz25_4, hcz25_5, hcz25_6, hcz25_7, hcz25_8, hcz25_9, hcz25_10, hfz25_0, hfz25_1, hfz25_2, hfz25_3, hfz25_4, hfz25_5, hfz25_6, hfz25_7, hfz25_8, hfz25_9, hfz25_10⟩ := bz11 BK303.out
       go_wp2
       repeat (go_quiet (fail); try go_wp2)
       go_meet
       case rel => exact ⟨_, (true), (by first | rfl | (simp; done) | (simp [*]; done)), H', ⟨by have := HJ3.out; have := HJ11.out; first | omega | exact Nat.le_refl _⟩, ⟨bk BK303.out⟩, ⟨bl⟩⟩
     rw [if_pos c23] at H
     have c23b1 : ((l0_6.length : Int) != x5_3) = false := bne_eq_false_iff_eq.mpr c23
     clear c23
     have H' := Aside0.mk H
     clear H
     obtain ⟨hcz24_0, hcz24_1, hcz24_2, hcz24_3, hcz24_4, hcz24_5, hcz24_6, hcz24_7, hcz24_8, hcz24_9, hcz24_10, hfz24_0, hfz24_1, hfz24_2, hfz24_3, hfz24_4, hfz24_5, hfz24_6, hfz24_7, hfz24_8, hfz24_9, hfz24_10⟩ := bz11 BK303.out
     go_wp2
     repeat (go_quiet (fail); try go_wp2)
     go_meet
     case rel => exact ⟨_, (((l0_7.length : Int) != x5_3)), (by first | rfl | (simp; done) | (simp [*]; done)), H', ⟨by have := HJ3.out; have := HJ11.out; first | omega | exact Nat.le_refl _⟩, ⟨bk BK303.out⟩, ⟨bl⟩⟩
    clear HC21
    obtain ⟨kq, x39_20, rfl, HA, HJ20, BK303, HB⟩ := hcut
    cases kq with
    | zero => exact absurd HA.out (by simp [lib_CheckCell.j2])
    | succ kj20 =>
     have H := HA.out
     clear HA
     simp only [lib_CheckCell.j2] at H
     by_cases c27 : x39_20 = true
     · subst c27
       have H1 : (some 4) = some r := by rw [if_pos rfl] at H; exact H
       clear H
       have H := H1
       clear H1
       obtain rfl := Option.some.inj H
       go_wp2
       repeat (go_quiet (fail); try go_wp2)
       go_ret
       exact ⟨by first | rfl | (simp [errW_none, errW_some] <;> rfl) | (simp [*, errW_none, errW_some] <;> rfl), bl⟩
     replace c27 := Bool.eq_false_iff.mpr c27
     subst c27
     have H1 : (if a0_1 = true then (if a0_3 = 0 then ((netlist_Mask.f a0_2).bind fun t305 => (lib_CheckCell.j3 kj20 ((Go.bits .andNot .u64 a0_3 t305) != 0) a0_0 a0_1 a0_2 a0_3 a0_4 l0_5 l0_6 l0_7 a0_8 a0_9 a0_10)) else (lib_CheckCell.j3 kj20 true a0_0 a0_1 a0_2 a0_3 a0_4 l0_5 l0_6 l0_7 a0_8 a0_9 a0_10)) else ((netlist_Mask.f a0_2).bind fun t306 => (lib_CheckCell.j3 kj20 ((Go.bits .andNot .u64 a0_3 t306) != 0) a0_0 a0_1 a0_2 a0_3 a0_4 l0_5 l0_6 l0_7 a0_8 a0_9 a0_10))) = some r := by rw [if_neg (show ¬ (false = true) by decide)] at H; exact H
     clear H
     have H := H1
     clear H1
     have HC28 := Aside0.mk H
     clear H
     go_upto_region 10 with (fail)
     repeat (go_quiet (fail); go_upto_region 10 with (fail))
     go_cut [59] (fun v59 wc => ∃ (kq : Nat) (x59_27 : Bool), v59 = .bool x59_27 ∧ Aside0 (lib_CheckCell.j3 kq x59_27 a0_0 a0_1 a0_2 a0_3 a0_4 l0_5 l0_6 l0_7 a0_8 a0_9 a0_10 = some r) ∧ Aside0 (kq ≤ kj20) ∧ Aside0 (wc.heap[gb303]? = some (.cells #[.string a0_0, .bool a0_1, .int .i64 a0_2, .int .u64 a0_3, .int .i64 a0_4, (.slice A0_5 l0_5.length c0_5), (.slice A0_6 l0_6.length c0_6), (.slice A0_7 l0_7.length c0_7), .int .i64 a0_8, .int .i64 a0_9, .int .i64 a0_10] 48 (0, 0))) ∧ Aside0 (Below w.heap.size w wc))
     case first =>
      have H := HC28.out
      clear HC28
      by_cases c29 : a0_1 = true
      rotate_left
      · replace c29 := Bool.eq_false_iff.mpr c29
        subst c29
        have H1 : ((netlist_Mask.f a0_2).bind fun t306 => (lib_CheckCell.j3 kj20 ((Go.bits .andNot .u64 a0_3 t306) != 0) a0_0 false a0_2 a0_3 a0_4 l0_5 l0_6 l0_7 a0_8 a0_9 a0_10)) = some r := by rw [if_neg (show ¬ (false = true) by decide)] at H; exact H
        clear H
        have H := H1
        clear H1
        replace H := Option.bind_eq_some_iff.mp H
        obtain ⟨t306, A340, H⟩ := H
        replace H : (lib_CheckCell.j3 kj20 ((Go.bits .andNot .u64 a0_3 t306) != 0) a0_0 false a0_2 a0_3 a0_4 l0_5 l0_6 l0_7 a0_8 a0_9 a0_10) = some r := H
        have A34 := Aside0.mk A340
        clear A340
        have H' := Aside0.mk H
        clear H
        obtain ⟨hcz35_0, hcz35_1, hcz35_2, hcz35_3, hcz35_4, hcz35_5, hcz35_6, hcz35_7, hcz35_8, hcz35_9, hcz35_10, hfz35_0, hfz35_1, hfz35_2, hfz35_3, hfz35_4, hfz35_5, hfz35_6, hfz35_7, hfz35_8, hfz35_9, hfz35_10⟩ := bz11 BK303.out
        go_wp2_with fail
        repeat (go_quiet (first | (go_at_call 60; (with_reducible refine (netlist_Mask.calls a0_2 t306 _ A34.out).mono ?_); rintro e w' ⟨rfl, ⟨nd, rfl⟩⟩; (try first | exact ⟨rfl, _, World.drewN_drewN _ _ _⟩ | exact ⟨rfl, _, Eq.trans (World.drewN_drewN _ _ _) (congrArg (World.drewN _) (Nat.add_assoc _ _ _))⟩))); try go_wp2_with fail)
        go_meet
        case rel => exact ⟨_, (((Go.bits .andNot .u64 a0_3 t306) != 0)), (by first | rfl | (simp; done) | (simp [*]; done)), H', ⟨by have := HJ3.out; have := HJ11.out; have := HJ20.out; first | omega | exact Nat.le_refl _⟩, ⟨bk BK303.out⟩, ⟨bl⟩⟩
      subst c29
      have H1 : (if a0_3 = 0 then ((netlist_Mask.f a0_2).bind fun t305 => (lib_CheckCell.j3 kj20 ((Go.bits .andNot .u64 a0_3 t305) != 0) a0_0 true a0_2 a0_3 a0_4 l0_5 l0_6 l0_7 a0_8 a0_9 a0_10)) else (lib_CheckCell.j3 kj20 true a0_0 true a0_2 a0_3 a0_4 l0_5 l0_6 l0_7 a0_8 a0_9 a0_10)) = some r := by rw [if_pos rfl] at H; exact H
      clear H
      have H := H1
      clear H1
      by_cases c30 : a0_3 = 0
      rotate_left
      · rw [if_neg c30] at H
        have c30b0 : (a0_3 == 0) = false := beq_eq_false_iff_ne.mpr c30
        have c30b1 : (a0_3 != 0) = true := bne_iff_ne.mpr c30
        (first | rw [c30b0] | (simp only [i64_w, i32_w]; rw [c30b0]) | skip)
        have H' := Aside0.mk H
        clear H
        obtain ⟨hcz33_0, hcz33_1, hcz33_2, hcz33_3, hcz33_4, hcz33_5, hcz33_6, hcz33_7, hcz33_8, hcz33_9, hcz33_10, hfz33_0, hfz33_1, hfz33_2, hfz33_3, hfz33_4, hfz33_5, hfz33_6, hfz33_7, hfz33_8, hfz33_9, hfz33_10⟩ := bz11 BK303.out
        go_wp2
        repeat (go_quiet (fail); try go_wp2)
        go_meet
        case rel => exact ⟨_, (true), (by first | rfl | (simp; done) | (simp [*]; done)), H', ⟨by have := HJ3.out; have := HJ11.out; have := HJ20.out; first | omega | exact Nat.le_refl _⟩, ⟨bk BK303.out⟩, ⟨bl⟩⟩
      rw [if_pos c30] at H
      have c30b0 : (a0_3 == 0) = true := beq_iff_eq.mpr c30
      have c30b1 : (a0_3 != 0) = false := bne_eq_false_iff_eq.mpr c30
      clear c30
      (first | rw [c30b0] | (simp only [i64_w, i32_w]; rw [c30b0]) | skip)
      replace H := Option.bind_eq_some_iff.mp H
      obtain ⟨t305, A310, H⟩ := H
      replace H : (lib_CheckCell.j3 kj20 ((Go.bits .andNot .u64 a0_3 t305) != 0) a0_0 true a0_2 a0_3 a0_4 l0_5 l0_6 l0_7 a0_8 a0_9 a0_10) = some r := H
      have A31 := Aside0.mk A310
      clear A310
      have H' := Aside0.mk H
      clear H
      obtain ⟨hcz32_0, hcz32_1, hcz32_2, hcz32_3, hcz32_4, hcz32_5, hcz32_6, hcz32_7, hcz32_8, hcz32_9, hcz32_10, hfz32_0, hfz32_1, hfz32_2, hfz32_3, hfz32_4, hfz32_5, hfz32_6, hfz32_7, hfz32_8, hfz32_9, hfz32_10⟩ := bz11 BK303.out
      go_wp2_with fail
      repeat (go_quiet (first | (go_at_call 60; (with_reducible refine (netlist_Mask.calls a0_2 t305 _ A31.out).mono ?_); rintro e w' ⟨rfl, ⟨nd, rfl⟩⟩; (try first | exact ⟨rfl, _, World.drewN_drewN _ _ _⟩ | exact ⟨rfl, _, Eq.trans (World.drewN_drewN _ _ _) (congrArg (World.drewN _) (Nat.add_assoc _ _ _))⟩))); try go_wp2_with fail)
      go_meet
      case rel => exact ⟨_, (((Go.bits .andNot .u64 a0_3 t305) != 0)), (by first | rfl | (simp; done) | (simp [*]; done)), H', ⟨by have := HJ3.out; have := HJ11.out; have := HJ20.out; first | omega | exact Nat.le_refl _⟩, ⟨bk BK303.out⟩, ⟨bl⟩⟩
     clear HC28
     obtain ⟨kq, x59_27, rfl, HA, HJ27, BK303, HB⟩ := hcut
     cases kq with
     | zero => exact absurd HA.out (by simp [lib_CheckCell.j3])
     | succ kj27 =>
      have H := HA.out
      clear HA
      simp only [lib_CheckCell.j3] at H
      by_cases c36 : x59_27 = true
      · subst c36
        have H1 : (some 4) = some r := by rw [if_pos rfl] at H; exact H
        clear H
        have H := H1
        clear H1
        obtain rfl := Option.some.inj H
        go_wp2
        repeat (go_quiet (fail); try go_wp2)
        go_ret
        exact ⟨by first | rfl | (simp [errW_none, errW_some] <;> rfl) | (simp [*, errW_none, errW_some] <;> rfl), bl⟩
      replace c36 := Bool.eq_false_iff.mpr c36
      subst c36
      have H1 : ((lib_in.f kj27 64 (([a0_4] : List Int))).bind fun t310 => (if t310 = true then (if a0_4 = 0 then (lib_CheckCell.j4 kj27 true a0_0 a0_1 a0_2 a0_3 a0_4 l0_5 l0_6 l0_7 a0_8 a0_9 a0_10) else ((lib_in.f kj27 1000 l0_5).bind fun t311 => (if t311 = true then ((lib_in.f kj27 1000 (([a0_8] : List Int))).bind fun t315 => (lib_CheckCell.j4 kj27 (!t315) a0_0 a0_1 a0_2 a0_3 a0_4 l0_5 l0_6 l0_7 a0_8 a0_9 a0_10)) else (lib_CheckCell.j4 kj27 true a0_0 a0_1 a0_2 a0_3 a0_4 l0_5 l0_6 l0_7 a0_8 a0_9 a0_10)))) else (lib_CheckCell.j4 kj27 true a0_0 a0_1 a0_2 a0_3 a0_4 l0_5 l0_6 l0_7 a0_8 a0_9 a0_10))) = some r := by rw [if_neg (show ¬ (false = true) by decide)] at H; exact H
      clear H
      have H := H1
      clear H1
      have HC37 := Aside0.mk H
      clear H
      go_upto_region 12 with (fail)
      repeat (go_quiet (fail); go_upto_region 12 with (fail))
      go_cut [76] (fun v76 wc => ∃ (kq : Nat) (x76_36 : Bool), v76 = .bool x76_36 ∧ Aside0 (lib_CheckCell.j4 kq x76_36 a0_0 a0_1 a0_2 a0_3 a0_4 l0_5 l0_6 l0_7 a0_8 a0_9 a0_10 = some r) ∧ Aside0 (kq ≤ kj27) ∧ Aside0 (wc.heap[gb303]? = some (.cells #[.string a0_0, .bool a0_1, .int .i64 a0_2, .int .u64 a0_3, .int .i64 a0_4, (.slice A0_5 l0_5.length c0_5), (.slice A0_6 l0_6.length c0_6), (.slice A0_7 l0_7.length c0_7), .int .i64 a0_8, .int .i64 a0_9, .int .i64 a0_10] 48 (0, 0))) ∧ Aside0 (Below w.heap.size w wc))
      case first =>
       have H := HC37.out
       clear HC37
       obtain ⟨y307, hy307⟩ : ∃ y_ : List Int, y_ = (([a0_4] : List Int)) := ⟨_, rfl⟩
       replace H : ((lib_in.f kj27 64 y307).bind fun t310 => (if t310 = true then (if a0_4 = 0 then (lib_CheckCell.j4 kj27 true a0_0 a0_1 a0_2 a0_3 a0_4 l0_5 l0_6 l0_7 a0_8 a0_9 a0_10) else ((lib_in.f kj27 1000 l0_5).bind fun t311 => (if t311 = true then ((lib_in.f kj27 1000 (([a0_8] : List Int))).bind fun t315 => (lib_CheckCell.j4 kj27 (!t315) a0_0 a0_1 a0_2 a0_3 a0_4 l0_5 l0_6 l0_7 a0_8 a0_9 a0_10)) else (lib_CheckCell.j4 kj27 true a0_0 a0_1 a0_2 a0_3 a0_4 l0_5 l0_6 l0_7 a0_8 a0_9 a0_10)))) else (lib_CheckCell.j4 kj27 true a0_0 a0_1 a0_2 a0_3 a0_4 l0_5 l0_6 l0_7 a0_8 a0_9 a0_10))) = some r := by first | (rw [hy307]; with_reducible exact H) | (have H2_ := (Option.bind_some _ _).symm.trans H; rw [hy307]; with_reducible exact H2_) | (have H2_ := (Option.bind_some _ _).symm.trans H; with_reducible exact H2_) | with_reducible exact H | (rw [hy307]; exact H) | exact H
       have Ny307 := Aside0.mk hy307
       clear hy307
       replace H := Option.bind_eq_some_iff.mp H
       obtain ⟨t310, A380, H⟩ := H
       replace H : (if t310 = true then (if a0_4 = 0 then (lib_CheckCell.j4 kj27 true a0_0 a0_1 a0_2 a0_3 a0_4 l0_5 l0_6 l0_7 a0_8 a0_9 a0_10) else ((lib_in.f kj27 1000 l0_5).bind fun t311 => (if t311 = true then ((lib_in.f kj27 1000 (([a0_8] : List Int))).bind fun t315 => (lib_CheckCell.j4 kj27 (!t315) a0_0 a0_1 a0_2 a0_3 a0_4 l0_5 l0_6 l0_7 a0_8 a0_9 a0_10)) else (lib_CheckCell.j4 kj27 true a0_0 a0_1 a0_2 a0_3 a0_4 l0_5 l0_6 l0_7 a0_8 a0_9 a0_10)))) else (lib_CheckCell.j4 kj27 true a0_0 a0_1 a0_2 a0_3 a0_4 l0_5 l0_6 l0_7 a0_8 a0_9 a0_10)) = some r := H
       have A38 := Aside0.mk A380
       clear A380
       by_cases c39 : t310 = true
       rotate_left
       · replace c39 := Bool.eq_false_iff.mpr c39
         subst c39
         have H1 : (lib_CheckCell.j4 kj27 true a0_0 a0_1 a0_2 a0_3 a0_4 l0_5 l0_6 l0_7 a0_8 a0_9 a0_10) = some r := by rw [if_neg (show ¬ (false = true) by decide)] at H; exact H
         clear H
         have H := H1
         clear H1
         have H' := Aside0.mk H
         clear H
         obtain ⟨hcz62_0, hcz62_1, hcz62_2, hcz62_3, hcz62_4, hcz62_5, hcz62_6, hcz62_7, hcz62_8, hcz62_9, hcz62_10, hfz62_0, hfz62_1, hfz62_2, hfz62_3, hfz62_4, hfz62_5, hfz62_6, hfz62_7, hfz62_8, hfz62_9, hfz62_10⟩ := bz11 BK303.out
         go_wp2_with (first | ((with_reducible refine gate_dst (N := 79) rfl ?_); (try (refine gate_guard (by rfl) ?_; dsimp only)); refine Kd.R_lit (Kd.int .i64) _ 3 ?hg (N := 79) ?hd (xs := ([a0_4] : List Int)) (inner := [.int .i64 a0_4]) (ok := fun _ => True) (okp := fun _ => True) ?hr ?hp (fun _ hk => hk) trivial (Below.refl _ _) (Nat.le_refl _) (by simp) ?_; (case hd => rfl); (case hg => rfl); (case hr => first | (go_simp; done) | (go_simp; rfl)); (case hp => exact (Reps.one (show Kd.M (Kd.int .i64) _ _ _ a0_4 [.int .i64 a0_4] from rfl) (Reps.none _ _))); intro v308 w63 ho64 hb hg_ hnew_; clear hg_ hnew_; (first | rw [← Ny307.out] at ho64 | (simp only [Int.reduceToNat] at ho64; rw [← Ny307.out] at ho64)); have HO309 := Aside0.mk (Kd.R_lower ho64 (below_size bl)); replace BK303 := Aside0.mk (bb BK303.out hb); replace HB := Aside0.mk (below_step bl hb); clear hb ho64; obtain ⟨Ao65, co65, eo65⟩ := Kd.R_slice HO309.out; subst eo65) | (go_at_call 67; (with_reducible refine (lib_in.calls kj27 64 _ _ y307 false _ ?side1 ?side2 A38.out).mono ?_); (case side1 => exact kc ((Kd.R_reads' HO309.out).2.2)); (case side2 => exact (Kd.R_reads' HO309.out).2.1); rintro e w' ⟨rfl, ⟨nd, rfl⟩⟩; (try first | exact ⟨rfl, _, World.drewN_drewN _ _ _⟩ | exact ⟨rfl, _, Eq.trans (World.drewN_drewN _ _ _) (congrArg (World.drewN _) (Nat.add_assoc _ _ _))⟩)))
         repeat (go_quiet (fail); try go_wp2_with fail)
         go_meet
         case rel => exact ⟨_, (true), (by first | rfl | (simp; done) | (simp [*]; done)), H', ⟨by have := HJ3.out; have := HJ11.out; have := HJ20.out; have := HJ27.out; first | omega | exact Nat.le_refl _⟩, ⟨bk BK303.out⟩, ⟨bl⟩⟩
       subst c39
       have H1 : (if a0_4 = 0 then (lib_CheckCell.j4 kj27 true a0_0 a0_1 a0_2 a0_3 a0_4 l0_5 l0_6 l0_7 a0_8 a0_9 a0_10) else ((lib_in.f kj27 1000 l0_5).bind fun t311 => (if t311 = true then ((lib_in.f kj27 1000 (([a0_8] : List Int))).bind fun t315 => (lib_CheckCell.j4 kj27 (!t315) a0_0 a0_1 a0_2 a0_3 a0_4 l0_5 l0_6 l0_7 a0_8 a0_9 a0_10)) else (lib_CheckCell.j4 kj27 true a0_0 a0_1 a0_2 a0_3 a0_4 l0_5 l0_6 l0_7 a0_8 a0_9 a0_10)))) = some r := by rw [if_pos rfl] at H; exact H
       clear H
       have H := H1
       clear H1
       by_cases c40 : a0_4 = 0
       · rw [if_pos c40] at H
         have c40b0 : (a0_4 == 0) = true := beq_iff_eq.mpr c40
         clear c40
         (first | rw [c40b0] | (simp only [i64_w, i32_w]; rw [c40b0]) | skip)
         have H' := Aside0.mk H
         clear H
         obtain ⟨hcz41_0, hcz41_1, hcz41_2, hcz41_3, hcz41_4, hcz41_5, hcz41_6, hcz41_7, hcz41_8, hcz41_9, hcz41_10, hfz41_0, hfz41_1, hfz41_2, hfz41_3, hfz41_4, hfz41_5, hfz41_6, hfz41_7, hfz41_8, hfz41_9, hfz41_10⟩ := bz11 BK303.out
         go_wp2_with (first | ((with_reducible refine gate_dst (N := 79) rfl ?_); (try (refine gate_guard (by rfl) ?_; dsimp only)); refine Kd.R_lit (Kd.int .i64) _ 3 ?hg (N := 79) ?hd (xs := ([a0_4] : List Int)) (inner := [.int .i64 a0_4]) (ok := fun _ => True) (okp := fun _ => True) ?hr ?hp (fun _ hk => hk) trivial (Below.refl _ _) (Nat.le_refl _) (by simp) ?_; (case hd => rfl); (case hg => rfl); (case hr => first | (go_simp; done) | (go_simp; rfl)); (case hp => exact (Reps.one (show Kd.M (Kd.int .i64) _ _ _ a0_4 [.int .i64 a0_4] from rfl) (Reps.none _ _))); intro v308 w42 ho43 hb hg_ hnew_; clear hg_ hnew_; (first | rw [← Ny307.out] at ho43 | (simp only [Int.reduceToNat] at ho43; rw [← Ny307.out] at ho43)); have HO309 := Aside0.mk (Kd.R_lower ho43 (below_size bl)); replace BK303 := Aside0.mk (bb BK303.out hb); replace HB := Aside0.mk (below_step bl hb); clear hb ho43; obtain ⟨Ao44, co44, eo44⟩ := Kd.R_slice HO309.out; subst eo44) | (go_at_call 67; (with_reducible refine (lib_in.calls kj27 64 _ _ y307 true _ ?side1 ?side2 A38.out).mono ?_); (case side1 => exact kc ((Kd.R_reads' HO309.out).2.2)); (case side2 => exact (Kd.R_reads' HO309.out).2.1); rintro e w' ⟨rfl, ⟨nd, rfl⟩⟩; (try first | exact ⟨rfl, _, World.drewN_drewN _ _ _⟩ | exact ⟨rfl, _, Eq.trans (World.drewN_drewN _ _ _) (congrArg (World.drewN _) (Nat.add_assoc _ _ _))⟩); obtain ⟨hcz45_0, hcz45_1, hcz45_2, hcz45_3, hcz45_4, hcz45_5, hcz45_6, hcz45_7, hcz45_8, hcz45_9, hcz45_10, hfz45_0, hfz45_1, hfz45_2, hfz45_3, hfz45_4, hfz45_5, hfz45_6, hfz45_7, hfz45_8, hfz45_9, hfz45_10⟩ := bz11 BK303.out))
         repeat (go_quiet (fail); try go_wp2_with fail)
         go_meet
         case rel => exact ⟨_, (true), (by first | rfl | (simp; done) | (simp [*]; done)), H', ⟨by have := HJ3.out; have := HJ11.out; have := HJ20.out; have := HJ27.out; first | omega | exact Nat.le_refl _⟩, ⟨bk BK303.out⟩, ⟨bl⟩⟩
       rw [if_neg c40] at H
       have c40b0 : (a0_4 == 0) = false := beq_eq_false_iff_ne.mpr c40
       (first | rw [c40b0] | (simp only [i64_w, i32_w]; rw [c40b0]) | skip)
       replace H := Option.bind_eq_some_iff.mp H
       obtain ⟨t311, A460, H⟩ := H
       replace H : (if t311 = true then ((lib_in.f kj27 1000 (([a0_8] : List Int))).bind fun t315 => (lib_CheckCell.j4 kj27 (!t315) a0_0 a0_1 a0_2 a0_3 a0_4 l0_5 l0_6 l0_7 a0_8 a0_9 a0_10)) else (lib_CheckCell.j4 kj27 true a0_0 a0_1 a0_2 a0_3 a0_4 l0_5 l0_6 l0_7 a0_8 a0_9 a0_10)) = some r := H
       have A46 := Aside0.mk A460
       clear A460
       by_cases c47 : t311 = true
       rotate_left
       · replace c47 := Bool.eq_false_iff.mpr c47
         subst c47
         have H1 : (lib_CheckCell.j4 kj27 true a0_0 a0_1 a0_2 a0_3 a0_4 l0_5 l0_6 l0_7 a0_8 a0_9 a0_10) = some r := by rw [if_neg (show ¬ (false = true) by decide)] at H; exact H
         clear H
         have H := H1
         clear H1
         have H' := Aside0.mk H
         clear H
         obtain ⟨hcz57_0, hcz57_1, hcz57_2, hcz57_3, hcz57_4, hcz57_5, hcz57_6, hcz57_7, hcz57_8, hcz57_9, hcz57_10, hfz57_0, hfz57_1, hfz57_2, hfz57_3, hfz57_4, hfz57_5, hfz57_6, hfz57_7, hfz57_8, hfz57_9, hfz57_10⟩ := bz11 BK303.out
         go_wp2_with (first | ((with_reducible refine gate_dst (N := 79) rfl ?_); (try (refine gate_guard (by rfl) ?_; dsimp only)); refine Kd.R_lit (Kd.int .i64) _ 3 ?hg (N := 79) ?hd (xs := ([a0_4] : List Int)) (inner := [.int .i64 a0_4]) (ok := fun _ => True) (okp := fun _ => True) ?hr ?hp (fun _ hk => hk) trivial (Below.refl _ _) (Nat.le_refl _) (by simp) ?_; (case hd => rfl); (case hg => rfl); (case hr => first | (go_simp; done) | (go_simp; rfl)); (case hp => exact (Reps.one (show Kd.M (Kd.int .i64) _ _ _ a0_4 [.int .i64 a0_4] from rfl) (Reps.none _ _))); intro v308 w58 ho59 hb hg_ hnew_; clear hg_ hnew_; (first | rw [← Ny307.out] at ho59 | (simp only [Int.reduceToNat] at ho59; rw [← Ny307.out] at ho59)); have HO309 := Aside0.mk (Kd.R_lower ho59 (below_size bl)); replace BK303 := Aside0.mk (bb BK303.out hb); replace HB := Aside0.mk (below_step bl hb); clear hb ho59; obtain ⟨Ao60, co60, eo60⟩ := Kd.R_slice HO309.out; subst eo60) | (go_at_call 67; (with_reducible refine (lib_in.calls kj27 64 _ _ y307 true _ ?side1 ?side2 A38.out).mono ?_); (case side1 => exact kc ((Kd.R_reads' HO309.out).2.2)); (case side2 => exact (Kd.R_reads' HO309.out).2.1); rintro e w' ⟨rfl, ⟨nd, rfl⟩⟩; (try first | exact ⟨rfl, _, World.drewN_drewN _ _ _⟩ | exact ⟨rfl, _, Eq.trans (World.drewN_drewN _ _ _) (congrArg (World.drewN _) (Nat.add_assoc _ _ _))⟩); obtain ⟨hcz61_0, hcz61_1, hcz61_2, hcz61_3, hcz61_4, hcz61_5, hcz61_6, hcz61_7, hcz61_8, hcz61_9, hcz61_10, hfz61_0, hfz61_1, hfz61_2, hfz61_3, hfz61_4, hfz61_5, hfz61_6, hfz61_7, hfz61_8, hfz61_9, hfz61_10⟩ := bz11 BK303.out) | (go_at_call 67; (with_reducible refine (lib_in.calls kj27 1000 _ _ l0_5 false _ ?side1 ?side2 A46.out).mono ?_); (case side1 => exact kc (Kd.C_below HR0_5.out bl)); (case side2 => exact HC0_5.out); rintro e w' ⟨rfl, ⟨nd, rfl⟩⟩; (try first | exact ⟨rfl, _, World.drewN_drewN _ _ _⟩ | exact ⟨rfl, _, Eq.trans (World.drewN_drewN _ _ _) (congrArg (World.drewN _) (Nat.add_assoc _ _ _))⟩)))
         repeat (go_quiet (fail); try go_wp2_with fail)
         go_meet
         case rel => exact ⟨_, (true), (by first | rfl | (simp; done) | (simp [*]; done)), H', ⟨by have := HJ3.out; have := HJ11.out; have := HJ20.out; have := HJ27.out; first | omega | exact Nat.le_refl _⟩, ⟨bk BK303.out⟩, ⟨bl⟩⟩
       subst c47
       have H1 : ((lib_in.f kj27 1000 (([a0_8] : List Int))).bind fun t315 => (lib_CheckCell.j4 kj27 (!t315) a0_0 a0_1 a0_2 a0_3 a0_4 l0_5 l0_6 l0_7 a0_8 a0_9 a0_10)) = some r := by rw [if_pos rfl] at H; exact H
       clear H
       have H := H1
       clear H1
       obtain ⟨y312, hy312⟩ : ∃ y_ : List Int, y_ = (([a0_8] : List Int)) := ⟨_, rfl⟩
       replace H : ((lib_in.f kj27 1000 y312).bind fun t315 => (lib_CheckCell.j4 kj27 (!t315) a0_0 a0_1 a0_2 a0_3 a0_4 l0_5 l0_6 l0_7 a0_8 a0_9 a0_10)) = some r := by first | (rw [hy312]; with_reducible exact H) | (have H2_ := (Option.bind_some _ _).symm.trans H; rw [hy312]; with_reducible exact H2_) | (have H2_ := (Option.bind_some _ _).symm.trans H; with_reducible exact H2_) | with_reducible exact H | (rw [hy312]; exact H) | exact H
       have Ny312 := Aside0.mk hy312
       clear hy312
       replace H := Option.bind_eq_some_iff.mp H
       obtain ⟨t315, A480, H⟩ := H
       replace H : (lib_CheckCell.j4 kj27 (!t315) a0_0 a0_1 a0_2 a0_3 a0_4 l0_5 l0_6 l0_7 a0_8 a0_9 a0_10) = some r := H
       have A48 := Aside0.mk A480
       clear A480
       have H' := Aside0.mk H
       clear H
       obtain ⟨hcz49_0, hcz49_1, hcz49_2, hcz49_3, hcz49_4, hcz49_5, hcz49_6, hcz49_7, hcz49_8, hcz49_9, hcz49_10, hfz49_0, hfz49_1, hfz49_2, hfz49_3, hfz49_4, hfz49_5, hfz49_6, hfz49_7, hfz49_8, hfz49_9, hfz49_10⟩ := bz11 BK303.out
       go_wp2_with (first | ((with_reducible refine gate_dst (N := 79) rfl ?_); (try (refine gate_guard (by rfl) ?_; dsimp only)); refine Kd.R_lit (Kd.int .i64) _ 3 ?hg (N := 79) ?hd (xs := ([a0_4] : List Int)) (inner := [.int .i64 a0_4]) (ok := fun _ => True) (okp := fun _ => True) ?hr ?hp (fun _ hk => hk) trivial (Below.refl _ _) (Nat.le_refl _) (by simp) ?_; (case hd => rfl); (case hg => rfl); (case hr => first | (go_simp; done) | (go_simp; rfl)); (case hp => exact (Reps.one (show Kd.M (Kd.int .i64) _ _ _ a0_4 [.int .i64 a0_4] from rfl) (Reps.none _ _))); intro v308 w50 ho51 hb hg_ hnew_; clear hg_ hnew_; (first | rw [← Ny307.out] at ho51 | (simp only [Int.reduceToNat] at ho51; rw [← Ny307.out] at ho51)); have HO309 := Aside0.mk (Kd.R_lower ho51 (below_size bl)); replace BK303 := Aside0.mk (bb BK303.out hb); replace HB := Aside0.mk (below_step bl hb); clear hb ho51; obtain ⟨Ao52, co52, eo52⟩ := Kd.R_slice HO309.out; subst eo52) | (go_at_call 67; (with_reducible refine (lib_in.calls kj27 64 _ _ y307 true _ ?side1 ?side2 A38.out).mono ?_); (case side1 => exact kc ((Kd.R_reads' HO309.out).2.2)); (case side2 => exact (Kd.R_reads' HO309.out).2.1); rintro e w' ⟨rfl, ⟨nd, rfl⟩⟩; (try first | exact ⟨rfl, _, World.drewN_drewN _ _ _⟩ | exact ⟨rfl, _, Eq.trans (World.drewN_drewN _ _ _) (congrArg (World.drewN _) (Nat.add_assoc _ _ _))⟩); obtain ⟨hcz53_0, hcz53_1, hcz53_2, hcz53_3, hcz53_4, hcz53_5, hcz53_6, hcz53_7, hcz53_8, hcz53_9, hcz53_10, hfz53_0, hfz53_1, hfz53_2, hfz53_3, hfz53_4, hfz53_5, hfz53_6, hfz53_7, hfz53_8, hfz53_9, hfz53_10⟩ := bz11 BK303.out) | (go_at_call 67; (with_reducible refine (lib_in.calls kj27 1000 _ _ l0_5 true _ ?side1 ?side2 A46.out).mono ?_); (case side1 => exact kc (Kd.C_below HR0_5.out bl)); (case side2 => exact HC0_5.out); rintro e w' ⟨rfl, ⟨nd, rfl⟩⟩; (try first | exact ⟨rfl, _, World.drewN_drewN _ _ _⟩ | exact ⟨rfl, _, Eq.trans (World.drewN_drewN _ _ _) (congrArg (World.drewN _) (Nat.add_assoc _ _ _))⟩)) | ((with_reducible refine gate_dst (N := 96) rfl ?_); (try (refine gate_guard (by rfl) ?_; dsimp only)); refine Kd.R_lit (Kd.int .i64) _ 3 ?hg (N := 96) ?hd (xs := ([a0_8] : List Int)) (inner := [.int .i64 a0_8]) (ok := fun _ => True) (okp := fun _ => True) ?hr ?hp (fun _ hk => hk) trivial (Below.refl _ _) (Nat.le_refl _) (by simp) ?_; (case hd => rfl); (case hg => rfl); (case hr => first | (go_simp; done) | (go_simp; rfl)); (case hp => exact (Reps.one (show Kd.M (Kd.int .i64) _ _ _ a0_8 [.int .i64 a0_8] from rfl) (Reps.none _ _))); intro v313 w54 ho55 hb hg_ hnew_; clear hg_ hnew_; (first | rw [← Ny312.out] at ho55 | (simp only [Int.reduceToNat] at ho55; rw [← Ny312.out] at ho55)); have HO314 := Aside0.mk (Kd.R_lower (Kd.R_new' ho55 (Kd.R_lt (by (with_reducible repeat (first | apply Kd.R_alloc | apply Kd.R_drewN | apply Kd.R_drew)); exact HO309.out))) (below_size bl)); replace HO309 := Aside0.mk (Kd.R_elder' (by (with_reducible repeat (first | apply Kd.R_alloc | apply Kd.R_drewN | apply Kd.R_drew)); exact HO309.out) (Kd.R_base ho55) hb); replace BK303 := Aside0.mk (bb BK303.out hb); replace HB := Aside0.mk (below_step bl hb); clear hb ho55; obtain ⟨Ao56, co56, eo56⟩ := Kd.R_slice HO314.out; subst eo56) | (go_at_call 67; (with_reducible refine (lib_in.calls kj27 1000 _ _ y312 t315 _ ?side1 ?side2 A48.out).mono ?_); (case side1 => exact kc ((Kd.R_reads' HO314.out).2.2)); (case side2 => exact (Kd.R_reads' HO314.out).2.1); rintro e w' ⟨rfl, ⟨nd, rfl⟩⟩; (try first | exact ⟨rfl, _, World.drewN_drewN _ _ _⟩ | exact ⟨rfl, _, Eq.trans (World.drewN_drewN _ _ _) (congrArg (World.drewN _) (Nat.add_assoc _ _ _))⟩)))
       repeat (go_quiet (fail); try go_wp2_with fail)
       go_meet
       case rel => exact ⟨_, (!t315), (by first | rfl | (simp; done) | (simp [*]; done)), H', ⟨by have := HJ3.out; have := HJ11.out; have := HJ20.out; have := HJ27.out; first | omega | exact Nat.le_refl _⟩, ⟨bk BK303.out⟩, ⟨bl⟩⟩
      clear HC37
      obtain ⟨kq, x76_36, rfl, HA, HJ36, BK303, HB⟩ := hcut
      cases kq with
      | zero => exact absurd HA.out (by simp [lib_CheckCell.j4])
      | succ kj36 =>
       have H := HA.out
       clear HA
       simp only [lib_CheckCell.j4] at H
       by_cases c66 : x76_36 = true
       · subst c66
         have H1 : (some 2) = some r := by rw [if_pos rfl] at H; exact H
         clear H
         have H := H1
         clear H1
         obtain rfl := Option.some.inj H
         go_wp2
         repeat (go_quiet (fail); try go_wp2)
         go_ret
         exact ⟨by first | rfl | (simp [errW_none, errW_some] <;> rfl) | (simp [*, errW_none, errW_some] <;> rfl), bl⟩
       replace c66 := Bool.eq_false_iff.mpr c66
       subst c66
       have H1 : ((lib_in.f kj36 10000 l0_6).bind fun t316 => (if t316 = true then ((lib_in.f kj36 10000 l0_7).bind fun t317 => (if t317 = true then ((lib_in.f kj36 10000 (([a0_9, a0_10] : List Int))).bind fun t321 => (lib_CheckCell.j5 kj36 (!t321) a0_0 a0_1 a0_2 a0_3 a0_4 l0_5 l0_6 l0_7 a0_8 a0_9 a0_10)) else (lib_CheckCell.j5 kj36 true a0_0 a0_1 a0_2 a0_3 a0_4 l0_5 l0_6 l0_7 a0_8 a0_9 a0_10))) else (lib_CheckCell.j5 kj36 true a0_0 a0_1 a0_2 a0_3 a0_4 l0_5 l0_6 l0_7 a0_8 a0_9 a0_10))) = some r := by rw [if_neg (show ¬ (false = true) by decide)] at H; exact H
       clear H
       have H := H1
       clear H1
       have HC67 := Aside0.mk H
       clear H
       go_upto_region 14 with (fail)
       repeat (go_quiet (fail); go_upto_region 14 with (fail))
       go_cut [100] (fun v100 wc => ∃ (kq : Nat) (x100_66 : Bool), v100 = .bool x100_66 ∧ Aside0 (lib_CheckCell.j5 kq x100_66 a0_0 a0_1 a0_2 a0_3 a0_4 l0_5 l0_6 l0_7 a0_8 a0_9 a0_10 = some r) ∧ Aside0 (kq ≤ kj36) ∧ Aside0 (wc.heap[gb303]? = some (.cells #[.string a0_0, .bool a0_1, .int .i64 a0_2, .int .u64 a0_3, .int .i64 a0_4, (.slice A0_5 l0_5.length c0_5), (.slice A0_6 l0_6.length c0_6), (.slice A0_7 l0_7.length c0_7), .int .i64 a0_8, .int .i64 a0_9, .int .i64 a0_10] 48 (0, 0))) ∧ Aside0 (Below w.heap.size w wc))
       case first =>
        have H := HC67.out
        clear HC67
        replace H := Option.bind_eq_some_iff.mp H
        obtain ⟨t316, A680, H⟩ := H
        replace H : (if t316 = true then ((lib_in.f kj36 10000 l0_7).bind fun t317 => (if t317 = true then ((lib_in.f kj36 10000 (([a0_9, a0_10] : List Int))).bind fun t321 => (lib_CheckCell.j5 kj36 (!t321) a0_0 a0_1 a0_2 a0_3 a0_4 l0_5 l0_6 l0_7 a0_8 a0_9 a0_10)) else (lib_CheckCell.j5 kj36 true a0_0 a0_1 a0_2 a0_3 a0_4 l0_5 l0_6 l0_7 a0_8 a0_9 a0_10))) else (lib_CheckCell.j5 kj36 true a0_0 a0_1 a0_2 a0_3 a0_4 l0_5 l0_6 l0_7 a0_8 a0_9 a0_10)) = some r := H
        have A68 := Aside0.mk A680
        clear A680
        by_cases c69 : t316 = true
        rotate_left
        · replace c69 := Bool.eq_false_iff.mpr c69
          subst c69
          have H1 : (lib_CheckCell.j5 kj36 true a0_0 a0_1 a0_2 a0_3 a0_4 l0_5 l0_6 l0_7 a0_8 a0_9 a0_10) = some r := by rw [if_neg (show ¬ (false = true) by decide)] at H; exact H
          clear H
          have H := H1
          clear H1
          have H' := Aside0.mk H
          clear H
          obtain ⟨hcz78_0, hcz78_1, hcz78_2, hcz78_3, hcz78_4, hcz78_5, hcz78_6, hcz78_7, hcz78_8, hcz78_9, hcz78_10, hfz78_0, hfz78_1, hfz78_2, hfz78_3, hfz78_4, hfz78_5, hfz78_6, hfz78_7, hfz78_8, hfz78_9, hfz78_10⟩ := bz11 BK303.out
          go_wp2_with (go_at_call 67; (with_reducible refine (lib_in.calls kj36 10000 _ _ l0_6 false _ ?side1 ?side2 A68.out).mono ?_); (case side1 => exact kc (Kd.C_below HR0_6.out HB.out)); (case side2 => exact HC0_6.out); rintro e w' ⟨rfl, ⟨nd, rfl⟩⟩; (try first | exact ⟨rfl, _, World.drewN_drewN _ _ _⟩ | exact ⟨rfl, _, Eq.trans (World.drewN_drewN _ _ _) (congrArg (World.drewN _) (Nat.add_assoc _ _ _))⟩))
          repeat (go_quiet (fail); try go_wp2_with fail)
          go_meet
          case rel => exact ⟨_, (true), (by first | rfl | (simp; done) | (simp [*]; done)), H', ⟨by have := HJ3.out; have := HJ11.out; have := HJ20.out; have := HJ27.out; have := HJ36.out; first | omega | exact Nat.le_refl _⟩, ⟨bk BK303.out⟩, ⟨bl⟩⟩
        subst c69
        have H1 : ((lib_in.f kj36 10000 l0_7).bind fun t317 => (if t317 = true then ((lib_in.f kj36 10000 (([a0_9, a0_10] : List Int))).bind fun t321 => (lib_CheckCell.j5 kj36 (!t321) a0_0 a0_1 a0_2 a0_3 a0_4 l0_5 l0_6 l0_7 a0_8 a0_9 a0_10)) else (lib_CheckCell.j5 kj36 true a0_0 a0_1 a0_2 a0_3 a0_4 l0_5 l0_6 l0_7 a0_8 a0_9 a0_10))) = some r := by rw [if_pos rfl] at H; exact H
        clear H
        have H := H1
        clear H1
        replace H := Option.bind_eq_some_iff.mp H
        obtain ⟨t317, A700, H⟩ := H
        replace H : (if t317 = true then ((lib_in.f kj36 10000 (([a0_9, a0_10] : List Int))).bind fun t321 => (lib_CheckCell.j5 kj36 (!t321) a0_0 a0_1 a0_2 a0_3 a0_4 l0_5 l0_6 l0_7 a0_8 a0_9 a0_10)) else (lib_CheckCell.j5 kj36 true a0_0 a0_1 a0_2 a0_3 a0_4 l0_5 l0_6 l0_7 a0_8 a0_9 a0_10)) = some r := H
        have A70 := Aside0.mk A700
        clear A700
        by_cases c71 : t317 = true
        rotate_left
        · replace c71 := Bool.eq_false_iff.mpr c71
          subst c71
          have H1 : (lib_CheckCell.j5 kj36 true a0_0 a0_1 a0_2 a0_3 a0_4 l0_5 l0_6 l0_7 a0_8 a0_9 a0_10) = some r := by rw [if_neg (show ¬ (false = true) by decide)] at H; exact H
          clear H
          have H := H1
          clear H1
          have H' := Aside0.mk H
          clear H
          obtain ⟨hcz77_0, hcz77_1, hcz77_2, hcz77_3, hcz77_4, hcz77_5, hcz77_6, hcz77_7, hcz77_8, hcz77_9, hcz77_10, hfz77_0, hfz77_1, hfz77_2, hfz77_3, hfz77_4, hfz77_5, hfz77_6, hfz77_7, hfz77_8, hfz77_9, hfz77_10⟩ := bz11 BK303.out
          go_wp2_with (first | (go_at_call 67; (with_reducible refine (lib_in.calls kj36 10000 _ _ l0_6 true _ ?side1 ?side2 A68.out).mono ?_); (case side1 => exact kc (Kd.C_below HR0_6.out HB.out)); (case side2 => exact HC0_6.out); rintro e w' ⟨rfl, ⟨nd, rfl⟩⟩; (try first | exact ⟨rfl, _, World.drewN_drewN _ _ _⟩ | exact ⟨rfl, _, Eq.trans (World.drewN_drewN _ _ _) (congrArg (World.drewN _) (Nat.add_assoc _ _ _))⟩)) | (go_at_call 67; (with_reducible refine (lib_in.calls kj36 10000 _ _ l0_7 false _ ?side1 ?side2 A70.out).mono ?_); (case side1 => exact kc (Kd.C_below HR0_7.out bl)); (case side2 => exact HC0_7.out); rintro e w' ⟨rfl, ⟨nd, rfl⟩⟩; (try first | exact ⟨rfl, _, World.drewN_drewN _ _ _⟩ | exact ⟨rfl, _, Eq.trans (World.drewN_drewN _ _ _) (congrArg (World.drewN _) (Nat.add_assoc _ _ _))⟩)))
          repeat (go_quiet (fail); try go_wp2_with fail)
          go_meet
          case rel => exact ⟨_, (true), (by first | rfl | (simp; done) | (simp [*]; done)), H', ⟨by have := HJ3.out; have := HJ11.out; have := HJ20.out; have := HJ27.out; have := HJ36.out; first | omega | exact Nat.le_refl _⟩, ⟨bk BK303.out⟩, ⟨bl⟩⟩
        subst c71
        have H1 : ((lib_in.f kj36 10000 (([a0_9, a0_10] : List Int))).bind fun t321 => (lib_CheckCell.j5 kj36 (!t321) a0_0 a0_1 a0_2 a0_3 a0_4 l0_5 l0_6 l0_7 a0_8 a0_9 a0_10)) = some r := by rw [if_pos rfl] at H; exact H
        clear H
        have H := H1
        clear H1
        obtain ⟨y318, hy318⟩ : ∃ y_ : List Int, y_ = (([a0_9, a0_10] : List Int)) := ⟨_, rfl⟩
        replace H : ((lib_in.f kj36 10000 y318).bind fun t321 => (lib_CheckCell.j5 kj36 (!t321) a0_0 a0_1 a0_2 a0_3 a0_4 l0_5 l0_6 l0_7 a0_8 a0_9 a0_10)) = some r := by first | (rw [hy318]; with_reducible exact H) | (have H2_ := (Option.bind_some _ _).symm.trans H; rw [hy318]; with_reducible exact H2_) | (have H2_ := (Option.bind_some _ _).symm.trans H; with_reducible exact H2_) | with_reducible exact H | (rw [hy318]; exact H) | exact H
        have Ny318 := Aside0.mk hy318
        clear hy318
        replace H := Option.bind_eq_some_iff.mp H
        obtain ⟨t321, A720, H⟩ := H
        replace H : (lib_CheckCell.j5 kj36 (!t321) a0_0 a0_1 a0_2 a0_3 a0_4 l0_5 l0_6 l0_7 a0_8 a0_9 a0_10) = some r := H
        have A72 := Aside0.mk A720
        clear A720
        have H' := Aside0.mk H
        clear H
        obtain ⟨hcz73_0, hcz73_1, hcz73_2, hcz73_3, hcz73_4, hcz73_5, hcz73_6, hcz73_7, hcz73_8, hcz73_9, hcz73_10, hfz73_0, hfz73_1, hfz73_2, hfz73_3, hfz73_4, hfz73_5, hfz73_6, hfz73_7, hfz73_8, hfz73_9, hfz73_10⟩ := bz11 BK303.out
        go_wp2_with (first | (go_at_call 67; (with_reducible refine (lib_in.calls kj36 10000 _ _ l0_6 true _ ?side1 ?side2 A68.out).mono ?_); (case side1 => exact kc (Kd.C_below HR0_6.out HB.out)); (case side2 => exact HC0_6.out); rintro e w' ⟨rfl, ⟨nd, rfl⟩⟩; (try first | exact ⟨rfl, _, World.drewN_drewN _ _ _⟩ | exact ⟨rfl, _, Eq.trans (World.drewN_drewN _ _ _) (congrArg (World.drewN _) (Nat.add_assoc _ _ _))⟩)) | (go_at_call 67; (with_reducible refine (lib_in.calls kj36 10000 _ _ l0_7 true _ ?side1 ?side2 A70.out).mono ?_); (case side1 => exact kc (Kd.C_below HR0_7.out bl)); (case side2 => exact HC0_7.out); rintro e w' ⟨rfl, ⟨nd, rfl⟩⟩; (try first | exact ⟨rfl, _, World.drewN_drewN _ _ _⟩ | exact ⟨rfl, _, Eq.trans (World.drewN_drewN _ _ _) (congrArg (World.drewN _) (Nat.add_assoc _ _ _))⟩)) | ((with_reducible refine gate_dst (N := 116) rfl ?_); (try (refine gate_guard (by rfl) ?_; dsimp only)); refine Kd.R_lit (Kd.int .i64) _ 3 ?hg (N := 116) ?hd (xs := ([a0_9, a0_10] : List Int)) (inner := [.int .i64 a0_9, .int .i64 a0_10]) (ok := fun _ => True) (okp := fun _ => True) ?hr ?hp (fun _ hk => hk) trivial (Below.refl _ _) (Nat.le_refl _) (by simp) ?_; (case hd => rfl); (case hg => rfl); (case hr => first | (go_simp; done) | (go_simp; rfl)); (case hp => exact (Reps.one (show Kd.M (Kd.int .i64) _ _ _ a0_9 [.int .i64 a0_9] from rfl) (Reps.one (show Kd.M (Kd.int .i64) _ _ _ a0_10 [.int .i64 a0_10] from rfl) (Reps.none _ _)))); intro v319 w74 ho75 hb hg_ hnew_; clear hg_ hnew_; (first | rw [← Ny318.out] at ho75 | (simp only [Int.reduceToNat] at ho75; rw [← Ny318.out] at ho75)); have HO320 := Aside0.mk (Kd.R_lower ho75 (below_size bl)); replace BK303 := Aside0.mk (bb BK303.out hb); replace HB := Aside0.mk (below_step bl hb); clear hb ho75; obtain ⟨Ao76, co76, eo76⟩ := Kd.R_slice HO320.out; subst eo76) | (go_at_call 67; (with_reducible refine (lib_in.calls kj36 10000 _ _ y318 t321 _ ?side1 ?side2 A72.out).mono ?_); (case side1 => exact kc ((Kd.R_reads' HO320.out).2.2)); (case side2 => exact (Kd.R_reads' HO320.out).2.1); rintro e w' ⟨rfl, ⟨nd, rfl⟩⟩; (try first | exact ⟨rfl, _, World.drewN_drewN _ _ _⟩ | exact ⟨rfl, _, Eq.trans (World.drewN_drewN _ _ _) (congrArg (World.drewN _) (Nat.add_assoc _ _ _))⟩)))
        repeat (go_quiet (fail); try go_wp2_with fail)
        go_meet
        case rel => exact ⟨_, (!t321), (by first | rfl | (simp; done) | (simp [*]; done)), H', ⟨by have := HJ3.out; have := HJ11.out; have := HJ20.out; have := HJ27.out; have := HJ36.out; first | omega | exact Nat.le_refl _⟩, ⟨bk BK303.out⟩, ⟨bl⟩⟩
       clear HC67
       obtain ⟨kq, x100_66, rfl, HA, HJ66, BK303, HB⟩ := hcut
       cases kq with
       | zero => exact absurd HA.out (by simp [lib_CheckCell.j5])
       | succ kj66 =>
        have H := HA.out
        clear HA
        simp only [lib_CheckCell.j5] at H
        by_cases c79 : x100_66 = true
        · subst c79
          have H1 : (some 2) = some r := by rw [if_pos rfl] at H; exact H
          clear H
          have H := H1
          clear H1
          obtain rfl := Option.some.inj H
          go_wp2
          repeat (go_quiet (fail); try go_wp2)
          go_ret
          exact ⟨by first | rfl | (simp [errW_none, errW_some] <;> rfl) | (simp [*, errW_none, errW_some] <;> rfl), bl⟩
        replace c79 := Bool.eq_false_iff.mpr c79
        subst c79
        have H1 : (if a0_1 = true then (lib_CheckCell.j6 kj66 a0_0 a0_1 a0_2 a0_3 a0_4 l0_5 l0_6 l0_7 a0_8 a0_9 a0_10) else (if a0_9 = 0 then (if a0_10 = 0 then (lib_CheckCell.j6 kj66 a0_0 a0_1 a0_2 a0_3 a0_4 l0_5 l0_6 l0_7 a0_8 a0_9 a0_10) else (some 4)) else (some 4))) = some r := by rw [if_neg (show ¬ (false = true) by decide)] at H; exact H
        clear H
        have H := H1
        clear H1
        by_cases c80 : a0_1 = true
        · subst c80
          have H1 : (lib_CheckCell.j6 kj66 a0_0 true a0_2 a0_3 a0_4 l0_5 l0_6 l0_7 a0_8 a0_9 a0_10) = some r := by rw [if_pos rfl] at H; exact H
          clear H
          have H := H1
          clear H1
          have H' := Aside0.mk H
          clear H
          obtain ⟨hcz81_0, hcz81_1, hcz81_2, hcz81_3, hcz81_4, hcz81_5, hcz81_6, hcz81_7, hcz81_8, hcz81_9, hcz81_10, hfz81_0, hfz81_1, hfz81_2, hfz81_3, hfz81_4, hfz81_5, hfz81_6, hfz81_7, hfz81_8, hfz81_9, hfz81_10⟩ := bz11 BK303.out
          go_wp2
          repeat (go_quiet (fail); try go_wp2)
          go_meet
          case rel => exact ⟨_, H', ⟨by have := HJ3.out; have := HJ11.out; have := HJ20.out; have := HJ27.out; have := HJ36.out; have := HJ66.out; first | omega | exact Nat.le_refl _⟩, ⟨bk BK303.out⟩, ⟨bl⟩⟩
        replace c80 := Bool.eq_false_iff.mpr c80
        subst c80
        have H1 : (if a0_9 = 0 then (if a0_10 = 0 then (lib_CheckCell.j6 kj66 a0_0 false a0_2 a0_3 a0_4 l0_5 l0_6 l0_7 a0_8 a0_9 a0_10) else (some 4)) else (some 4)) = some r := by rw [if_neg (show ¬ (false = true) by decide)] at H; exact H
        clear H
        have H := H1
        clear H1
        by_cases c82 : a0_9 = 0
        rotate_left
        · rw [if_neg c82] at H
          have c82b1 : (a0_9 != 0) = true := bne_iff_ne.mpr c82
          obtain rfl := Option.some.inj H
          obtain ⟨hcz86_0, hcz86_1, hcz86_2, hcz86_3, hcz86_4, hcz86_5, hcz86_6, hcz86_7, hcz86_8, hcz86_9, hcz86_10, hfz86_0, hfz86_1, hfz86_2, hfz86_3, hfz86_4, hfz86_5, hfz86_6, hfz86_7, hfz86_8, hfz86_9, hfz86_10⟩ := bz11 BK303.out
          go_wp2
          repeat (go_quiet (fail); try go_wp2)
          go_ret
          exact ⟨by first | rfl | (simp [errW_none, errW_some] <;> rfl) | (simp [*, errW_none, errW_some] <;> rfl), bl⟩
        rw [if_pos c82] at H
        have c82b0 : (a0_9 == 0) = true := beq_iff_eq.mpr c82
        have c82b1 : (a0_9 != 0) = false := bne_eq_false_iff_eq.mpr c82
        clear c82
        by_cases c83 : a0_10 = 0
        rotate_left
        · rw [if_neg c83] at H
          have c83b1 : (a0_10 != 0) = true := bne_iff_ne.mpr c83
          obtain rfl := Option.some.inj H
          obtain ⟨hcz85_0, hcz85_1, hcz85_2, hcz85_3, hcz85_4, hcz85_5, hcz85_6, hcz85_7, hcz85_8, hcz85_9, hcz85_10, hfz85_0, hfz85_1, hfz85_2, hfz85_3, hfz85_4, hfz85_5, hfz85_6, hfz85_7, hfz85_8, hfz85_9, hfz85_10⟩ := bz11 BK303.out
          go_wp2
          repeat (go_quiet (fail); try go_wp2)
          go_ret
          exact ⟨by first | rfl | (simp [errW_none, errW_some] <;> rfl) | (simp [*, errW_none, errW_some] <;> rfl), bl⟩
        rw [if_pos c83] at H
        have c83b1 : (a0_10 != 0) = false := bne_eq_false_iff_eq.mpr c83
        clear c83
        have H' := Aside0.mk H
        clear H
        obtain ⟨hcz84_0, hcz84_1, hcz84_2, hcz84_3, hcz84_4, hcz84_5, hcz84_6, hcz84_7, hcz84_8, hcz84_9, hcz84_10, hfz84_0, hfz84_1, hfz84_2, hfz84_3, hfz84_4, hfz84_5, hfz84_6, hfz84_7, hfz84_8, hfz84_9, hfz84_10⟩ := bz11 BK303.out
        go_wp2
        repeat (go_quiet (fail); try go_wp2)
        go_meet
        case rel => exact ⟨_, H', ⟨by have := HJ3.out; have := HJ11.out; have := HJ20.out; have := HJ27.out; have := HJ36.out; have := HJ66.out; first | omega | exact Nat.le_refl _⟩, ⟨bk BK303.out⟩, ⟨bl⟩⟩
  clear HC11
  obtain ⟨kq, HA, HJ10, BK303, HB⟩ := hcut
  cases kq with
  | zero => exact absurd HA.out (by simp [lib_CheckCell.j6])
  | succ kj10 =>
   have H := HA.out
   clear HA
   simp only [lib_CheckCell.j6] at H
   have H' := Aside0.mk H
   clear H
   obtain ⟨hcz87_0, hcz87_1, hcz87_2, hcz87_3, hcz87_4, hcz87_5, hcz87_6, hcz87_7, hcz87_8, hcz87_9, hcz87_10, hfz87_0, hfz87_1, hfz87_2, hfz87_3, hfz87_4, hfz87_5, hfz87_6, hfz87_7, hfz87_8, hfz87_9, hfz87_10⟩ := bz11 BK303.out
   go_wp2
   repeat (go_quiet (fail); try go_wp2)
   go_loopg [137] kj10 (fun kq v137 w' => ∃ (x137_3 : Int), v137 = .int .i64 x137_3 ∧ Aside0 (lib_CheckCell.l0 kq (l0_6.length : Int) x137_3 a0_0 a0_1 a0_2 a0_3 a0_4 l0_5 l0_6 l0_7 a0_8 a0_9 a0_10 = some r) ∧ Aside0 (kq ≤ kj10) ∧ Aside0 (w'.heap[gb303]? = some (.cells #[.string a0_0, .bool a0_1, .int .i64 a0_2, .int .u64 a0_3, .int .i64 a0_4, (.slice A0_5 l0_5.length c0_5), (.slice A0_6 l0_6.length c0_6), (.slice A0_7 l0_7.length c0_7), .int .i64 a0_8, .int .i64 a0_9, .int .i64 a0_10] 48 (0, 0))) ∧ Aside0 (Below w.heap.size w w'))
   case atStart => exact ⟨(0), (by first | rfl | (simp; done) | (simp [*]; done)), H', ⟨Nat.le_refl _⟩, ⟨bk BK303.out⟩, ⟨bl⟩⟩
   clear H'
   clear hcz87_0 hcz87_1 hcz87_10 hcz87_2 hcz87_3 hcz87_4 hcz87_5 hcz87_6 hcz87_7 hcz87_8 hcz87_9 hfz87_0 hfz87_1 hfz87_10 hfz87_2 hfz87_3 hfz87_4 hfz87_5 hfz87_6 hfz87_7 hfz87_8 hfz87_9
   obtain ⟨x137_3, rfl, HA, HK3, BK303, HB⟩ := hrel
   cases gk with
   | zero => exact absurd HA.out (by simp [lib_CheckCell.l0])
   | succ k3 =>
    have H := HA.out
    clear HA
    simp only [lib_CheckCell.l0] at H
    by_cases c88 : x137_3 < (l0_6.length : Int)
    rotate_left
    · rw [if_neg c88] at H
      have c88b0 : decide (x137_3 < (l0_6.length : Int)) = false := decide_eq_false c88
      clear c88
      obtain rfl := Option.some.inj H
      go_wp2
      repeat (go_quiet (fail); try go_wp2)
      go_ret
      exact ⟨by first | rfl | (simp [errW_none, errW_some] <;> rfl) | (simp [*, errW_none, errW_some] <;> rfl), bl⟩
    rw [if_pos c88] at H
    have c88b0 : decide (x137_3 < (l0_6.length : Int)) = true := decide_eq_true c88
    clear c88
    by_cases c89 : 0 ≤ x137_3
    rotate_left
    · rw [if_neg c89] at H
      exact absurd H (by simp)
    rw [if_pos c89] at H
    have c89b0 : decide (0 ≤ x137_3) = true := decide_eq_true c89
    clear c89
    by_cases c90 : x137_3 < (l0_6.length : Int)
    rotate_left
    · rw [if_neg c90] at H
      exact absurd H (by simp)
    rw [if_pos c90] at H
    have c90b0 : decide (x137_3 < (l0_6.length : Int)) = true := decide_eq_true c90
    clear c90
    by_cases c91 : x137_3 < (l0_7.length : Int)
    rotate_left
    · rw [if_neg c91] at H
      exact absurd H (by simp)
    rw [if_pos c91] at H
    have c91b0 : decide (x137_3 < (l0_7.length : Int)) = true := decide_eq_true c91
    clear c91
    by_cases c92 : (rd l0_6 x137_3) > (rd l0_7 x137_3)
    · rw [if_pos c92] at H
      have c92b0 : decide ((rd l0_7 x137_3) < (rd l0_6 x137_3)) = true := decide_eq_true c92
      clear c92
      obtain rfl := Option.some.inj H
      obtain ⟨hcz93_0, hcz93_1, hcz93_2, hcz93_3, hcz93_4, hcz93_5, hcz93_6, hcz93_7, hcz93_8, hcz93_9, hcz93_10, hfz93_0, hfz93_1, hfz93_2, hfz93_3, hfz93_4, hfz93_5, hfz93_6, hfz93_7, hfz93_8, hfz93_9, hfz93_10⟩ := bz11 BK303.out
      have p322 : 0 ≤ (x137_3 : Int) := of_decide_eq_true (by first | (with_reducible assumption) | assumption)
      have q322 : x137_3 < (l0_6.length : Int) := of_decide_eq_true (by first | (with_reducible assumption) | assumption)
      obtain ⟨ad322, e322, hx322_0⟩ := Kd.at_int HR0_6.out x137_3 p322 q322
      cases e322
      replace hx322_0 := hc HB.out hx322_0
      replace p322 := eq_true p322
      replace q322 := eq_true q322
      have p323 : 0 ≤ (x137_3 : Int) := of_decide_eq_true (by first | (with_reducible assumption) | assumption)
      have q323 : x137_3 < (l0_7.length : Int) := of_decide_eq_true (by first | (with_reducible assumption) | assumption)
      obtain ⟨ad323, e323, hx323_0⟩ := Kd.at_int HR0_7.out x137_3 p323 q323
      cases e323
      replace hx323_0 := hc HB.out hx323_0
      replace p323 := eq_true p323
      replace q323 := eq_true q323
      go_wp2
      repeat (go_quiet (fail); try go_wp2)
      go_ret
      exact ⟨by first | rfl | (simp [errW_none, errW_some] <;> rfl) | (simp [*, errW_none, errW_some] <;> rfl), bl⟩
    rw [if_neg c92] at H
    have c92b0 : decide ((rd l0_7 x137_3) < (rd l0_6 x137_3)) = false := decide_eq_false c92
    clear c92
    have H' := Aside0.mk H
    clear H
    obtain ⟨hcz94_0, hcz94_1, hcz94_2, hcz94_3, hcz94_4, hcz94_5, hcz94_6, hcz94_7, hcz94_8, hcz94_9, hcz94_10, hfz94_0, hfz94_1, hfz94_2, hfz94_3, hfz94_4, hfz94_5, hfz94_6, hfz94_7, hfz94_8, hfz94_9, hfz94_10⟩ := bz11 BK303.out
    have p322 : 0 ≤ (x137_3 : Int) := of_decide_eq_true (by first | (with_reducible assumption) | assumption)
    have q322 : x137_3 < (l0_6.length : Int) := of_decide_eq_true (by first | (with_reducible assumption) | assumption)
    obtain ⟨ad322, e322, hx322_0⟩ := Kd.at_int HR0_6.out x137_3 p322 q322
    cases e322
    replace hx322_0 := hc HB.out hx322_0
    replace p322 := eq_true p322
    replace q322 := eq_true q322
    have p323 : 0 ≤ (x137_3 : Int) := of_decide_eq_true (by first | (with_reducible assumption) | assumption)
    have q323 : x137_3 < (l0_7.length : Int) := of_decide_eq_true (by first | (with_reducible assumption) | assumption)
    obtain ⟨ad323, e323, hx323_0⟩ := Kd.at_int HR0_7.out x137_3 p323 q323
    cases e323
    replace hx323_0 := hc HB.out hx323_0
    replace p323 := eq_true p323
    replace q323 := eq_true q323
    go_wp2
    repeat (go_quiet (fail); try go_wp2)
    go_roundg k3
    case measure => have := HJ3.out; have := HJ10.out; have := HK3.out; omega
    case rel => exact ⟨(wrap64 (x137_3 + 1)), (by first | rfl | (simp; done) | (simp [*]; done)), H', ⟨by have := HJ3.out; have := HJ10.out; have := HK3.out; omega⟩, ⟨bk BK303.out⟩, ⟨bl⟩⟩

end Go.Proofs.YtpkpmdmmnhmnlaaDoor.PT
namespace Go.Proofs.YtpkpmdmmnhmnlaaDoor.PT
open Go.RowKit Go.Proofs.YtpkpmdmmnhmnlaaDoorW.PrintWords Go.Proofs.YtpkpmdmmnhmnlaaDoorW.PrintLast Go.Proofs.YtpkpmdmmnhmnlaaDoorW.PrintMore
attribute [local go_sem] max2_int min2_int max_two min_two max_three min_three max_four min_four   -- for this text's walks alone
set_option linter.unusedVariables false
set_option linter.unusedSimpArgs false

-- the contract of function 38 (maskwright/lib.Check): written by hand
/-! ### lib_Check: function 38 -/
def lib_Check.nmq (nm : ByteArray) (d : S48) : Bool := d.f0.toList == nm.toList
def lib_Check.tw (l : List (S48)) (i : Int) : Bool := (l.take i.toNat).any (lib_Check.nmq (rd_T48 l i).f0)
def lib_Check.l0 : Nat → List (S48) → Int → Option Int
  | 0, _, _ => none
  | k + 1, l, i => if i < (l.length : Int) then ((lib_CheckCell.f k (rd_T48 l i).f0 (rd_T48 l i).f1 (rd_T48 l i).f2 (rd_T48 l i).f3 (rd_T48 l i).f4 (rd_T48 l i).f5 (rd_T48 l i).f6 (rd_T48 l i).f7 (rd_T48 l i).f8 (rd_T48 l i).f9 (rd_T48 l i).f10).bind fun e => if e = 0 then (if lib_Check.tw l i = true then some 6 else lib_Check.l0 k l (i + 1)) else some e) else some 0
def lib_Check.f (k : Nat) (l0 : List (S48)) : Option Int := if (l0.length : Int) > 64 then some 3 else lib_Check.l0 k l0 0
theorem lib_Check.mono_l : ∀ k l i, LeO (lib_Check.l0 k l i) (lib_Check.l0 (k + 1) l i)
  | 0, _, _ => fun r h => by simp [lib_Check.l0] at h
  | k + 1, l, i => by
    unfold lib_Check.l0
    repeat' first
      | (with_reducible exact lib_Check.mono_l k _ _)
      | (with_reducible exact lib_CheckCell.mono _ _ _ _ _ _ _ _ _ _ _ _)
      | (with_reducible exact LeO.refl _)
      | (with_reducible refine LeO.ite ?_ ?_)
      | (with_reducible refine LeO.bind ?_ (fun _ => ?_))
theorem lib_Check.mono : ∀ l k, LeO (lib_Check.f k l) (lib_Check.f (k + 1) l) := by
 intro l k
 unfold lib_Check.f
 repeat' first
   | (with_reducible exact lib_Check.mono_l k _ _)
   | (with_reducible exact LeO.refl _)
   | (with_reducible refine LeO.ite ?_ ?_)
abbrev CkCell := S48
set_option maxHeartbeats 1000000 in
set_option maxRecDepth 100000 in
theorem lib_Check.clo (x : CkCell) (A5 A6 A7 : Option Addr) (c5 c6 c7 : Nat) (g : Nat) (nm : ByteArray) (w : World) (hg : w.cell? ⟨g, 0, none⟩ = some (.string nm)) (hl : g < w.heap.size) :
    Calls Tryd.prog 58 #[.agg #[.string x.f0, .bool x.f1, .int .i64 x.f2, .int .u64 x.f3, .int .i64 x.f4, .slice A5 x.f5.length c5, .slice A6 x.f6.length c6, .slice A7 x.f7.length c7, .int .i64 x.f8, .int .i64 x.f9, .int .i64 x.f10], .pointer (some ⟨g, 0, none⟩)] w fun e w' => e = .returned (.bool (lib_Check.nmq nm x)) ∧ Below w.heap.size w w' := by
 have HB := Aside0.mk (below_alloc (Below.refl w.heap.size w) (.cells #[.string x.f0, .bool x.f1, .int .i64 x.f2, .int .u64 x.f3, .int .i64 x.f4, .slice A5 x.f5.length c5, .slice A6 x.f6.length c6, .slice A7 x.f7.length c7, .int .i64 x.f8, .int .i64 x.f9, .int .i64 x.f10] 48))
 go_enter Tryd.func58, Tryd.ntmps58
 go_wp2
 go_ret
 exact ⟨rfl, HB.out⟩
set_option maxHeartbeats 1000000 in
set_option maxRecDepth 100000 in
theorem lib_Check.idx (A0 : Option Addr) (c0 : Nat) (l : List CkCell) (g : Nat) (nm : ByteArray) (w : World) (hr : Kd.C k48 w A0 l.length l) (hg : w.cell? ⟨g, 0, none⟩ = some (.string nm)) (hl : g < w.heap.size) :
    Calls Tryd.prog 68 #[.slice A0 l.length c0, .func (.func 58) #[] #[.pointer (some ⟨g, 0, none⟩)]] w fun e w' => (∃ i : Int, e = .returned (.int .i64 i) ∧ decide (0 ≤ i) = l.any (lib_Check.nmq nm)) ∧ Below w.heap.size w w' := by
 have h63 : l.length ≤ 9223372036854775807 := hr.2.1
 have HR := Aside0.mk hr
 have HG := Aside0.mk hg
 clear hr hg
 go_enter Tryd.func68, Tryd.ntmps68
 go_wp2
 go_loopw [8] (fun v wr => ∃ i : Int, 0 ≤ i ∧ i ≤ l.length ∧ v = .int .i64 i ∧ Aside0 (Below w.heap.size w wr) ∧ Aside0 (l.any (lib_Check.nmq nm) = (l.drop i.toNat).any (lib_Check.nmq nm))) (fun v _ => (l.length - (intOf v).toNat))
 case atStart => exact ⟨0, by omega, by omega, rfl, ⟨Below.refl _ _⟩, ⟨by simp⟩⟩
 obtain ⟨i, h0, h1, rfl, hb, ha⟩ := hrel
 by_cases hlt : i < l.length
 rotate_left
 · have hend : i.toNat = l.length := by omega
   have hA := Aside0.mk (show l.any (lib_Check.nmq nm) = false by rw [ha.out, hend, List.drop_length]; rfl)
   clear ha hend
   go_wp2
   go_ret
   exact ⟨⟨-1, rfl, by rw [hA.out]; rfl⟩, hb.out⟩
 obtain ⟨ad, A5, c5, A6, c6, A7, c7, rfl, d0, d1, d2, d3, d4, d5, d6, d7, d8, d9, d10, dr⟩ := at_T48 (Kd.C_below HR.out hb.out) i h0 hlt
 clear dr
 have HG1 := Aside0.mk ((hb.out.cell (p := ⟨g, 0, none⟩) hl).trans HG.out)
 have HL1 := Aside0.mk (show g < wr.heap.size from Nat.lt_of_lt_of_le hl hb.out.size)
 go_wp2_with fail
 refine (lib_Check.clo (rd_T48 l i) A5 A6 A7 c5 c6 c7 g nm _ HG1.out HL1.out).mono ?_
 rintro e w1 ⟨rfl, hw1⟩
 clear d0 d1 d2 d3 d4 d5 d6 d7 d8 d9 d10
 have hb1 := Aside0.mk (below_step hb.out hw1)
 clear hw1 hb HG1 HL1
 have hdrop : l.drop i.toNat = rd_T48 l i :: l.drop (i.toNat + 1) := by
   unfold rd_T48
   have hn : i.toNat < l.length := by omega
   rw [List.getD_eq_getElem?_getD, List.getElem?_eq_getElem hn]
   exact List.drop_eq_getElem_cons hn
 have hany : l.any (lib_Check.nmq nm) = (lib_Check.nmq nm (rd_T48 l i) || (l.drop (i.toNat + 1)).any (lib_Check.nmq nm)) := by rw [ha.out, hdrop, List.any_cons]
 clear hdrop ha
 cases hbv : lib_Check.nmq nm (rd_T48 l i) with
 | true =>
  have hA := Aside0.mk (show l.any (lib_Check.nmq nm) = true by rw [hany, hbv]; rfl)
  clear hany hbv
  go_wp2
  go_ret
  exact ⟨⟨i, rfl, by rw [hA.out]; exact decide_eq_true h0⟩, hb1.out⟩
 | false =>
  have hA := Aside0.mk (show l.any (lib_Check.nmq nm) = (l.drop (i + 1).toNat).any (lib_Check.nmq nm) by rw [hany, hbv, Bool.false_or, show (i + 1).toNat = i.toNat + 1 by omega])
  clear hany hbv
  go_wp2
  go_roundw
  case rel => exact ⟨i + 1, by omega, by omega, by go_num, hb1, hA⟩
  case measure => simp [intOf]; omega
set_option maxHeartbeats 1000000 in
set_option maxRecDepth 100000 in
theorem lib_Check.has (A0 : Option Addr) (c0 : Nat) (l : List CkCell) (g : Nat) (nm : ByteArray) (w : World) (hr : Kd.C k48 w A0 l.length l) (hg : w.cell? ⟨g, 0, none⟩ = some (.string nm)) (hl : g < w.heap.size) :
    Calls Tryd.prog 57 #[.slice A0 l.length c0, .func (.func 58) #[] #[.pointer (some ⟨g, 0, none⟩)]] w fun e w' => e = .returned (.bool (l.any (lib_Check.nmq nm))) ∧ Below w.heap.size w w' := by
 go_enter Tryd.func57, Tryd.ntmps57
 go_wp2_with fail
 refine (lib_Check.idx A0 c0 l g nm w hr hg hl).mono ?_
 rintro e w1 ⟨⟨i, rfl, hi⟩, hb⟩
 have H := Aside0.mk hi
 clear hi
 go_wp2
 go_ret
 exact ⟨by first | (rw [H.out]; rfl) | (rw [← H.out]; rfl), hb⟩
set_option maxHeartbeats 4000000 in
set_option maxRecDepth 100000 in
theorem lib_Check.calls (k : Nat) (A0 : Option Addr) (c0 : Nat) (l0 : List (S48)) (r : Int) (w : World) (hr0 : Kd.C k48 w A0 l0.length l0) (hc0 : l0.length ≤ c0) (h : lib_Check.f k l0 = some r) :
    Calls Tryd.prog 38 #[.slice A0 l0.length c0] w fun e w' => e = .returned (.int .i64 r) ∧ Below w.heap.size w w' := by
 have h63 : l0.length ≤ 9223372036854775807 := hr0.2.1
 have hmf : ∀ (fn : Fn) (first cap : Array Value) (w : World), (Instr.makeFunc fn first cap).run Tryd.prog w = .ok (.func fn first cap) w := fun _ _ _ _ => rfl
 have HR := Aside0.mk hr0
 have HM := Aside0.mk hc0
 have HB0 := Aside0.mk (Below.refl w.heap.size w)
 clear hr0 hc0
 by_cases hbig : 64 < l0.length
 · have d : decide (64 < (l0.length : Int)) = true := decide_eq_true (by omega)
   unfold lib_Check.f at h
   rw [if_pos (by omega)] at h
   obtain rfl := Option.some.inj h
   clear h
   go_enter Tryd.func38, Tryd.ntmps38
   go_wp2
   go_ret
   exact ⟨rfl, HB0.out⟩
 have d : decide (64 < (l0.length : Int)) = false := decide_eq_false (by omega)
 unfold lib_Check.f at h
 rw [if_neg (by omega)] at h
 have HH := Aside0.mk h
 clear h
 go_enter Tryd.func38, Tryd.ntmps38
 go_wp2
 go_loopw [11] (fun v wr => ∃ (i : Int) (kq : Nat), 0 ≤ i ∧ i ≤ l0.length ∧ v = .int .i64 i ∧ Aside0 (lib_Check.l0 kq l0 i = some r) ∧ Aside0 (Below w.heap.size w wr)) (fun v _ => (l0.length - (intOf v).toNat))
 case atStart => exact ⟨0, k, by omega, by omega, rfl, HH, HB0⟩
 clear HH HB0
 obtain ⟨i, kq, h0, h1, rfl, HA, HB⟩ := hrel
 cases kq with
 | zero => exact absurd HA.out (by simp [lib_Check.l0])
 | succ k1 =>
  have H := HA.out
  clear HA
  simp only [lib_Check.l0] at H
  by_cases hlt : i < (l0.length : Int)
  rotate_left
  · rw [if_neg hlt] at H
    have HF := Aside0.mk (Option.some.inj H)
    have e1 : decide (i < (l0.length : Int)) = false := decide_eq_false hlt
    clear hlt H
    go_wp2
    go_ret
    exact ⟨by rw [← HF.out]; rfl, HB.out⟩
  rw [if_pos hlt] at H
  obtain ⟨e, HE, H⟩ := Option.bind_eq_some_iff.mp H
  have HE' := Aside0.mk HE
  have HH := Aside0.mk H
  clear HE H
  obtain ⟨ad, A5, c5, A6, c6, A7, c7, rfl, d0, d1, d2, d3, d4, d5, d6, d7, d8, d9, d10, dr⟩ := at_T48 (Kd.C_below HR.out HB.out) i h0 hlt
  have DR := Aside0.mk dr
  clear dr
  have HB1 := Aside0.mk (below_alloc HB.out (.cells #[.string (rd_T48 l0 i).f0, .bool (rd_T48 l0 i).f1, .int .i64 (rd_T48 l0 i).f2, .int .u64 (rd_T48 l0 i).f3, .int .i64 (rd_T48 l0 i).f4, .slice A5 (rd_T48 l0 i).f5.length c5, .slice A6 (rd_T48 l0 i).f6.length c6, .slice A7 (rd_T48 l0 i).f7.length c7, .int .i64 (rd_T48 l0 i).f8, .int .i64 (rd_T48 l0 i).f9, .int .i64 (rd_T48 l0 i).f10] 48))
  have BK := Aside0.mk (blk_new wr (.cells #[.string (rd_T48 l0 i).f0, .bool (rd_T48 l0 i).f1, .int .i64 (rd_T48 l0 i).f2, .int .u64 (rd_T48 l0 i).f3, .int .i64 (rd_T48 l0 i).f4, .slice A5 (rd_T48 l0 i).f5.length c5, .slice A6 (rd_T48 l0 i).f6.length c6, .slice A7 (rd_T48 l0 i).f7.length c7, .int .i64 (rd_T48 l0 i).f8, .int .i64 (rd_T48 l0 i).f9, .int .i64 (rd_T48 l0 i).f10] 48))
  go_wp2_with fail
  refine (lib_CheckCell.calls k1 _ _ _ _ _ A5 c5 _ A6 c6 _ A7 c7 _ _ _ _ e _ (Kd.C_alloc DR.out.2.1 _) DR.out.1 (Kd.C_alloc DR.out.2.2.2.1 _) DR.out.2.2.1 (Kd.C_alloc DR.out.2.2.2.2.2 _) DR.out.2.2.2.2.1 HE'.out).mono ?_
  rintro ev w2 ⟨rfl, hw2⟩
  clear d0 d1 d2 d3 d4 d5 d6 d7 d8 d9 d10
  have HG := Aside0.mk ((blk_cell (blk_below BK.out hw2) 0).trans rfl)
  have HL := Aside0.mk (blk_lt (blk_below BK.out hw2))
  have HB2 := Aside0.mk (below_step HB1.out hw2)
  clear hw2 BK DR HB HB1 HE'
  by_cases he : e = 0
  rotate_left
  · have HF := Aside0.mk (Option.some.inj ((if_neg he).symm.trans HH.out))
    have f2 : (e != 0) = true := bne_iff_ne.mpr he
    clear he HH
    go_wp2
    go_ret
    exact ⟨by rw [HF.out]; rfl, HB2.out⟩
  subst he
  have HH' := Aside0.mk ((if_pos rfl).symm.trans HH.out)
  clear HH
  have e3 : (i ≤ (c0 : Int)) = True := eq_true (by have := HM.out; omega)
  have hln : (l0.take i.toNat).length = i.toNat := by rw [List.length_take]; omega
  have CC : Calls Tryd.prog 57 #[.slice (some ad) (l0.take i.toNat).length c0, .func (.func 58) #[] #[.pointer (some ⟨wr.heap.size, 0, none⟩)]] w2 fun e w' => e = .returned (.bool (lib_Check.tw l0 i)) ∧ Below w2.heap.size w2 w' :=
    lib_Check.has (some ad) c0 (l0.take i.toNat) wr.heap.size (rd_T48 l0 i).f0 w2 (Kd.C_take (Kd.C_below HR.out HB2.out) (by omega)) HG.out HL.out
  rw [hln] at CC
  have HCC := Aside0.mk CC
  clear CC hln
  go_wp2_with fail
  refine HCC.out.mono ?_
  rintro ev w3 ⟨rfl, hw3⟩
  have HB3 := Aside0.mk (below_step HB2.out hw3)
  clear hw3 HCC HB2 HG HL
  cases htw : lib_Check.tw l0 i with
  | true =>
   have HF := Aside0.mk (Option.some.inj ((if_pos htw).symm.trans HH'.out))
   clear htw HH'
   go_wp2
   go_ret
   exact ⟨by rw [← HF.out]; rfl, HB3.out⟩
  | false =>
   have HF := Aside0.mk ((if_neg (by rw [htw]; simp)).symm.trans HH'.out)
   clear htw HH'
   go_wp2
   go_roundw
   case rel => exact ⟨i + 1, k1, by omega, by omega, by go_num, HF, HB3⟩
   case measure => simp [intOf]; omega

end Go.Proofs.YtpkpmdmmnhmnlaaDoor.PT
namespace Go.Proofs.YtpkpmdmmnhmnlaaDoor.PT
open Go.RowKit Go.Proofs.YtpkpmdmmnhmnlaaDoorW.PrintWords Go.Proofs.YtpkpmdmmnhmnlaaDoorW.PrintLast Go.Proofs.YtpkpmdmmnhmnlaaDoorW.PrintMore
attribute [local go_sem] max2_int min2_int max_two min_two max_three min_three max_four min_four   -- for this text's walks alone
set_option linter.unusedVariables false
set_option linter.unusedSimpArgs false

/-! ### floor_Fits: function 39 -/
def floor_Fits.f (a0_0 : ByteArray) (a0_1 : Bool) (a0_2 : Int) (a0_3 : Int) (a0_4 : Int) (l0_5 : List Int) (l0_6 : List Int) (l0_7 : List Int) (a0_8 : Int) (a0_9 : Int) (a0_10 : Int) : Option (Bool) := if a0_4 ≥ 1 then (if a0_4 ≤ 40 then (some (decide ((wrap64 (2 * a0_2)) ≤ (wrap64 (4 * a0_4))))) else (some false)) else (some false)
set_option maxHeartbeats 8000000 in
set_option maxRecDepth 100000 in
theorem floor_Fits.calls (a0_0 : ByteArray) (a0_1 : Bool) (a0_2 : Int) (a0_3 : Int) (a0_4 : Int) (A0_5 : Option Addr) (c0_5 : Nat) (l0_5 : List Int) (A0_6 : Option Addr) (c0_6 : Nat) (l0_6 : List Int) (A0_7 : Option Addr) (c0_7 : Nat) (l0_7 : List Int) (a0_8 : Int) (a0_9 : Int) (a0_10 : Int) (r : Bool) (w : World) (hr0_5 : Kd.C (Kd.int .i64) w A0_5 l0_5.length l0_5) (hc0_5 : l0_5.length ≤ c0_5) (hr0_6 : Kd.C (Kd.int .i64) w A0_6 l0_6.length l0_6) (hc0_6 : l0_6.length ≤ c0_6) (hr0_7 : Kd.C (Kd.int .i64) w A0_7 l0_7.length l0_7) (hc0_7 : l0_7.length ≤ c0_7) (h : floor_Fits.f a0_0 a0_1 a0_2 a0_3 a0_4 l0_5 l0_6 l0_7 a0_8 a0_9 a0_10 = some r) :
    Calls Tryd.prog 39 #[.agg #[.string a0_0, .bool a0_1, .int .i64 a0_2, .int .u64 a0_3, .int .i64 a0_4, .slice A0_5 l0_5.length c0_5, .slice A0_6 l0_6.length c0_6, .slice A0_7 l0_7.length c0_7, .int .i64 a0_8, .int .i64 a0_9, .int .i64 a0_10]] w fun e w' => e = .returned (.bool r) ∧ Below w.heap.size w w' := by
 clear hr0_5 hc0_5
 clear hr0_6 hc0_6
 clear hr0_7 hc0_7
 have HB := Aside0.mk (Below.refl w.heap.size w)
 have H : (if a0_4 ≥ 1 then (if a0_4 ≤ 40 then (some (decide ((wrap64 (2 * a0_2)) ≤ (wrap64 (4 * a0_4))))) else (some false)) else (some false)) = some r := h
 clear h
 by_cases c2 : a0_4 ≥ 1
 rotate_left
 · rw [if_neg c2] at H
   have c2b0 : decide (1 ≤ a0_4) = false := decide_eq_false c2
   clear c2
   obtain rfl := Option.some.inj H
   go_enter Tryd.func39, Tryd.ntmps39
   go_wp2_with ((with_reducible refine gate_dst (N := 1) rfl ?_); refine box_event ?hg (N := 1) ?hd (cs := #[.string a0_0, .bool a0_1, .int .i64 a0_2, .int .u64 a0_3, .int .i64 a0_4, .slice A0_5 l0_5.length c0_5, .slice A0_6 l0_6.length c0_6, .slice A0_7 l0_7.length c0_7, .int .i64 a0_8, .int .i64 a0_9, .int .i64 a0_10]) (t := 48) ?hr ?_; (case hd => rfl); (case hg => rfl); (case hr => first | (go_simp; done) | (go_simp; rfl)); intro gb324 hg w8 hbox hb; have BK324 := Aside0.mk (hbox); replace HB := Aside0.mk (below_step bl hb); clear hb hbox hg; obtain ⟨hcz9_0, hcz9_1, hcz9_2, hcz9_3, hcz9_4, hcz9_5, hcz9_6, hcz9_7, hcz9_8, hcz9_9, hcz9_10, hfz9_0, hfz9_1, hfz9_2, hfz9_3, hfz9_4, hfz9_5, hfz9_6, hfz9_7, hfz9_8, hfz9_9, hfz9_10⟩ := bz11 BK324.out)
   go_ret
   exact ⟨by first | rfl | (simp [errW_none, errW_some] <;> rfl) | (simp [*, errW_none, errW_some] <;> rfl), bl⟩
 rw [if_pos c2] at H
 have c2b0 : decide (1 ≤ a0_4) = true := decide_eq_true c2
 clear c2
 by_cases c3 : a0_4 ≤ 40
 · rw [if_pos c3] at H
   have c3b0 : decide (a0_4 ≤ 40) = true := decide_eq_true c3
   clear c3
   obtain rfl := Option.some.inj H
   go_enter Tryd.func39, Tryd.ntmps39
   go_wp2_with ((with_reducible refine gate_dst (N := 1) rfl ?_); refine box_event ?hg (N := 1) ?hd (cs := #[.string a0_0, .bool a0_1, .int .i64 a0_2, .int .u64 a0_3, .int .i64 a0_4, .slice A0_5 l0_5.length c0_5, .slice A0_6 l0_6.length c0_6, .slice A0_7 l0_7.length c0_7, .int .i64 a0_8, .int .i64 a0_9, .int .i64 a0_10]) (t := 48) ?hr ?_; (case hd => rfl); (case hg => rfl); (case hr => first | (go_simp; done) | (go_simp; rfl)); intro gb324 hg w4 hbox hb; have BK324 := Aside0.mk (hbox); replace HB := Aside0.mk (below_step bl hb); clear hb hbox hg; obtain ⟨hcz5_0, hcz5_1, hcz5_2, hcz5_3, hcz5_4, hcz5_5, hcz5_6, hcz5_7, hcz5_8, hcz5_9, hcz5_10, hfz5_0, hfz5_1, hfz5_2, hfz5_3, hfz5_4, hfz5_5, hfz5_6, hfz5_7, hfz5_8, hfz5_9, hfz5_10⟩ := bz11 BK324.out)
   go_ret
   exact ⟨by first | rfl | (simp [errW_none, errW_some] <;> rfl) | (simp [*, errW_none, errW_some] <;> rfl), bl⟩
 rw [if_neg c3] at H
 have c3b0 : decide (a0_4 ≤ 40) = false := decide_eq_false c3
 clear c3
 obtain rfl := Option.some.inj H
 go_enter Tryd.func39, Tryd.ntmps39
 go_wp2_with ((with_reducible refine gate_dst (N := 1) rfl ?_); refine box_event ?hg (N := 1) ?hd (cs := #[.string a0_0, .bool a0_1, .int .i64 a0_2, .int .u64 a0_3, .int .i64 a0_4, .slice A0_5 l0_5.length c0_5, .slice A0_6 l0_6.length c0_6, .slice A0_7 l0_7.length c0_7, .int .i64 a0_8, .int .i64 a0_9, .int .i64 a0_10]) (t := 48) ?hr ?_; (case hd => rfl); (case hg => rfl); (case hr => first | (go_simp; done) | (go_simp; rfl)); intro gb324 hg w6 hbox hb; have BK324 := Aside0.mk (hbox); replace HB := Aside0.mk (below_step bl hb); clear hb hbox hg; obtain ⟨hcz7_0, hcz7_1, hcz7_2, hcz7_3, hcz7_4, hcz7_5, hcz7_6, hcz7_7, hcz7_8, hcz7_9, hcz7_10, hfz7_0, hfz7_1, hfz7_2, hfz7_3, hfz7_4, hfz7_5, hfz7_6, hfz7_7, hfz7_8, hfz7_9, hfz7_10⟩ := bz11 BK324.out)
 go_ret
 exact ⟨by first | rfl | (simp [errW_none, errW_some] <;> rfl) | (simp [*, errW_none, errW_some] <;> rfl), bl⟩

end Go.Proofs.YtpkpmdmmnhmnlaaDoor.PT
namespace Go.Proofs.YtpkpmdmmnhmnlaaDoor.PT
open Go.RowKit Go.Proofs.YtpkpmdmmnhmnlaaDoorW.PrintWords Go.Proofs.YtpkpmdmmnhmnlaaDoorW.PrintLast Go.Proofs.YtpkpmdmmnhmnlaaDoorW.PrintMore
attribute [local go_sem] max2_int min2_int max_two min_two max_three min_three max_four min_four   -- for this text's walks alone
set_option linter.unusedVariables false
set_option linter.unusedSimpArgs false

/-! ### floor_CheckLib: function 27 -/
def floor_CheckLib.l0 : Nat → List (S48) → Int → Int → Option (Int)
 | 0, _, _, _ => none
 | k + 1, x11, x12, x13 => if x13 < x12 then (if 0 ≤ x13 then (if x13 < (x11.length : Int) then ((floor_Fits.f ((rd_T48 x11 x13).f0) ((rd_T48 x11 x13).f1) ((rd_T48 x11 x13).f2) ((rd_T48 x11 x13).f3) ((rd_T48 x11 x13).f4) ((rd_T48 x11 x13).f5) ((rd_T48 x11 x13).f6) ((rd_T48 x11 x13).f7) ((rd_T48 x11 x13).f8) ((rd_T48 x11 x13).f9) ((rd_T48 x11 x13).f10)).bind fun t328 => (if t328 = true then (floor_CheckLib.l0 k x11 x12 (wrap64 (x13 + 1))) else (some 4))) else (none)) else (none)) else (some 0)
def floor_CheckLib.f (k : Nat) (l0 : List (S48)) : Option (Int) := (lib_Check.f k l0).bind fun t325 => (if t325 = 0 then (floor_CheckLib.l0 k l0 (l0.length : Int) 0) else (some t325))
theorem floor_CheckLib.mono_l : ∀ k, (∀ y0 y1 y2, LeO (floor_CheckLib.l0 k y0 y1 y2) (floor_CheckLib.l0 (k + 1) y0 y1 y2))
 | 0 => fun _ _ _ r h => by simp [floor_CheckLib.l0] at h
 | k + 1 => by
  have ih0 := floor_CheckLib.mono_l k
  · intro y0 y1 y2
    unfold floor_CheckLib.l0
    repeat' first
    | (with_reducible exact ih0 _ _ _)
    | (with_reducible exact LeO.refl _)
    | (with_reducible exact LeO.none _)
    | (with_reducible refine LeO.ite ?_ ?_)
    | (with_reducible refine LeO.bind ?_ (fun _ => ?_))
theorem floor_CheckLib.mono : ∀ a0 k, LeO (floor_CheckLib.f k a0) (floor_CheckLib.f (k + 1) a0) := by
 intro a0 k
 have ih0 := floor_CheckLib.mono_l k
 unfold floor_CheckLib.f
 repeat' first
  | (with_reducible exact ih0 _ _ _)
  | (with_reducible exact lib_Check.mono _ _)
  | (with_reducible exact LeO.refl _)
  | (with_reducible exact LeO.none _)
  | (with_reducible refine LeO.ite ?_ ?_)
  | (with_reducible refine LeO.bind ?_ (fun _ => ?_))
set_option maxHeartbeats 8000000 in
set_option maxRecDepth 100000 in
theorem floor_CheckLib.calls (k : Nat) (A0 : Option Addr) (c0 : Nat) (l0 : List (S48)) (r : Int) (w : World) (hr0 : Kd.C k48 w A0 l0.length l0) (hc0 : l0.length ≤ c0) (h : floor_CheckLib.f k l0 = some r) :
 Calls Tryd.prog 27 #[.slice A0 l0.length c0] w fun e w' => e = .returned (.int .i64 r) ∧ Below w.heap.size w w' := by
 have HR0 := Aside0.mk hr0
 have HC0 := Aside0.mk hc0
 clear hr0 hc0
 have HB := Aside0.mk (Below.refl w.heap.size w)
 have H : ((lib_Check.f k l0).bind fun t325 => (if t325 = 0 then (floor_CheckLib.l0 k l0 (l0.length : Int) 0) else (some t325))) = some r := h
 clear h
 replace H := Option.bind_eq_some_iff.mp H
 obtain ⟨t325, A20, H⟩ := H
 replace H : (if t325 = 0 then (floor_CheckLib.l0 k l0 (l0.length : Int) 0) else (some t325)) = some r := H
 have A2 := Aside0.mk A20
 clear A20
 by_cases c3 : t325 = 0
 rotate_left
 · rw [if_neg c3] at H
   have c3b1 : (t325 != 0) = true := bne_iff_ne.mpr c3
   obtain rfl := Option.some.inj H
   go_enter Tryd.func27, Tryd.ntmps27
   go_wp2_with ((with_reducible refine gate_callee (f := 38) rfl ?_); refine goesL_ (some 7) rfl rfl Tryd.func38 (by kernel_rfl) rfl #[.slice A0 l0.length c0] rfl (by (try simp only [List.map_toArray, List.map_cons, List.map_nil]); first | done | rfl | (simp only [List.length_drop, List.length_take]; rfl)) ?_; (with_reducible refine (lib_Check.calls k _ _ l0 t325 _ ?side1 ?side2 A2.out).mono ?_); (case side1 => exact kc HR0.out); (case side2 => exact HC0.out); rintro e w16 ⟨rfl, hb⟩; refine ⟨_, rfl, ?_⟩; replace HB := Aside0.mk (below_step bl hb); (try clear hb))
   go_ret
   exact ⟨by first | rfl | (simp [errW_none, errW_some] <;> rfl) | (simp [*, errW_none, errW_some] <;> rfl), bl⟩
 rw [if_pos c3] at H
 have c3b0 : (t325 == 0) = true := beq_iff_eq.mpr c3
 have c3b1 : (t325 != 0) = false := bne_eq_false_iff_eq.mpr c3
 clear c3
 have H' := Aside0.mk H
 clear H
 go_enter Tryd.func27, Tryd.ntmps27
 go_wp2_with ((with_reducible refine gate_callee (f := 38) rfl ?_); refine goesL_ (some 7) rfl rfl Tryd.func38 (by kernel_rfl) rfl #[.slice A0 l0.length c0] rfl (by (try simp only [List.map_toArray, List.map_cons, List.map_nil]); first | done | rfl | (simp only [List.length_drop, List.length_take]; rfl)) ?_; (with_reducible refine (lib_Check.calls k _ _ l0 t325 _ ?side1 ?side2 A2.out).mono ?_); (case side1 => exact kc HR0.out); (case side2 => exact HC0.out); rintro e w4 ⟨rfl, hb⟩; refine ⟨_, rfl, ?_⟩; replace HB := Aside0.mk (below_step bl hb); (try clear hb))
 go_loopg [13] k (fun kq v13 w' => ∃ (x13_1 : Int), v13 = .int .i64 x13_1 ∧ Aside0 (floor_CheckLib.l0 kq l0 (l0.length : Int) x13_1 = some r) ∧ Aside0 (kq ≤ k) ∧ Aside0 (Below w.heap.size w w'))
 case atStart => exact ⟨(0), (by first | rfl | (simp; done) | (simp [*]; done)), H', ⟨Nat.le_refl _⟩, ⟨bl⟩⟩
 clear H'
 clear c3b0 c3b1
 obtain ⟨x13_1, rfl, HA, HK1, HB⟩ := hrel
 cases gk with
 | zero => exact absurd HA.out (by simp [floor_CheckLib.l0])
 | succ k1 =>
  have H := HA.out
  clear HA
  simp only [floor_CheckLib.l0] at H
  by_cases c5 : x13_1 < (l0.length : Int)
  rotate_left
  · rw [if_neg c5] at H
    have c5b0 : decide (x13_1 < (l0.length : Int)) = false := decide_eq_false c5
    clear c5
    obtain rfl := Option.some.inj H
    go_wp2
    go_ret
    exact ⟨by first | rfl | (simp [errW_none, errW_some] <;> rfl) | (simp [*, errW_none, errW_some] <;> rfl), bl⟩
  rw [if_pos c5] at H
  have c5b0 : decide (x13_1 < (l0.length : Int)) = true := decide_eq_true c5
  clear c5
  by_cases c6 : 0 ≤ x13_1
  rotate_left
  · rw [if_neg c6] at H
    exact absurd H (by simp)
  rw [if_pos c6] at H
  have c6b0 : decide (0 ≤ x13_1) = true := decide_eq_true c6
  clear c6
  by_cases c7 : x13_1 < (l0.length : Int)
  rotate_left
  · rw [if_neg c7] at H
    exact absurd H (by simp)
  rw [if_pos c7] at H
  have c7b0 : decide (x13_1 < (l0.length : Int)) = true := decide_eq_true c7
  clear c7
  replace H := Option.bind_eq_some_iff.mp H
  obtain ⟨t328, A80, H⟩ := H
  replace H : (if t328 = true then (floor_CheckLib.l0 k1 l0 (l0.length : Int) (wrap64 (x13_1 + 1))) else (some 4)) = some r := H
  have A8 := Aside0.mk A80
  clear A80
  by_cases c9 : t328 = true
  rotate_left
  · replace c9 := Bool.eq_false_iff.mpr c9
    subst c9
    have H1 : (some 4) = some r := by rw [if_neg (show ¬ (false = true) by decide)] at H; exact H
    clear H
    have H := H1
    clear H1
    obtain rfl := Option.some.inj H
    have p326 : 0 ≤ (x13_1 : Int) := of_decide_eq_true (by first | (with_reducible assumption) | assumption)
    have q326 : x13_1 < (l0.length : Int) := of_decide_eq_true (by first | (with_reducible assumption) | assumption)
    obtain ⟨ad326, A326_5, c326_5, A326_6, c326_6, A326_7, c326_7, e326, hx326_0, hx326_1, hx326_2, hx326_3, hx326_4, hx326_5, hx326_6, hx326_7, hx326_8, hx326_9, hx326_10, hl326_5, hi326_5, hl326_6, hi326_6, hl326_7, hi326_7⟩ := at_T48 HR0.out x13_1 p326 q326
    cases e326
    replace hx326_0 := hc HB.out hx326_0
    replace hx326_1 := hc HB.out hx326_1
    replace hx326_2 := hc HB.out hx326_2
    replace hx326_3 := hc HB.out hx326_3
    replace hx326_4 := hc HB.out hx326_4
    replace hx326_5 := hc HB.out hx326_5
    replace hx326_6 := hc HB.out hx326_6
    replace hx326_7 := hc HB.out hx326_7
    replace hx326_8 := hc HB.out hx326_8
    replace hx326_9 := hc HB.out hx326_9
    replace hx326_10 := hc HB.out hx326_10
    have HR326_5 := Aside0.mk hi326_5
    have HC326_5 := Aside0.mk hl326_5
    clear hi326_5 hl326_5
    have HR326_6 := Aside0.mk hi326_6
    have HC326_6 := Aside0.mk hl326_6
    clear hi326_6 hl326_6
    have HR326_7 := Aside0.mk hi326_7
    have HC326_7 := Aside0.mk hl326_7
    clear hi326_7 hl326_7
    replace p326 := eq_true p326
    replace q326 := eq_true q326
    go_wp2_with (first | ((with_reducible refine gate_dst (N := 5) rfl ?_); refine box_event ?hg (N := 5) ?hd (cs := #[.string (⟨#[]⟩ : ByteArray), .bool false, .int .i64 0, .int .u64 0, .int .i64 0, .slice none 0 0, .slice none 0 0, .slice none 0 0, .int .i64 0, .int .i64 0, .int .i64 0]) (t := 48) ?hr ?_; (case hd => rfl); (case hg => rfl); (case hr => first | (go_simp; done) | (go_simp; rfl)); intro gb327 hg w13 hbox hb; have BK327 := Aside0.mk (hbox); have GE327 := Aside0.mk (ge (w := w) hg); replace HB := Aside0.mk (below_step bl hb); clear hb hbox hg; obtain ⟨hcz14_0, hcz14_1, hcz14_2, hcz14_3, hcz14_4, hcz14_5, hcz14_6, hcz14_7, hcz14_8, hcz14_9, hcz14_10, hfz14_0, hfz14_1, hfz14_2, hfz14_3, hfz14_4, hfz14_5, hfz14_6, hfz14_7, hfz14_8, hfz14_9, hfz14_10⟩ := bz11 BK327.out) | ((with_reducible refine gate_callee (f := 39) rfl ?_); refine goesL_ (some 18) rfl rfl Tryd.func39 (by kernel_rfl) rfl #[.agg #[.string ((rd_T48 l0 x13_1).f0), .bool ((rd_T48 l0 x13_1).f1), .int .i64 ((rd_T48 l0 x13_1).f2), .int .u64 ((rd_T48 l0 x13_1).f3), .int .i64 ((rd_T48 l0 x13_1).f4), .slice A326_5 ((rd_T48 l0 x13_1).f5).length c326_5, .slice A326_6 ((rd_T48 l0 x13_1).f6).length c326_6, .slice A326_7 ((rd_T48 l0 x13_1).f7).length c326_7, .int .i64 ((rd_T48 l0 x13_1).f8), .int .i64 ((rd_T48 l0 x13_1).f9), .int .i64 ((rd_T48 l0 x13_1).f10)]] rfl (by (try simp only [List.map_toArray, List.map_cons, List.map_nil]); first | done | rfl | (simp only [List.length_drop, List.length_take]; rfl)) ?_; (with_reducible refine (floor_Fits.calls ((rd_T48 l0 x13_1).f0) ((rd_T48 l0 x13_1).f1) ((rd_T48 l0 x13_1).f2) ((rd_T48 l0 x13_1).f3) ((rd_T48 l0 x13_1).f4) _ _ ((rd_T48 l0 x13_1).f5) _ _ ((rd_T48 l0 x13_1).f6) _ _ ((rd_T48 l0 x13_1).f7) ((rd_T48 l0 x13_1).f8) ((rd_T48 l0 x13_1).f9) ((rd_T48 l0 x13_1).f10) false _ ?side1 ?side2 ?side3 ?side4 ?side5 ?side6 A8.out).mono ?_); (case side1 => exact Kd.C_below HR326_5.out bl); (case side2 => exact HC326_5.out); (case side3 => exact Kd.C_below HR326_6.out bl); (case side4 => exact HC326_6.out); (case side5 => exact Kd.C_below HR326_7.out bl); (case side6 => exact HC326_7.out); rintro e w15 ⟨rfl, hb⟩; refine ⟨_, rfl, ?_⟩; replace BK327 := Aside0.mk (blk_below (g := gb327) (o := .cells #[.string ((rd_T48 l0 x13_1).f0), .bool ((rd_T48 l0 x13_1).f1), .int .i64 ((rd_T48 l0 x13_1).f2), .int .u64 ((rd_T48 l0 x13_1).f3), .int .i64 ((rd_T48 l0 x13_1).f4), .slice A326_5 ((rd_T48 l0 x13_1).f5).length c326_5, .slice A326_6 ((rd_T48 l0 x13_1).f6).length c326_6, .slice A326_7 ((rd_T48 l0 x13_1).f7).length c326_7, .int .i64 ((rd_T48 l0 x13_1).f8), .int .i64 ((rd_T48 l0 x13_1).f9), .int .i64 ((rd_T48 l0 x13_1).f10)] 48 (0, 0)) (by (with_reducible repeat (first | refine blk_drewN ?_ _ | refine blk_drew ?_ | refine blk_alloc ?_ _)); refine blk_put (cs := #[.string ((rd_T48 l0 x13_1).f0), .bool ((rd_T48 l0 x13_1).f1), .int .i64 ((rd_T48 l0 x13_1).f2), .int .u64 ((rd_T48 l0 x13_1).f3), .int .i64 ((rd_T48 l0 x13_1).f4), .slice A326_5 ((rd_T48 l0 x13_1).f5).length c326_5, .slice A326_6 ((rd_T48 l0 x13_1).f6).length c326_6, .slice A326_7 ((rd_T48 l0 x13_1).f7).length c326_7, .int .i64 ((rd_T48 l0 x13_1).f8), .int .i64 ((rd_T48 l0 x13_1).f9), .int .i64 0]) ?_ 10 _ rfl; (with_reducible repeat (first | refine blk_drewN ?_ _ | refine blk_drew ?_ | refine blk_alloc ?_ _)); refine blk_put (cs := #[.string ((rd_T48 l0 x13_1).f0), .bool ((rd_T48 l0 x13_1).f1), .int .i64 ((rd_T48 l0 x13_1).f2), .int .u64 ((rd_T48 l0 x13_1).f3), .int .i64 ((rd_T48 l0 x13_1).f4), .slice A326_5 ((rd_T48 l0 x13_1).f5).length c326_5, .slice A326_6 ((rd_T48 l0 x13_1).f6).length c326_6, .slice A326_7 ((rd_T48 l0 x13_1).f7).length c326_7, .int .i64 ((rd_T48 l0 x13_1).f8), .int .i64 0, .int .i64 0]) ?_ 9 _ rfl; (with_reducible repeat (first | refine blk_drewN ?_ _ | refine blk_drew ?_ | refine blk_alloc ?_ _)); refine blk_put (cs := #[.string ((rd_T48 l0 x13_1).f0), .bool ((rd_T48 l0 x13_1).f1), .int .i64 ((rd_T48 l0 x13_1).f2), .int .u64 ((rd_T48 l0 x13_1).f3), .int .i64 ((rd_T48 l0 x13_1).f4), .slice A326_5 ((rd_T48 l0 x13_1).f5).length c326_5, .slice A326_6 ((rd_T48 l0 x13_1).f6).length c326_6, .slice A326_7 ((rd_T48 l0 x13_1).f7).length c326_7, .int .i64 0, .int .i64 0, .int .i64 0]) ?_ 8 _ rfl; (with_reducible repeat (first | refine blk_drewN ?_ _ | refine blk_drew ?_ | refine blk_alloc ?_ _)); refine blk_put (cs := #[.string ((rd_T48 l0 x13_1).f0), .bool ((rd_T48 l0 x13_1).f1), .int .i64 ((rd_T48 l0 x13_1).f2), .int .u64 ((rd_T48 l0 x13_1).f3), .int .i64 ((rd_T48 l0 x13_1).f4), .slice A326_5 ((rd_T48 l0 x13_1).f5).length c326_5, .slice A326_6 ((rd_T48 l0 x13_1).f6).length c326_6, .slice none 0 0, .int .i64 0, .int .i64 0, .int .i64 0]) ?_ 7 _ rfl; (with_reducible repeat (first | refine blk_drewN ?_ _ | refine blk_drew ?_ | refine blk_alloc ?_ _)); refine blk_put (cs := #[.string ((rd_T48 l0 x13_1).f0), .bool ((rd_T48 l0 x13_1).f1), .int .i64 ((rd_T48 l0 x13_1).f2), .int .u64 ((rd_T48 l0 x13_1).f3), .int .i64 ((rd_T48 l0 x13_1).f4), .slice A326_5 ((rd_T48 l0 x13_1).f5).length c326_5, .slice none 0 0, .slice none 0 0, .int .i64 0, .int .i64 0, .int .i64 0]) ?_ 6 _ rfl; (with_reducible repeat (first | refine blk_drewN ?_ _ | refine blk_drew ?_ | refine blk_alloc ?_ _)); refine blk_put (cs := #[.string ((rd_T48 l0 x13_1).f0), .bool ((rd_T48 l0 x13_1).f1), .int .i64 ((rd_T48 l0 x13_1).f2), .int .u64 ((rd_T48 l0 x13_1).f3), .int .i64 ((rd_T48 l0 x13_1).f4), .slice none 0 0, .slice none 0 0, .slice none 0 0, .int .i64 0, .int .i64 0, .int .i64 0]) ?_ 5 _ rfl; (with_reducible repeat (first | refine blk_drewN ?_ _ | refine blk_drew ?_ | refine blk_alloc ?_ _)); refine blk_put (cs := #[.string ((rd_T48 l0 x13_1).f0), .bool ((rd_T48 l0 x13_1).f1), .int .i64 ((rd_T48 l0 x13_1).f2), .int .u64 ((rd_T48 l0 x13_1).f3), .int .i64 0, .slice none 0 0, .slice none 0 0, .slice none 0 0, .int .i64 0, .int .i64 0, .int .i64 0]) ?_ 4 _ rfl; (with_reducible repeat (first | refine blk_drewN ?_ _ | refine blk_drew ?_ | refine blk_alloc ?_ _)); refine blk_put (cs := #[.string ((rd_T48 l0 x13_1).f0), .bool ((rd_T48 l0 x13_1).f1), .int .i64 ((rd_T48 l0 x13_1).f2), .int .u64 0, .int .i64 0, .slice none 0 0, .slice none 0 0, .slice none 0 0, .int .i64 0, .int .i64 0, .int .i64 0]) ?_ 3 _ rfl; (with_reducible repeat (first | refine blk_drewN ?_ _ | refine blk_drew ?_ | refine blk_alloc ?_ _)); refine blk_put (cs := #[.string ((rd_T48 l0 x13_1).f0), .bool ((rd_T48 l0 x13_1).f1), .int .i64 0, .int .u64 0, .int .i64 0, .slice none 0 0, .slice none 0 0, .slice none 0 0, .int .i64 0, .int .i64 0, .int .i64 0]) ?_ 2 _ rfl; (with_reducible repeat (first | refine blk_drewN ?_ _ | refine blk_drew ?_ | refine blk_alloc ?_ _)); refine blk_put (cs := #[.string ((rd_T48 l0 x13_1).f0), .bool false, .int .i64 0, .int .u64 0, .int .i64 0, .slice none 0 0, .slice none 0 0, .slice none 0 0, .int .i64 0, .int .i64 0, .int .i64 0]) ?_ 1 _ rfl; (with_reducible repeat (first | refine blk_drewN ?_ _ | refine blk_drew ?_ | refine blk_alloc ?_ _)); refine blk_put (cs := #[.string (⟨#[]⟩ : ByteArray), .bool false, .int .i64 0, .int .u64 0, .int .i64 0, .slice none 0 0, .slice none 0 0, .slice none 0 0, .int .i64 0, .int .i64 0, .int .i64 0]) ?_ 0 _ rfl; (with_reducible repeat (first | refine blk_drewN ?_ _ | refine blk_drew ?_ | refine blk_alloc ?_ _)); exact BK327.out) hb); replace HB := Aside0.mk (below_step bl hb); (try clear hb)))
    go_ret
    exact ⟨by first | rfl | (simp [errW_none, errW_some] <;> rfl) | (simp [*, errW_none, errW_some] <;> rfl), bl⟩
  subst c9
  have H1 : (floor_CheckLib.l0 k1 l0 (l0.length : Int) (wrap64 (x13_1 + 1))) = some r := by rw [if_pos rfl] at H; exact H
  clear H
  have H := H1
  clear H1
  have H' := Aside0.mk H
  clear H
  have p326 : 0 ≤ (x13_1 : Int) := of_decide_eq_true (by first | (with_reducible assumption) | assumption)
  have q326 : x13_1 < (l0.length : Int) := of_decide_eq_true (by first | (with_reducible assumption) | assumption)
  obtain ⟨ad326, A326_5, c326_5, A326_6, c326_6, A326_7, c326_7, e326, hx326_0, hx326_1, hx326_2, hx326_3, hx326_4, hx326_5, hx326_6, hx326_7, hx326_8, hx326_9, hx326_10, hl326_5, hi326_5, hl326_6, hi326_6, hl326_7, hi326_7⟩ := at_T48 HR0.out x13_1 p326 q326
  cases e326
  replace hx326_0 := hc HB.out hx326_0
  replace hx326_1 := hc HB.out hx326_1
  replace hx326_2 := hc HB.out hx326_2
  replace hx326_3 := hc HB.out hx326_3
  replace hx326_4 := hc HB.out hx326_4
  replace hx326_5 := hc HB.out hx326_5
  replace hx326_6 := hc HB.out hx326_6
  replace hx326_7 := hc HB.out hx326_7
  replace hx326_8 := hc HB.out hx326_8
  replace hx326_9 := hc HB.out hx326_9
  replace hx326_10 := hc HB.out hx326_10
  have HR326_5 := Aside0.mk hi326_5
  have HC326_5 := Aside0.mk hl326_5
  clear hi326_5 hl326_5
  have HR326_6 := Aside0.mk hi326_6
  have HC326_6 := Aside0.mk hl326_6
  clear hi326_6 hl326_6
  have HR326_7 := Aside0.mk hi326_7
  have HC326_7 := Aside0.mk hl326_7
  clear hi326_7 hl326_7
  replace p326 := eq_true p326
  replace q326 := eq_true q326
  go_wp2_with (first | ((with_reducible refine gate_dst (N := 5) rfl ?_); refine box_event ?hg (N := 5) ?hd (cs := #[.string (⟨#[]⟩ : ByteArray), .bool false, .int .i64 0, .int .u64 0, .int .i64 0, .slice none 0 0, .slice none 0 0, .slice none 0 0, .int .i64 0, .int .i64 0, .int .i64 0]) (t := 48) ?hr ?_; (case hd => rfl); (case hg => rfl); (case hr => first | (go_simp; done) | (go_simp; rfl)); intro gb327 hg w10 hbox hb; have BK327 := Aside0.mk (hbox); have GE327 := Aside0.mk (ge (w := w) hg); replace HB := Aside0.mk (below_step bl hb); clear hb hbox hg; obtain ⟨hcz11_0, hcz11_1, hcz11_2, hcz11_3, hcz11_4, hcz11_5, hcz11_6, hcz11_7, hcz11_8, hcz11_9, hcz11_10, hfz11_0, hfz11_1, hfz11_2, hfz11_3, hfz11_4, hfz11_5, hfz11_6, hfz11_7, hfz11_8, hfz11_9, hfz11_10⟩ := bz11 BK327.out) | ((with_reducible refine gate_callee (f := 39) rfl ?_); refine goesL_ (some 18) rfl rfl Tryd.func39 (by kernel_rfl) rfl #[.agg #[.string ((rd_T48 l0 x13_1).f0), .bool ((rd_T48 l0 x13_1).f1), .int .i64 ((rd_T48 l0 x13_1).f2), .int .u64 ((rd_T48 l0 x13_1).f3), .int .i64 ((rd_T48 l0 x13_1).f4), .slice A326_5 ((rd_T48 l0 x13_1).f5).length c326_5, .slice A326_6 ((rd_T48 l0 x13_1).f6).length c326_6, .slice A326_7 ((rd_T48 l0 x13_1).f7).length c326_7, .int .i64 ((rd_T48 l0 x13_1).f8), .int .i64 ((rd_T48 l0 x13_1).f9), .int .i64 ((rd_T48 l0 x13_1).f10)]] rfl (by (try simp only [List.map_toArray, List.map_cons, List.map_nil]); first | done | rfl | (simp only [List.length_drop, List.length_take]; rfl)) ?_; (with_reducible refine (floor_Fits.calls ((rd_T48 l0 x13_1).f0) ((rd_T48 l0 x13_1).f1) ((rd_T48 l0 x13_1).f2) ((rd_T48 l0 x13_1).f3) ((rd_T48 l0 x13_1).f4) _ _ ((rd_T48 l0 x13_1).f5) _ _ ((rd_T48 l0 x13_1).f6) _ _ ((rd_T48 l0 x13_1).f7) ((rd_T48 l0 x13_1).f8) ((rd_T48 l0 x13_1).f9) ((rd_T48 l0 x13_1).f10) true _ ?side1 ?side2 ?side3 ?side4 ?side5 ?side6 A8.out).mono ?_); (case side1 => exact Kd.C_below HR326_5.out bl); (case side2 => exact HC326_5.out); (case side3 => exact Kd.C_below HR326_6.out bl); (case side4 => exact HC326_6.out); (case side5 => exact Kd.C_below HR326_7.out bl); (case side6 => exact HC326_7.out); rintro e w12 ⟨rfl, hb⟩; refine ⟨_, rfl, ?_⟩; replace BK327 := Aside0.mk (blk_below (g := gb327) (o := .cells #[.string ((rd_T48 l0 x13_1).f0), .bool ((rd_T48 l0 x13_1).f1), .int .i64 ((rd_T48 l0 x13_1).f2), .int .u64 ((rd_T48 l0 x13_1).f3), .int .i64 ((rd_T48 l0 x13_1).f4), .slice A326_5 ((rd_T48 l0 x13_1).f5).length c326_5, .slice A326_6 ((rd_T48 l0 x13_1).f6).length c326_6, .slice A326_7 ((rd_T48 l0 x13_1).f7).length c326_7, .int .i64 ((rd_T48 l0 x13_1).f8), .int .i64 ((rd_T48 l0 x13_1).f9), .int .i64 ((rd_T48 l0 x13_1).f10)] 48 (0, 0)) (by (with_reducible repeat (first | refine blk_drewN ?_ _ | refine blk_drew ?_ | refine blk_alloc ?_ _)); refine blk_put (cs := #[.string ((rd_T48 l0 x13_1).f0), .bool ((rd_T48 l0 x13_1).f1), .int .i64 ((rd_T48 l0 x13_1).f2), .int .u64 ((rd_T48 l0 x13_1).f3), .int .i64 ((rd_T48 l0 x13_1).f4), .slice A326_5 ((rd_T48 l0 x13_1).f5).length c326_5, .slice A326_6 ((rd_T48 l0 x13_1).f6).length c326_6, .slice A326_7 ((rd_T48 l0 x13_1).f7).length c326_7, .int .i64 ((rd_T48 l0 x13_1).f8), .int .i64 ((rd_T48 l0 x13_1).f9), .int .i64 0]) ?_ 10 _ rfl; (with_reducible repeat (first | refine blk_drewN ?_ _ | refine blk_drew ?_ | refine blk_alloc ?_ _)); refine blk_put (cs := #[.string ((rd_T48 l0 x13_1).f0), .bool ((rd_T48 l0 x13_1).f1), .int .i64 ((rd_T48 l0 x13_1).f2), .int .u64 ((rd_T48 l0 x13_1).f3), .int .i64 ((rd_T48 l0 x13_1).f4), .slice A326_5 ((rd_T48 l0 x13_1).f5).length c326_5, .slice A326_6 ((rd_T48 l0 x13_1).f6).length c326_6, .slice A326_7 ((rd_T48 l0 x13_1).f7).length c326_7, .int .i64 ((rd_T48 l0 x13_1).f8), .int .i64 0, .int .i64 0]) ?_ 9 _ rfl; (with_reducible repeat (first | refine blk_drewN ?_ _ | refine blk_drew ?_ | refine blk_alloc ?_ _)); refine blk_put (cs := #[.string ((rd_T48 l0 x13_1).f0), .bool ((rd_T48 l0 x13_1).f1), .int .i64 ((rd_T48 l0 x13_1).f2), .int .u64 ((rd_T48 l0 x13_1).f3), .int .i64 ((rd_T48 l0 x13_1).f4), .slice A326_5 ((rd_T48 l0 x13_1).f5).length c326_5, .slice A326_6 ((rd_T48 l0 x13_1).f6).length c326_6, .slice A326_7 ((rd_T48 l0 x13_1).f7).length c326_7, .int .i64 0, .int .i64 0, .int .i64 0]) ?_ 8 _ rfl; (with_reducible repeat (first | refine blk_drewN ?_ _ | refine blk_drew ?_ | refine blk_alloc ?_ _)); refine blk_put (cs := #[.string ((rd_T48 l0 x13_1).f0), .bool ((rd_T48 l0 x13_1).f1), .int .i64 ((rd_T48 l0 x13_1).f2), .int .u64 ((rd_T48 l0 x13_1).f3), .int .i64 ((rd_T48 l0 x13_1).f4), .slice A326_5 ((rd_T48 l0 x13_1).f5).length c326_5, .slice A326_6 ((rd_T48 l0 x13_1).f6).length c326_6, .slice none 0 0, .int .i64 0, .int .i64 0, .int .i64 0]) ?_ 7 _ rfl; (with_reducible repeat (first | refine blk_drewN ?_ _ | refine blk_drew ?_ | refine blk_alloc ?_ _)); refine blk_put (cs := #[.string ((rd_T48 l0 x13_1).f0), .bool ((rd_T48 l0 x13_1).f1), .int .i64 ((rd_T48 l0 x13_1).f2), .int .u64 ((rd_T48 l0 x13_1).f3), .int .i64 ((rd_T48 l0 x13_1).f4), .slice A326_5 ((rd_T48 l0 x13_1).f5).length c326_5, .slice none 0 0, .slice none 0 0, .int .i64 0, .int .i64 0, .int .i64 0]) ?_ 6 _ rfl; (with_reducible repeat (first | refine blk_drewN ?_ _ | refine blk_drew ?_ | refine blk_alloc ?_ _)); refine blk_put (cs := #[.string ((rd_T48 l0 x13_1).f0), .bool ((rd_T48 l0 x13_1).f1), .int .i64 ((rd_T48 l0 x13_1).f2), .int .u64 ((rd_T48 l0 x13_1).f3), .int .i64 ((rd_T48 l0 x13_1).f4), .slice none 0 0, .slice none 0 0, .slice none 0 0, .int .i64 0, .int .i64 0, .int .i64 0]) ?_ 5 _ rfl; (with_reducible repeat (first | refine blk_drewN ?_ _ | refine blk_drew ?_ | refine blk_alloc ?_ _)); refine blk_put (cs := #[.string ((rd_T48 l0 x13_1).f0), .bool ((rd_T48 l0 x13_1).f1), .int .i64 ((rd_T48 l0 x13_1).f2), .int .u64 ((rd_T48 l0 x13_1).f3), .int .i64 0, .slice none 0 0, .slice none 0 0, .slice none 0 0, .int .i64 0, .int .i64 0, .int .i64 0]) ?_ 4 _ rfl; (with_reducible repeat (first | refine blk_drewN ?_ _ | refine blk_drew ?_ | refine blk_alloc ?_ _)); refine blk_put (cs := #[.string ((rd_T48 l0 x13_1).f0), .bool ((rd_T48 l0 x13_1).f1), .int .i64 ((rd_T48 l0 x13_1).f2), .int .u64 0, .int .i64 0, .slice none 0 0, .slice none 0 0, .slice none 0 0, .int .i64 0, .int .i64 0, .int .i64 0]) ?_ 3 _ rfl; (with_reducible repeat (first | refine blk_drewN ?_ _ | refine blk_drew ?_ | refine blk_alloc ?_ _)); refine blk_put (cs := #[.string ((rd_T48 l0 x13_1).f0), .bool ((rd_T48 l0 x13_1).f1), .int .i64 0, .int .u64 0, .int .i64 0, .slice none 0 0, .slice none 0 0, .slice none 0 0, .int .i64 0, .int .i64 0, .int .i64 0]) ?_ 2 _ rfl; (with_reducible repeat (first | refine blk_drewN ?_ _ | refine blk_drew ?_ | refine blk_alloc ?_ _)); refine blk_put (cs := #[.string ((rd_T48 l0 x13_1).f0), .bool false, .int .i64 0, .int .u64 0, .int .i64 0, .slice none 0 0, .slice none 0 0, .slice none 0 0, .int .i64 0, .int .i64 0, .int .i64 0]) ?_ 1 _ rfl; (with_reducible repeat (first | refine blk_drewN ?_ _ | refine blk_drew ?_ | refine blk_alloc ?_ _)); refine blk_put (cs := #[.string (⟨#[]⟩ : ByteArray), .bool false, .int .i64 0, .int .u64 0, .int .i64 0, .slice none 0 0, .slice none 0 0, .slice none 0 0, .int .i64 0, .int .i64 0, .int .i64 0]) ?_ 0 _ rfl; (with_reducible repeat (first | refine blk_drewN ?_ _ | refine blk_drew ?_ | refine blk_alloc ?_ _)); exact BK327.out) hb); replace HB := Aside0.mk (below_step bl hb); (try clear hb)))
  go_roundg k1
  case measure => have := HK1.out; omega
  case rel => exact ⟨(wrap64 (x13_1 + 1)), (by first | rfl | (simp; done) | (simp [*]; done)), H', ⟨by have := HK1.out; omega⟩, ⟨bl⟩⟩

end Go.Proofs.YtpkpmdmmnhmnlaaDoor.PT
