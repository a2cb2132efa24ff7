-- PRINTED by print.py (a twelfth state) out of the translation. Not trusted: Lean checks it.
import Derived.Test.YtpkpmdmmnhmnlaaDoorCmp
import Derived.Test.YtpkpmdmmnhmnlaaDoorPTx0
import Derived.Test.YtpkpmdmmnhmnlaaDoorPTx13
import Derived.Test.YtpkpmdmmnhmnlaaDoorPTx59
namespace Go.Proofs.YtpkpmdmmnhmnlaaDoor.PT
open Go.RowKit Go.Proofs.YtpkpmdmmnhmnlaaDoorW.PrintWords Go.Proofs.YtpkpmdmmnhmnlaaDoorW.PrintLast Go.Proofs.YtpkpmdmmnhmnlaaDoorW.PrintMore
attribute [local go_sem] max2_int min2_int max_two min_two max_three min_three max_four min_four   -- for this text's walks alone
set_option linter.unusedVariables false
set_option linter.unusedSimpArgs false

/-! ### floor_CheckChip: function 10 -/
mutual
def floor_CheckChip.l0 : Nat → List (S51) → Int → Int → List ByteArray → List ByteArray → List (S44) → List (S51) → List Int → Option (Int)
 | 0, _, _, _, _, _, _, _, _ => none
 | k + 1, x23, x24, x25, x330000, x330001, x330002, x330003, x330004 => if x25 < x24 then (if 0 ≤ x25 then (if x25 < (x23.length : Int) then (if ((rd_T51 x23 x25).f0) < 0 then (some 8) else (floor_CheckChip.l0 k x23 x24 (wrap64 (x25 + 1)) x330000 x330001 x330002 x330003 x330004)) else (none)) else (none)) else (floor_CheckChip.l1 k x330002 (x330002.length : Int) 0 x330000 x330001 x330002 x330003 x330004)
def floor_CheckChip.l1 : Nat → List (S44) → Int → Int → List ByteArray → List ByteArray → List (S44) → List (S51) → List Int → Option (Int)
 | 0, _, _, _, _, _, _, _, _ => none
 | k + 1, x34, x35, x36, x330000, x330001, x330002, x330003, x330004 => if x36 < x35 then (if 0 ≤ x36 then (if x36 < (x34.length : Int) then (if ((rd_T44 x34 x36).f1) < 0 then (some 8) else (floor_CheckChip.l1 k x34 x35 (wrap64 (x36 + 1)) x330000 x330001 x330002 x330003 x330004)) else (none)) else (none)) else (if (wrap64 ((x330003.length : Int) + (x330002.length : Int))) > 300 then (some 3) else (some 0))
end
def floor_CheckChip.f (k : Nat) (l0_0 : List ByteArray) (l0_1 : List ByteArray) (l0_2 : List (S44)) (l0_3 : List (S51)) (l0_4 : List Int) (l1 : List (S48)) : Option (Int) := (floor_CheckLib.f k l1).bind fun t330 => (if t330 = 0 then ((netlist_Check.f k l0_0 l0_1 l0_2 l0_3 l0_4 l1).bind fun t331 => (if t331 = 0 then (floor_CheckChip.l0 k l0_3 (l0_3.length : Int) 0 l0_0 l0_1 l0_2 l0_3 l0_4) else (some t331))) else (some t330))
theorem floor_CheckChip.mono_l : ∀ k, (∀ y0 y1 y2 y3 y4 y5 y6 y7, LeO (floor_CheckChip.l0 k y0 y1 y2 y3 y4 y5 y6 y7) (floor_CheckChip.l0 (k + 1) y0 y1 y2 y3 y4 y5 y6 y7)) ∧ (∀ y0 y1 y2 y3 y4 y5 y6 y7, LeO (floor_CheckChip.l1 k y0 y1 y2 y3 y4 y5 y6 y7) (floor_CheckChip.l1 (k + 1) y0 y1 y2 y3 y4 y5 y6 y7))
 | 0 => ⟨fun _ _ _ _ _ _ _ _ r h => by simp [floor_CheckChip.l0] at h, fun _ _ _ _ _ _ _ _ r h => by simp [floor_CheckChip.l1] at h⟩
 | k + 1 => by
  obtain ⟨ih0, ih1⟩ := floor_CheckChip.mono_l k
  refine ⟨?_, ?_⟩
  · intro y0 y1 y2 y3 y4 y5 y6 y7
    unfold floor_CheckChip.l0
    repeat' first
    | (with_reducible exact ih0 _ _ _ _ _ _ _ _)
    | (with_reducible exact ih1 _ _ _ _ _ _ _ _)
    | (with_reducible exact LeO.refl _)
    | (with_reducible exact LeO.none _)
    | (with_reducible refine LeO.ite ?_ ?_)
    | (with_reducible refine LeO.bind ?_ (fun _ => ?_))
  · intro y0 y1 y2 y3 y4 y5 y6 y7
    unfold floor_CheckChip.l1
    repeat' first
    | (with_reducible exact ih1 _ _ _ _ _ _ _ _)
    | (with_reducible exact LeO.refl _)
    | (with_reducible exact LeO.none _)
    | (with_reducible refine LeO.ite ?_ ?_)
    | (with_reducible refine LeO.bind ?_ (fun _ => ?_))
theorem floor_CheckChip.mono : ∀ a0 a1 a2 a3 a4 a5 k, LeO (floor_CheckChip.f k a0 a1 a2 a3 a4 a5) (floor_CheckChip.f (k + 1) a0 a1 a2 a3 a4 a5) := by
 intro a0 a1 a2 a3 a4 a5 k
 obtain ⟨ih0, ih1⟩ := floor_CheckChip.mono_l k
 unfold floor_CheckChip.f
 repeat' first
  | (with_reducible exact ih0 _ _ _ _ _ _ _ _)
  | (with_reducible exact floor_CheckLib.mono _ _)
  | (with_reducible exact netlist_Check.mono _ _ _ _ _ _ _)
  | (with_reducible exact LeO.refl _)
  | (with_reducible exact LeO.none _)
  | (with_reducible refine LeO.ite ?_ ?_)
  | (with_reducible refine LeO.bind ?_ (fun _ => ?_))
set_option maxHeartbeats 8000000 in
set_option maxRecDepth 100000 in
theorem floor_CheckChip.calls (k : Nat) (A0_0 : Option Addr) (c0_0 : Nat) (l0_0 : List ByteArray) (A0_1 : Option Addr) (c0_1 : Nat) (l0_1 : List ByteArray) (A0_2 : Option Addr) (c0_2 : Nat) (l0_2 : List (S44)) (A0_3 : Option Addr) (c0_3 : Nat) (l0_3 : List (S51)) (A0_4 : Option Addr) (c0_4 : Nat) (l0_4 : List Int) (A1 : Option Addr) (c1 : Nat) (l1 : List (S48)) (r : Int) (w : World) (hr0_0 : Kd.C Kd.string w A0_0 l0_0.length l0_0) (hc0_0 : l0_0.length ≤ c0_0) (hr0_1 : Kd.C Kd.string w A0_1 l0_1.length l0_1) (hc0_1 : l0_1.length ≤ c0_1) (hr0_2 : Kd.C k44 w A0_2 l0_2.length l0_2) (hc0_2 : l0_2.length ≤ c0_2) (hr0_3 : Kd.C k51 w A0_3 l0_3.length l0_3) (hc0_3 : l0_3.length ≤ c0_3) (hr0_4 : Kd.C (Kd.int .i64) w A0_4 l0_4.length l0_4) (hc0_4 : l0_4.length ≤ c0_4) (hr1 : Kd.C k48 w A1 l1.length l1) (hc1 : l1.length ≤ c1) (h : floor_CheckChip.f k l0_0 l0_1 l0_2 l0_3 l0_4 l1 = some r) :
 Calls Tryd.prog 10 #[.agg #[.slice A0_0 l0_0.length c0_0, .slice A0_1 l0_1.length c0_1, .slice A0_2 l0_2.length c0_2, .slice A0_3 l0_3.length c0_3, .slice A0_4 l0_4.length c0_4], .slice A1 l1.length c1] w fun e w' => e = .returned (.int .i64 r) ∧ Below w.heap.size w w' := by
 have HR0_0 := Aside0.mk hr0_0
 have HC0_0 := Aside0.mk hc0_0
 clear hr0_0 hc0_0
 have HR0_1 := Aside0.mk hr0_1
 have HC0_1 := Aside0.mk hc0_1
 clear hr0_1 hc0_1
 have HR0_2 := Aside0.mk hr0_2
 have HC0_2 := Aside0.mk hc0_2
 clear hr0_2 hc0_2
 have HR0_3 := Aside0.mk hr0_3
 have HC0_3 := Aside0.mk hc0_3
 clear hr0_3 hc0_3
 have HR0_4 := Aside0.mk hr0_4
 have HC0_4 := Aside0.mk hc0_4
 clear hr0_4 hc0_4
 have HR1 := Aside0.mk hr1
 have HC1 := Aside0.mk hc1
 clear hr1 hc1
 have HB := Aside0.mk (Below.refl w.heap.size w)
 have H : ((floor_CheckLib.f k l1).bind fun t330 => (if t330 = 0 then ((netlist_Check.f k l0_0 l0_1 l0_2 l0_3 l0_4 l1).bind fun t331 => (if t331 = 0 then (floor_CheckChip.l0 k l0_3 (l0_3.length : Int) 0 l0_0 l0_1 l0_2 l0_3 l0_4) else (some t331))) else (some t330))) = some r := h
 clear h
 replace H := Option.bind_eq_some_iff.mp H
 obtain ⟨t330, A30, H⟩ := H
 replace H : (if t330 = 0 then ((netlist_Check.f k l0_0 l0_1 l0_2 l0_3 l0_4 l1).bind fun t331 => (if t331 = 0 then (floor_CheckChip.l0 k l0_3 (l0_3.length : Int) 0 l0_0 l0_1 l0_2 l0_3 l0_4) else (some t331))) else (some t330)) = some r := H
 have A3 := Aside0.mk A30
 clear A30
 by_cases c4 : t330 = 0
 rotate_left
 · rw [if_neg c4] at H
   have c4b1 : (t330 != 0) = true := bne_iff_ne.mpr c4
   obtain rfl := Option.some.inj H
   go_enter Tryd.func10, Tryd.ntmps10
   go_wp2_with (first | ((with_reducible refine gate_dst (N := 2) rfl ?_); refine box_event ?hg (N := 2) ?hd (cs := #[.slice A0_0 l0_0.length c0_0, .slice A0_1 l0_1.length c0_1, .slice A0_2 l0_2.length c0_2, .slice A0_3 l0_3.length c0_3, .slice A0_4 l0_4.length c0_4]) (t := 27) ?hr ?_; (case hd => rfl); (case hg => rfl); (case hr => first | (go_simp; done) | (go_simp; rfl)); intro gb329 hg w40 hbox hb; have BK329 := Aside0.mk (hbox); replace HB := Aside0.mk (below_step bl hb); clear hb hbox hg) | ((with_reducible refine gate_callee (f := 27) rfl ?_); refine goesL_ (some 12) rfl rfl Tryd.func27 (by kernel_rfl) rfl #[.slice A1 l1.length c1] rfl (by (try simp only [List.map_toArray, List.map_cons, List.map_nil]); first | done | rfl | (simp only [List.length_drop, List.length_take]; rfl)) ?_; (with_reducible refine (floor_CheckLib.calls k _ _ l1 t330 _ ?side1 ?side2 A3.out).mono ?_); (case side1 => exact kc (Kd.C_below HR1.out HB.out)); (case side2 => exact HC1.out); rintro e w41 ⟨rfl, hb⟩; refine ⟨_, rfl, ?_⟩; replace BK329 := Aside0.mk (bb BK329.out hb); replace HB := Aside0.mk (below_step bl hb); (try clear hb)))
   go_ret
   exact ⟨by first | rfl | (simp [errW_none, errW_some] <;> rfl) | (simp [*, errW_none, errW_some] <;> rfl), bl⟩
 rw [if_pos c4] at H
 have c4b0 : (t330 == 0) = true := beq_iff_eq.mpr c4
 have c4b1 : (t330 != 0) = false := bne_eq_false_iff_eq.mpr c4
 clear c4
 replace H := Option.bind_eq_some_iff.mp H
 obtain ⟨t331, A50, H⟩ := H
 replace H : (if t331 = 0 then (floor_CheckChip.l0 k l0_3 (l0_3.length : Int) 0 l0_0 l0_1 l0_2 l0_3 l0_4) else (some t331)) = some r := H
 have A5 := Aside0.mk A50
 clear A50
 by_cases c6 : t331 = 0
 rotate_left
 · rw [if_neg c6] at H
   have c6b1 : (t331 != 0) = true := bne_iff_ne.mpr c6
   obtain rfl := Option.some.inj H
   go_enter Tryd.func10, Tryd.ntmps10
   go_wp2_with (first | ((with_reducible refine gate_dst (N := 2) rfl ?_); refine box_event ?hg (N := 2) ?hd (cs := #[.slice A0_0 l0_0.length c0_0, .slice A0_1 l0_1.length c0_1, .slice A0_2 l0_2.length c0_2, .slice A0_3 l0_3.length c0_3, .slice A0_4 l0_4.length c0_4]) (t := 27) ?hr ?_; (case hd => rfl); (case hg => rfl); (case hr => first | (go_simp; done) | (go_simp; rfl)); intro gb329 hg w36 hbox hb; have BK329 := Aside0.mk (hbox); replace HB := Aside0.mk (below_step bl hb); clear hb hbox hg) | ((with_reducible refine gate_callee (f := 27) rfl ?_); refine goesL_ (some 12) rfl rfl Tryd.func27 (by kernel_rfl) rfl #[.slice A1 l1.length c1] rfl (by (try simp only [List.map_toArray, List.map_cons, List.map_nil]); first | done | rfl | (simp only [List.length_drop, List.length_take]; rfl)) ?_; (with_reducible refine (floor_CheckLib.calls k _ _ l1 t330 _ ?side1 ?side2 A3.out).mono ?_); (case side1 => exact kc (Kd.C_below HR1.out HB.out)); (case side2 => exact HC1.out); rintro e w37 ⟨rfl, hb⟩; refine ⟨_, rfl, ?_⟩; replace BK329 := Aside0.mk (bb BK329.out hb); replace HB := Aside0.mk (below_step bl hb); (try clear hb); obtain ⟨hcz38_0, hcz38_1, hcz38_2, hcz38_3, hcz38_4, hfz38_0, hfz38_1, hfz38_2, hfz38_3, hfz38_4⟩ := bz5 BK329.out) | ((with_reducible refine gate_callee (f := 28) rfl ?_); refine goesL_ (some 18) rfl rfl Tryd.func28 (by kernel_rfl) rfl #[.agg #[.slice A0_0 l0_0.length c0_0, .slice A0_1 l0_1.length c0_1, .slice A0_2 l0_2.length c0_2, .slice A0_3 l0_3.length c0_3, .slice A0_4 l0_4.length c0_4], .slice A1 l1.length c1] rfl (by (try simp only [List.map_toArray, List.map_cons, List.map_nil]); first | done | rfl | (simp only [List.length_drop, List.length_take]; rfl)) ?_; (with_reducible refine (netlist_Check.calls k _ _ l0_0 _ _ l0_1 _ _ l0_2 _ _ l0_3 _ _ l0_4 _ _ l1 t331 _ ?side1 ?side2 ?side3 ?side4 ?side5 ?side6 ?side7 ?side8 ?side9 ?side10 ?side11 ?side12 A5.out).mono ?_); (case side1 => exact kc (Kd.C_below HR0_0.out HB.out)); (case side2 => exact HC0_0.out); (case side3 => exact kc (Kd.C_below HR0_1.out HB.out)); (case side4 => exact HC0_1.out); (case side5 => exact kc (Kd.C_below HR0_2.out HB.out)); (case side6 => exact HC0_2.out); (case side7 => exact kc (Kd.C_below HR0_3.out HB.out)); (case side8 => exact HC0_3.out); (case side9 => exact kc (Kd.C_below HR0_4.out HB.out)); (case side10 => exact HC0_4.out); (case side11 => exact kc (Kd.C_below HR1.out HB.out)); (case side12 => exact HC1.out); rintro e w39 ⟨rfl, hb⟩; refine ⟨_, rfl, ?_⟩; replace BK329 := Aside0.mk (bb BK329.out hb); replace HB := Aside0.mk (below_step bl hb); (try clear hb)))
   go_ret
   exact ⟨by first | rfl | (simp [errW_none, errW_some] <;> rfl) | (simp [*, errW_none, errW_some] <;> rfl), bl⟩
 rw [if_pos c6] at H
 have c6b0 : (t331 == 0) = true := beq_iff_eq.mpr c6
 have c6b1 : (t331 != 0) = false := bne_eq_false_iff_eq.mpr c6
 clear c6
 have H' := Aside0.mk H
 clear H
 go_enter Tryd.func10, Tryd.ntmps10
 go_wp2_with (first | ((with_reducible refine gate_dst (N := 2) rfl ?_); refine box_event ?hg (N := 2) ?hd (cs := #[.slice A0_0 l0_0.length c0_0, .slice A0_1 l0_1.length c0_1, .slice A0_2 l0_2.length c0_2, .slice A0_3 l0_3.length c0_3, .slice A0_4 l0_4.length c0_4]) (t := 27) ?hr ?_; (case hd => rfl); (case hg => rfl); (case hr => first | (go_simp; done) | (go_simp; rfl)); intro gb329 hg w7 hbox hb; have BK329 := Aside0.mk (hbox); replace HB := Aside0.mk (below_step bl hb); clear hb hbox hg) | ((with_reducible refine gate_callee (f := 27) rfl ?_); refine goesL_ (some 12) rfl rfl Tryd.func27 (by kernel_rfl) rfl #[.slice A1 l1.length c1] rfl (by (try simp only [List.map_toArray, List.map_cons, List.map_nil]); first | done | rfl | (simp only [List.length_drop, List.length_take]; rfl)) ?_; (with_reducible refine (floor_CheckLib.calls k _ _ l1 t330 _ ?side1 ?side2 A3.out).mono ?_); (case side1 => exact kc (Kd.C_below HR1.out HB.out)); (case side2 => exact HC1.out); rintro e w8 ⟨rfl, hb⟩; refine ⟨_, rfl, ?_⟩; replace BK329 := Aside0.mk (bb BK329.out hb); replace HB := Aside0.mk (below_step bl hb); (try clear hb); obtain ⟨hcz9_0, hcz9_1, hcz9_2, hcz9_3, hcz9_4, hfz9_0, hfz9_1, hfz9_2, hfz9_3, hfz9_4⟩ := bz5 BK329.out) | ((with_reducible refine gate_callee (f := 28) rfl ?_); refine goesL_ (some 18) rfl rfl Tryd.func28 (by kernel_rfl) rfl #[.agg #[.slice A0_0 l0_0.length c0_0, .slice A0_1 l0_1.length c0_1, .slice A0_2 l0_2.length c0_2, .slice A0_3 l0_3.length c0_3, .slice A0_4 l0_4.length c0_4], .slice A1 l1.length c1] rfl (by (try simp only [List.map_toArray, List.map_cons, List.map_nil]); first | done | rfl | (simp only [List.length_drop, List.length_take]; rfl)) ?_; (with_reducible refine (netlist_Check.calls k _ _ l0_0 _ _ l0_1 _ _ l0_2 _ _ l0_3 _ _ l0_4 _ _ l1 t331 _ ?side1 ?side2 ?side3 ?side4 ?side5 ?side6 ?side7 ?side8 ?side9 ?side10 ?side11 ?side12 A5.out).mono ?_); (case side1 => exact kc (Kd.C_below HR0_0.out HB.out)); (case side2 => exact HC0_0.out); (case side3 => exact kc (Kd.C_below HR0_1.out HB.out)); (case side4 => exact HC0_1.out); (case side5 => exact kc (Kd.C_below HR0_2.out HB.out)); (case side6 => exact HC0_2.out); (case side7 => exact kc (Kd.C_below HR0_3.out HB.out)); (case side8 => exact HC0_3.out); (case side9 => exact kc (Kd.C_below HR0_4.out HB.out)); (case side10 => exact HC0_4.out); (case side11 => exact kc (Kd.C_below HR1.out HB.out)); (case side12 => exact HC1.out); rintro e w10 ⟨rfl, hb⟩; refine ⟨_, rfl, ?_⟩; replace BK329 := Aside0.mk (bb BK329.out hb); replace HB := Aside0.mk (below_step bl hb); (try clear hb); obtain ⟨hcz11_0, hcz11_1, hcz11_2, hcz11_3, hcz11_4, hfz11_0, hfz11_1, hfz11_2, hfz11_3, hfz11_4⟩ := bz5 BK329.out))
 go_loopg [25] k (fun kq v25 w' => ∃ (x25_1 : Int), v25 = .int .i64 x25_1 ∧ Aside0 (floor_CheckChip.l0 kq l0_3 (l0_3.length : Int) x25_1 l0_0 l0_1 l0_2 l0_3 l0_4 = some r) ∧ Aside0 (kq ≤ k) ∧ Aside0 (w'.heap[gb329]? = some (.cells #[(.slice A0_0 l0_0.length c0_0), (.slice A0_1 l0_1.length c0_1), (.slice A0_2 l0_2.length c0_2), (.slice A0_3 l0_3.length c0_3), (.slice A0_4 l0_4.length c0_4)] 27 (0, 0))) ∧ Aside0 (Below w.heap.size w w'))
 case atStart => exact ⟨(0), (by first | rfl | (simp; done) | (simp [*]; done)), H', ⟨Nat.le_refl _⟩, ⟨bk BK329.out⟩, ⟨bl⟩⟩
 clear H'
 clear c4b0 c4b1 c6b0 c6b1 hcz11_0 hcz11_1 hcz11_2 hcz11_3 hcz11_4 hcz9_0 hcz9_1 hcz9_2 hcz9_3 hcz9_4 hfz11_0 hfz11_1 hfz11_2 hfz11_3 hfz11_4 hfz9_0 hfz9_1 hfz9_2 hfz9_3 hfz9_4
 obtain ⟨x25_1, rfl, HA, HK1, BK329, HB⟩ := hrel
 cases gk with
 | zero => exact absurd HA.out (by simp [floor_CheckChip.l0])
 | succ k1 =>
  have H := HA.out
  clear HA
  simp only [floor_CheckChip.l0] at H
  by_cases c12 : x25_1 < (l0_3.length : Int)
  · rw [if_pos c12] at H
    have c12b0 : decide (x25_1 < (l0_3.length : Int)) = true := decide_eq_true c12
    clear c12
    by_cases c13 : 0 ≤ x25_1
    rotate_left
    · rw [if_neg c13] at H
      exact absurd H (by simp)
    rw [if_pos c13] at H
    have c13b0 : decide (0 ≤ x25_1) = true := decide_eq_true c13
    clear c13
    by_cases c14 : x25_1 < (l0_3.length : Int)
    rotate_left
    · rw [if_neg c14] at H
      exact absurd H (by simp)
    rw [if_pos c14] at H
    have c14b0 : decide (x25_1 < (l0_3.length : Int)) = true := decide_eq_true c14
    clear c14
    by_cases c15 : ((rd_T51 l0_3 x25_1).f0) < 0
    · rw [if_pos c15] at H
      have c15b0 : decide (((rd_T51 l0_3 x25_1).f0) < 0) = true := decide_eq_true c15
      clear c15
      obtain rfl := Option.some.inj H
      have p332 : 0 ≤ (x25_1 : Int) := of_decide_eq_true (by first | (with_reducible assumption) | assumption)
      have q332 : x25_1 < (l0_3.length : Int) := of_decide_eq_true (by first | (with_reducible assumption) | assumption)
      obtain ⟨ad332, A332_2, c332_2, e332, hx332_0, hx332_1, hx332_2, hl332_2, hi332_2⟩ := at_T51 HR0_3.out x25_1 p332 q332
      cases e332
      replace hx332_0 := hc HB.out hx332_0
      replace hx332_1 := hc HB.out hx332_1
      replace hx332_2 := hc HB.out hx332_2
      clear hi332_2 hl332_2
      replace p332 := eq_true p332
      replace q332 := eq_true q332
      go_wp2_with ((with_reducible refine gate_dst (N := 8) rfl ?_); refine box_event ?hg (N := 8) ?hd (cs := #[.int .i64 0, .int .u64 0, .slice none 0 0]) (t := 51) ?hr ?_; (case hd => rfl); (case hg => rfl); (case hr => first | (go_simp; done) | (go_simp; rfl)); intro gb333 hg w16 hbox hb; have BK333 := Aside0.mk (hbox); have GE333 := Aside0.mk (ge (w := w) hg); replace HB := Aside0.mk (below_step bl hb); have NB329_333 := Aside0.mk (nl hg (bk BK329.out)); have NB333_329 := Aside0.mk (ng hg (bk BK329.out)); replace BK329 := Aside0.mk (bb BK329.out hb); clear hb hbox hg; obtain ⟨hcz18_0, hcz18_1, hcz18_2, hfz18_0, hfz18_1, hfz18_2⟩ := bz3 BK333.out)
      go_ret
      exact ⟨by first | rfl | (simp [errW_none, errW_some] <;> rfl) | (simp [*, errW_none, errW_some] <;> rfl), bl⟩
    rw [if_neg c15] at H
    have c15b0 : decide (((rd_T51 l0_3 x25_1).f0) < 0) = false := decide_eq_false c15
    clear c15
    have H' := Aside0.mk H
    clear H
    have p332 : 0 ≤ (x25_1 : Int) := of_decide_eq_true (by first | (with_reducible assumption) | assumption)
    have q332 : x25_1 < (l0_3.length : Int) := of_decide_eq_true (by first | (with_reducible assumption) | assumption)
    obtain ⟨ad332, A332_2, c332_2, e332, hx332_0, hx332_1, hx332_2, hl332_2, hi332_2⟩ := at_T51 HR0_3.out x25_1 p332 q332
    cases e332
    replace hx332_0 := hc HB.out hx332_0
    replace hx332_1 := hc HB.out hx332_1
    replace hx332_2 := hc HB.out hx332_2
    clear hi332_2 hl332_2
    replace p332 := eq_true p332
    replace q332 := eq_true q332
    go_wp2_with ((with_reducible refine gate_dst (N := 8) rfl ?_); refine box_event ?hg (N := 8) ?hd (cs := #[.int .i64 0, .int .u64 0, .slice none 0 0]) (t := 51) ?hr ?_; (case hd => rfl); (case hg => rfl); (case hr => first | (go_simp; done) | (go_simp; rfl)); intro gb333 hg w19 hbox hb; have BK333 := Aside0.mk (hbox); have GE333 := Aside0.mk (ge (w := w) hg); replace HB := Aside0.mk (below_step bl hb); have NB329_333 := Aside0.mk (nl hg (bk BK329.out)); have NB333_329 := Aside0.mk (ng hg (bk BK329.out)); replace BK329 := Aside0.mk (bb BK329.out hb); clear hb hbox hg; obtain ⟨hcz21_0, hcz21_1, hcz21_2, hfz21_0, hfz21_1, hfz21_2⟩ := bz3 BK333.out)
    go_roundg k1
    case measure => have := HK1.out; omega
    case rel => exact ⟨(wrap64 (x25_1 + 1)), (by first | rfl | (simp; done) | (simp [*]; done)), H', ⟨by have := HK1.out; omega⟩, ⟨bf BK329.out⟩, ⟨bl⟩⟩
  rw [if_neg c12] at H
  have c12b0 : decide (x25_1 < (l0_3.length : Int)) = false := decide_eq_false c12
  clear c12
  have H' := Aside0.mk H
  clear H
  obtain ⟨hcz22_0, hcz22_1, hcz22_2, hcz22_3, hcz22_4, hfz22_0, hfz22_1, hfz22_2, hfz22_3, hfz22_4⟩ := bz5 BK329.out
  go_wp2
  go_loopg [36] k1 (fun kq v36 w' => ∃ (x36_2 : Int), v36 = .int .i64 x36_2 ∧ Aside0 (floor_CheckChip.l1 kq l0_2 (l0_2.length : Int) x36_2 l0_0 l0_1 l0_2 l0_3 l0_4 = some r) ∧ Aside0 (kq ≤ k1) ∧ Aside0 (w'.heap[gb329]? = some (.cells #[(.slice A0_0 l0_0.length c0_0), (.slice A0_1 l0_1.length c0_1), (.slice A0_2 l0_2.length c0_2), (.slice A0_3 l0_3.length c0_3), (.slice A0_4 l0_4.length c0_4)] 27 (0, 0))) ∧ Aside0 (Below w.heap.size w w'))
  case atStart => exact ⟨(0), (by first | rfl | (simp; done) | (simp [*]; done)), H', ⟨Nat.le_refl _⟩, ⟨bk BK329.out⟩, ⟨bl⟩⟩
  clear H'
  clear c12b0 hcz22_0 hcz22_1 hcz22_2 hcz22_3 hcz22_4 hfz22_0 hfz22_1 hfz22_2 hfz22_3 hfz22_4
  obtain ⟨x36_2, rfl, HA, HK2, BK329, HB⟩ := hrel
  cases gk with
  | zero => exact absurd HA.out (by simp [floor_CheckChip.l1])
  | succ k2 =>
   have H := HA.out
   clear HA
   simp only [floor_CheckChip.l1] at H
   by_cases c23 : x36_2 < (l0_2.length : Int)
   rotate_left
   · rw [if_neg c23] at H
     have c23b0 : decide (x36_2 < (l0_2.length : Int)) = false := decide_eq_false c23
     clear c23
     by_cases c33 : (wrap64 ((l0_3.length : Int) + (l0_2.length : Int))) > 300
     · rw [if_pos c33] at H
       have c33b0 : decide (300 < (wrap64 ((l0_3.length : Int) + (l0_2.length : Int)))) = true := decide_eq_true c33
       clear c33
       obtain rfl := Option.some.inj H
       obtain ⟨hcz34_0, hcz34_1, hcz34_2, hcz34_3, hcz34_4, hfz34_0, hfz34_1, hfz34_2, hfz34_3, hfz34_4⟩ := bz5 BK329.out
       go_wp2
       go_ret
       exact ⟨by first | rfl | (simp [errW_none, errW_some] <;> rfl) | (simp [*, errW_none, errW_some] <;> rfl), bl⟩
     rw [if_neg c33] at H
     have c33b0 : decide (300 < (wrap64 ((l0_3.length : Int) + (l0_2.length : Int)))) = false := decide_eq_false c33
     clear c33
     obtain rfl := Option.some.inj H
     obtain ⟨hcz35_0, hcz35_1, hcz35_2, hcz35_3, hcz35_4, hfz35_0, hfz35_1, hfz35_2, hfz35_3, hfz35_4⟩ := bz5 BK329.out
     go_wp2
     go_ret
     exact ⟨by first | rfl | (simp [errW_none, errW_some] <;> rfl) | (simp [*, errW_none, errW_some] <;> rfl), bl⟩
   rw [if_pos c23] at H
   have c23b0 : decide (x36_2 < (l0_2.length : Int)) = true := decide_eq_true c23
   clear c23
   by_cases c24 : 0 ≤ x36_2
   rotate_left
   · rw [if_neg c24] at H
     exact absurd H (by simp)
   rw [if_pos c24] at H
   have c24b0 : decide (0 ≤ x36_2) = true := decide_eq_true c24
   clear c24
   by_cases c25 : x36_2 < (l0_2.length : Int)
   rotate_left
   · rw [if_neg c25] at H
     exact absurd H (by simp)
   rw [if_pos c25] at H
   have c25b0 : decide (x36_2 < (l0_2.length : Int)) = true := decide_eq_true c25
   clear c25
   by_cases c26 : ((rd_T44 l0_2 x36_2).f1) < 0
   · rw [if_pos c26] at H
     have c26b0 : decide (((rd_T44 l0_2 x36_2).f1) < 0) = true := decide_eq_true c26
     clear c26
     obtain rfl := Option.some.inj H
     have p334 : 0 ≤ (x36_2 : Int) := of_decide_eq_true (by first | (with_reducible assumption) | assumption)
     have q334 : x36_2 < (l0_2.length : Int) := of_decide_eq_true (by first | (with_reducible assumption) | assumption)
     obtain ⟨ad334, e334, hx334_0, hx334_1, hx334_2, hx334_3, hx334_4⟩ := at_T44 HR0_2.out x36_2 p334 q334
     cases e334
     replace hx334_0 := hc HB.out hx334_0
     replace hx334_1 := hc HB.out hx334_1
     replace hx334_2 := hc HB.out hx334_2
     replace hx334_3 := hc HB.out hx334_3
     replace hx334_4 := hc HB.out hx334_4
     replace p334 := eq_true p334
     replace q334 := eq_true q334
     go_wp2_with ((with_reducible refine gate_dst (N := 10) rfl ?_); refine box_event ?hg (N := 10) ?hd (cs := #[.string (⟨#[]⟩ : ByteArray), .int .i64 0, .int .i64 0, .int .i64 0, .bool false]) (t := 44) ?hr ?_; (case hd => rfl); (case hg => rfl); (case hr => first | (go_simp; done) | (go_simp; rfl)); intro gb335 hg w27 hbox hb; have BK335 := Aside0.mk (hbox); have GE335 := Aside0.mk (ge (w := w) hg); replace HB := Aside0.mk (below_step bl hb); have NB329_335 := Aside0.mk (nl hg (bk BK329.out)); have NB335_329 := Aside0.mk (ng hg (bk BK329.out)); replace BK329 := Aside0.mk (bb BK329.out hb); clear hb hbox hg; obtain ⟨hcz29_0, hcz29_1, hcz29_2, hcz29_3, hcz29_4, hfz29_0, hfz29_1, hfz29_2, hfz29_3, hfz29_4⟩ := bz5 BK335.out)
     go_ret
     exact ⟨by first | rfl | (simp [errW_none, errW_some] <;> rfl) | (simp [*, errW_none, errW_some] <;> rfl), bl⟩
   rw [if_neg c26] at H
   have c26b0 : decide (((rd_T44 l0_2 x36_2).f1) < 0) = false := decide_eq_false c26
   clear c26
   have H' := Aside0.mk H
   clear H
   have p334 : 0 ≤ (x36_2 : Int) := of_decide_eq_true (by first | (with_reducible assumption) | assumption)
   have q334 : x36_2 < (l0_2.length : Int) := of_decide_eq_true (by first | (with_reducible assumption) | assumption)
   obtain ⟨ad334, e334, hx334_0, hx334_1, hx334_2, hx334_3, hx334_4⟩ := at_T44 HR0_2.out x36_2 p334 q334
   cases e334
   replace hx334_0 := hc HB.out hx334_0
   replace hx334_1 := hc HB.out hx334_1
   replace hx334_2 := hc HB.out hx334_2
   replace hx334_3 := hc HB.out hx334_3
   replace hx334_4 := hc HB.out hx334_4
   replace p334 := eq_true p334
   replace q334 := eq_true q334
   go_wp2_with ((with_reducible refine gate_dst (N := 10) rfl ?_); refine box_event ?hg (N := 10) ?hd (cs := #[.string (⟨#[]⟩ : ByteArray), .int .i64 0, .int .i64 0, .int .i64 0, .bool false]) (t := 44) ?hr ?_; (case hd => rfl); (case hg => rfl); (case hr => first | (go_simp; done) | (go_simp; rfl)); intro gb335 hg w30 hbox hb; have BK335 := Aside0.mk (hbox); have GE335 := Aside0.mk (ge (w := w) hg); replace HB := Aside0.mk (below_step bl hb); have NB329_335 := Aside0.mk (nl hg (bk BK329.out)); have NB335_329 := Aside0.mk (ng hg (bk BK329.out)); replace BK329 := Aside0.mk (bb BK329.out hb); clear hb hbox hg; obtain ⟨hcz32_0, hcz32_1, hcz32_2, hcz32_3, hcz32_4, hfz32_0, hfz32_1, hfz32_2, hfz32_3, hfz32_4⟩ := bz5 BK335.out)
   go_roundg k2
   case measure => have := HK1.out; have := HK2.out; omega
   case rel => exact ⟨(wrap64 (x36_2 + 1)), (by first | rfl | (simp; done) | (simp [*]; done)), H', ⟨by have := HK1.out; have := HK2.out; omega⟩, ⟨bf BK329.out⟩, ⟨bl⟩⟩

end Go.Proofs.YtpkpmdmmnhmnlaaDoor.PT
namespace Go.Proofs.YtpkpmdmmnhmnlaaDoor.PT
open Go.RowKit Go.Proofs.YtpkpmdmmnhmnlaaDoorW.PrintWords Go.Proofs.YtpkpmdmmnhmnlaaDoorW.PrintLast Go.Proofs.YtpkpmdmmnhmnlaaDoorW.PrintMore
attribute [local go_sem] max2_int min2_int max_two min_two max_three min_three max_four min_four   -- for this text's walks alone
set_option linter.unusedVariables false
set_option linter.unusedSimpArgs false

/-! ### tree_IsBuffer: function 12 -/
def tree_IsBuffer.f (a0_0 : ByteArray) (a0_1 : Bool) (a0_2 : Int) (a0_3 : Int) (a0_4 : Int) (l0_5 : List Int) (l0_6 : List Int) (l0_7 : List Int) (a0_8 : Int) (a0_9 : Int) (a0_10 : Int) : Option (Bool) := if a0_1 = true then (some false) else (if a0_2 = 1 then (some (a0_3 == 2)) else (some false))
set_option maxHeartbeats 8000000 in
set_option maxRecDepth 100000 in
theorem tree_IsBuffer.calls (a0_0 : ByteArray) (a0_1 : Bool) (a0_2 : Int) (a0_3 : Int) (a0_4 : Int) (A0_5 : Option Addr) (c0_5 : Nat) (l0_5 : List Int) (A0_6 : Option Addr) (c0_6 : Nat) (l0_6 : List Int) (A0_7 : Option Addr) (c0_7 : Nat) (l0_7 : List Int) (a0_8 : Int) (a0_9 : Int) (a0_10 : Int) (r : Bool) (w : World) (hr0_5 : Kd.C (Kd.int .i64) w A0_5 l0_5.length l0_5) (hc0_5 : l0_5.length ≤ c0_5) (hr0_6 : Kd.C (Kd.int .i64) w A0_6 l0_6.length l0_6) (hc0_6 : l0_6.length ≤ c0_6) (hr0_7 : Kd.C (Kd.int .i64) w A0_7 l0_7.length l0_7) (hc0_7 : l0_7.length ≤ c0_7) (h : tree_IsBuffer.f a0_0 a0_1 a0_2 a0_3 a0_4 l0_5 l0_6 l0_7 a0_8 a0_9 a0_10 = some r) :
    Calls Tryd.prog 12 #[.agg #[.string a0_0, .bool a0_1, .int .i64 a0_2, .int .u64 a0_3, .int .i64 a0_4, .slice A0_5 l0_5.length c0_5, .slice A0_6 l0_6.length c0_6, .slice A0_7 l0_7.length c0_7, .int .i64 a0_8, .int .i64 a0_9, .int .i64 a0_10]] w fun e w' => e = .returned (.bool r) ∧ Below w.heap.size w w' := by
 clear hr0_5 hc0_5
 clear hr0_6 hc0_6
 clear hr0_7 hc0_7
 have HB := Aside0.mk (Below.refl w.heap.size w)
 have H : (if a0_1 = true then (some false) else (if a0_2 = 1 then (some (a0_3 == 2)) else (some false))) = some r := h
 clear h
 by_cases c2 : a0_1 = true
 · subst c2
   have H1 : (some false) = some r := by rw [if_pos rfl] at H; exact H
   clear H
   have H := H1
   clear H1
   obtain rfl := Option.some.inj H
   go_enter Tryd.func12, Tryd.ntmps12
   go_wp2_with ((with_reducible refine gate_dst (N := 1) rfl ?_); refine box_event ?hg (N := 1) ?hd (cs := #[.string a0_0, .bool true, .int .i64 a0_2, .int .u64 a0_3, .int .i64 a0_4, .slice A0_5 l0_5.length c0_5, .slice A0_6 l0_6.length c0_6, .slice A0_7 l0_7.length c0_7, .int .i64 a0_8, .int .i64 a0_9, .int .i64 a0_10]) (t := 48) ?hr ?_; (case hd => rfl); (case hg => rfl); (case hr => first | (go_simp; done) | (go_simp; rfl)); intro gb336 hg w3 hbox hb; have BK336 := Aside0.mk (hbox); replace HB := Aside0.mk (below_step bl hb); clear hb hbox hg; obtain ⟨hcz4_0, hcz4_1, hcz4_2, hcz4_3, hcz4_4, hcz4_5, hcz4_6, hcz4_7, hcz4_8, hcz4_9, hcz4_10, hfz4_0, hfz4_1, hfz4_2, hfz4_3, hfz4_4, hfz4_5, hfz4_6, hfz4_7, hfz4_8, hfz4_9, hfz4_10⟩ := bz11 BK336.out)
   go_ret
   exact ⟨by first | rfl | (simp [errW_none, errW_some] <;> rfl) | (simp [*, errW_none, errW_some] <;> rfl), bl⟩
 replace c2 := Bool.eq_false_iff.mpr c2
 subst c2
 have H1 : (if a0_2 = 1 then (some (a0_3 == 2)) else (some false)) = some r := by rw [if_neg (show ¬ (false = true) by decide)] at H; exact H
 clear H
 have H := H1
 clear H1
 by_cases c5 : a0_2 = 1
 rotate_left
 · rw [if_neg c5] at H
   have c5b0 : (a0_2 == 1) = false := beq_eq_false_iff_ne.mpr c5
   obtain rfl := Option.some.inj H
   go_enter Tryd.func12, Tryd.ntmps12
   go_wp2_with ((with_reducible refine gate_dst (N := 1) rfl ?_); refine box_event ?hg (N := 1) ?hd (cs := #[.string a0_0, .bool false, .int .i64 a0_2, .int .u64 a0_3, .int .i64 a0_4, .slice A0_5 l0_5.length c0_5, .slice A0_6 l0_6.length c0_6, .slice A0_7 l0_7.length c0_7, .int .i64 a0_8, .int .i64 a0_9, .int .i64 a0_10]) (t := 48) ?hr ?_; (case hd => rfl); (case hg => rfl); (case hr => first | (go_simp; done) | (go_simp; rfl)); intro gb336 hg w8 hbox hb; have BK336 := Aside0.mk (hbox); replace HB := Aside0.mk (below_step bl hb); clear hb hbox hg; obtain ⟨hcz9_0, hcz9_1, hcz9_2, hcz9_3, hcz9_4, hcz9_5, hcz9_6, hcz9_7, hcz9_8, hcz9_9, hcz9_10, hfz9_0, hfz9_1, hfz9_2, hfz9_3, hfz9_4, hfz9_5, hfz9_6, hfz9_7, hfz9_8, hfz9_9, hfz9_10⟩ := bz11 BK336.out)
   go_ret
   exact ⟨by first | rfl | (simp [errW_none, errW_some] <;> rfl) | (simp [*, errW_none, errW_some] <;> rfl), bl⟩
 rw [if_pos c5] at H
 have c5b0 : (a0_2 == 1) = true := beq_iff_eq.mpr c5
 clear c5
 obtain rfl := Option.some.inj H
 go_enter Tryd.func12, Tryd.ntmps12
 go_wp2_with ((with_reducible refine gate_dst (N := 1) rfl ?_); refine box_event ?hg (N := 1) ?hd (cs := #[.string a0_0, .bool false, .int .i64 a0_2, .int .u64 a0_3, .int .i64 a0_4, .slice A0_5 l0_5.length c0_5, .slice A0_6 l0_6.length c0_6, .slice A0_7 l0_7.length c0_7, .int .i64 a0_8, .int .i64 a0_9, .int .i64 a0_10]) (t := 48) ?hr ?_; (case hd => rfl); (case hg => rfl); (case hr => first | (go_simp; done) | (go_simp; rfl)); intro gb336 hg w6 hbox hb; have BK336 := Aside0.mk (hbox); replace HB := Aside0.mk (below_step bl hb); clear hb hbox hg; obtain ⟨hcz7_0, hcz7_1, hcz7_2, hcz7_3, hcz7_4, hcz7_5, hcz7_6, hcz7_7, hcz7_8, hcz7_9, hcz7_10, hfz7_0, hfz7_1, hfz7_2, hfz7_3, hfz7_4, hfz7_5, hfz7_6, hfz7_7, hfz7_8, hfz7_9, hfz7_10⟩ := bz11 BK336.out)
 go_ret
 exact ⟨by first | rfl | (simp [errW_none, errW_some] <;> rfl) | (simp [*, errW_none, errW_some] <;> rfl), bl⟩

end Go.Proofs.YtpkpmdmmnhmnlaaDoor.PT
