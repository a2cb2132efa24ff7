-- PRINTED by print.py (a twelfth state) out of the translation. Not trusted: Lean checks it.
import Derived.Test.YtlbljdjbcbgnlaaCmp
import Derived.Test.YtlbljdjbcbgnlaaPXx0
import Derived.Test.YtlbljdjbcbgnlaaPXx4
namespace Go.Proofs.Ytlbljdjbcbgnlaa.PX
open Go.RowKit Go.Proofs.YtlbljdjbcbgnlaaW.PrintWords Go.Proofs.YtlbljdjbcbgnlaaW.PrintLast Go.Proofs.YtlbljdjbcbgnlaaW.PrintMore
attribute [local go_sem] max2_int min2_int max_two min_two max_three min_three max_four min_four   -- for this text's walks alone
set_option linter.unusedVariables false
set_option linter.unusedSimpArgs false

-- the contract of function 66 (maskwright/maskref4.trim): written by hand
/-! ### maskref4_trim: function 66 -/
def maskref4_trim.f (a0 : Bool) (l1 : List Int) : Option (Bool × List Int) := some (a0 && decide (0 < (trimV l1).length), trimV l1)
set_option maxHeartbeats 8000000 in
set_option maxRecDepth 100000 in
theorem maskref4_trim.calls (a0 : Bool) (P1_ : Nat → Prop) (A1 : Option Addr) (c1 : Nat) (l1 : List Int) (r1 : Bool) (r2 : List Int) (w : World) (hs1 : Kd.V (Kd.int .i64) 3 w w.heap.size (fun k_ => P1_ k_) (.slice A1 l1.length c1) l1) (h : maskref4_trim.f a0 l1 = some (r1, r2)) :
 Calls Try.prog 66 #[.bool a0, .slice A1 l1.length c1] w fun e w' => ∃ v1_ : Value, e = .returned (.agg #[.bool r1, v1_]) ∧ Kd.V (Kd.int .i64) 3 w' w.heap.size (fun k_ => (P1_ k_ ∨ w.heap.size ≤ k_)) v1_ r2 ∧ Below w.heap.size w w' := by
 unfold maskref4_trim.f at h
 simp only [Option.some.injEq, Prod.mk.injEq] at h
 obtain ⟨rfl, rfl⟩ := h
 have hm := Kd.F_max (Kd.V_at hs1).2.2
 have hcap := (Kd.V_at hs1).2.1
 obtain ⟨i0, hi0, -, -, -⟩ := info_parts info3
 have HB := Aside0.mk (below_alloc (Below.refl w.heap.size w) (.cells #[.bool false, .slice none 0 0] 36))
 have BK := Aside0.mk (blk_new w (.cells #[.bool false, .slice none 0 0] 36))
 have HO := Aside0.mk (show Kd.V (Kd.int .i64) 3 (w.alloc (.cells #[.bool false, .slice none 0 0] 36)) w.heap.size (fun k_ => (P1_ k_ ∨ w.heap.size ≤ k_) ∧ k_ ≠ w.heap.size) (.slice A1 l1.length c1) l1 from Kd.V_alloc (Kd.V_mono (Kd.V_elderB hs1 w.heap.size (Nat.le_refl _)) (fun k hk => ⟨.inl hk.1, hk.2⟩)) (.cells #[.bool false, .slice none 0 0] 36))
 clear hs1
 go_enter Try.func66, Try.ntmps66
 go_wp2_with fail
 go_loopg [5] l1.length (fun kq v5 w' => ∃ x : Int, v5 = .int .i64 x ∧ Aside0 (x = (kq : Int)) ∧ Aside0 (kq ≤ l1.length) ∧ Aside0 (trimV (l1.take kq) = trimV l1) ∧ Aside0 (Kd.V (Kd.int .i64) 3 w' w.heap.size (fun k_ => (P1_ k_ ∨ w.heap.size ≤ k_) ∧ k_ ≠ w.heap.size) (.slice A1 l1.length c1) l1) ∧ Aside0 (w'.heap[w.heap.size]? = some (.cells #[.bool false, .slice none 0 0] 36)) ∧ Aside0 (Below w.heap.size w w'))
 case atStart => exact ⟨(l1.length : Int), rfl, ⟨rfl⟩, ⟨Nat.le_refl _⟩, ⟨by rw [List.take_length]⟩, HO, BK, HB⟩
 clear HO BK HB
 obtain ⟨x, rfl, HX, HK, HT, HO, BK, HB⟩ := hrel
 by_cases c : 0 < x
 rotate_left
 · have c0 : decide (0 < x) = false := decide_eq_false c
   have hx := HX.out
   have hk := HK.out
   have hz : gk = 0 := by omega
   have hz2 : x.toNat = 0 := by omega
   have ht : l1.take x.toNat = trimV l1 := by
    have h9 := HT.out
    rw [hz] at h9
    rw [hz2]
    exact h9
   have h0 : 0 ≤ x := by omega
   have h1 : x ≤ (l1.length : Int) := by omega
   clear hx hk HT HX HK
   have hcut := cut_to (P := Try.prog) 34 3 .i64 Try.underlying34 hi0 A1 l1.length c1 x h0 h1 hcap
   have hV0 := Kd.V_mk (base := w.heap.size) (e := 3) (c := c1) (by rw [List.length_take]; omega) (Kd.F_take (m := x.toNat) (Kd.V_at HO.out).2.2 (by omega))
   have hl : (trimV l1).length = x.toNat := by rw [← ht, List.length_take]; omega
   rw [ht] at hV0
   have hV := Aside0.mk hV0
   rw [← hl] at hcut
   have z0 : wr.cell? ⟨w.heap.size, 0, none⟩ = some (.bool false) := (blk_cell BK.out 0).trans rfl
   have z1 : wr.cell? ⟨w.heap.size, 1, none⟩ = some (.slice none 0 0) := (blk_cell BK.out 1).trans rfl
   have y0 := blk_frozen BK.out 0
   have y1 := blk_frozen BK.out 1
   have eb : decide (0 < (trimV l1).length) = false := by rw [hl]; exact decide_eq_false (by omega)
   clear hV0 hl h0 h1 hcap ht
   cases a0
   · go_wp2
     refine bodyPost_ret (results_cell_row rfl _ _ w.heap.size 36 #[.bool (false && false), .slice A1 (trimV l1).length c1] (0, 0) _ rfl (blk_put (cs := #[.bool (false && false), .slice none 0 0]) (blk_put (cs := #[.bool false, .slice none 0 0]) BK.out 0 _ rfl) 1 _ rfl) Try.underlying36 rfl (by kernel_rfl)) rfl ?_
     exact ⟨_, by first | (with_reducible rfl) | (rw [eb]; done) | (show Ending.returned (Value.agg #[Value.bool false, _]) = _; with_reducible rfl) | rw [eb] | (simp only [eb]; rfl) | (simp [eb]), Kd.V_mono (Kd.V_far (Kd.V_far (p := ⟨w.heap.size, 0, none⟩) hV.out (fun _ hk => hk.2) _) (p := ⟨w.heap.size, 1, none⟩) (fun _ hk => hk.2) _) (fun _ hk => hk.1), below_set (below_set HB.out (Nat.le_refl _)) (Nat.le_refl _)⟩
   go_wp2
   refine bodyPost_ret (results_cell_row rfl _ _ w.heap.size 36 #[.bool (true && false), .slice A1 (trimV l1).length c1] (0, 0) _ rfl (blk_put (cs := #[.bool (true && false), .slice none 0 0]) (blk_put (cs := #[.bool false, .slice none 0 0]) BK.out 0 _ rfl) 1 _ rfl) Try.underlying36 rfl (by kernel_rfl)) rfl ?_
   exact ⟨_, by first | (with_reducible rfl) | (rw [eb]; done) | (show Ending.returned (Value.agg #[Value.bool false, _]) = _; with_reducible rfl) | rw [eb] | (simp only [eb]; rfl) | (simp [eb]), Kd.V_mono (Kd.V_far (Kd.V_far (p := ⟨w.heap.size, 0, none⟩) hV.out (fun _ hk => hk.2) _) (p := ⟨w.heap.size, 1, none⟩) (fun _ hk => hk.2) _) (fun _ hk => hk.1), below_set (below_set HB.out (Nat.le_refl _)) (Nat.le_refl _)⟩
 have c0 : decide (0 < x) = true := decide_eq_true c
 obtain ⟨j, hj⟩ : ∃ j, wrap64 (x - 1) = j := ⟨_, rfl⟩
 have hjw : IntKind.i64.wrap (x - 1) = j := (i64_w _).trans hj
 have hx := HX.out
 have hk := HK.out
 have ej : j = x - 1 := by rw [← hj]; exact w64x (by omega) (by omega)
 obtain ⟨ad, e1, hx0⟩ := Kd.at_int (Kd.V_reads' HO.out).2.2 j (by omega) (by omega)
 cases e1
 have p : (0 ≤ j) = True := eq_true (by omega)
 have q : (j < (l1.length : Int)) = True := eq_true (by omega)
 have hkt : gk = j.toNat + 1 := by omega
 have hsp : l1.take gk = l1.take j.toNat ++ [rd l1 j] := by
  rw [hkt, List.take_add_one]
  congr 1
  unfold rd
  rw [List.getD_eq_getElem?_getD, List.getElem?_eq_getElem (by omega)]
  rfl
 by_cases z : rd l1 j = 0
 · have z0 : (rd l1 j == 0) = true := beq_iff_eq.mpr z
   have HTn : Aside0 (trimV (l1.take j.toNat) = trimV l1) := ⟨by rw [← HT.out, hsp, z, trimV_zero]⟩
   have HKn : Aside0 (j = (j.toNat : Int) ∧ j.toNat ≤ l1.length ∧ j.toNat < gk) := ⟨by omega⟩
   clear z hsp hkt hx hk ej hj c HT HX HK
   go_wp2
   go_roundg j.toNat
   case measure => exact HKn.out.2.2
   case rel => exact ⟨j, rfl, ⟨HKn.out.1⟩, ⟨HKn.out.2.1⟩, HTn, HO, BK, HB⟩
 have z0 : (rd l1 j == 0) = false := beq_eq_false_iff_ne.mpr z
 have ht : l1.take x.toNat = trimV l1 := by rw [← HT.out, show gk = x.toNat by omega] ; rw [show gk = x.toNat by omega] at hsp; rw [hsp, trimV_last _ _ z]
 have h0 : 0 ≤ x := by omega
 have h1 : x ≤ (l1.length : Int) := by omega
 clear z hsp hkt hx hk ej hj HT HX HK
 have hcut := cut_to (P := Try.prog) 34 3 .i64 Try.underlying34 hi0 (some ad) l1.length c1 x h0 h1 hcap
 have hV0 := Kd.V_mk (base := w.heap.size) (e := 3) (c := c1) (by rw [List.length_take]; omega) (Kd.F_take (m := x.toNat) (Kd.V_at HO.out).2.2 (by omega))
 have hl : (trimV l1).length = x.toNat := by rw [← ht, List.length_take]; omega
 rw [ht] at hV0
 have hV := Aside0.mk hV0
 rw [← hl] at hcut
 have z0 : wr.cell? ⟨w.heap.size, 0, none⟩ = some (.bool false) := (blk_cell BK.out 0).trans rfl
 have z1 : wr.cell? ⟨w.heap.size, 1, none⟩ = some (.slice none 0 0) := (blk_cell BK.out 1).trans rfl
 have y0 := blk_frozen BK.out 0
 have y1 := blk_frozen BK.out 1
 have eb : decide (0 < (trimV l1).length) = true := by rw [hl]; exact decide_eq_true (by omega)
 clear hV0 hl h0 h1 hcap ht
 cases a0
 · go_wp2
   refine bodyPost_ret (results_cell_row rfl _ _ w.heap.size 36 #[.bool (false && true), .slice (some ad) (trimV l1).length c1] (0, 0) _ rfl (blk_put (cs := #[.bool (false && true), .slice none 0 0]) (blk_put (cs := #[.bool false, .slice none 0 0]) BK.out 0 _ rfl) 1 _ rfl) Try.underlying36 rfl (by kernel_rfl)) rfl ?_
   exact ⟨_, by first | (with_reducible rfl) | (rw [eb]; done) | (show Ending.returned (Value.agg #[Value.bool false, _]) = _; with_reducible rfl) | rw [eb] | (simp only [eb]; rfl) | (simp [eb]), Kd.V_mono (Kd.V_far (Kd.V_far (p := ⟨w.heap.size, 0, none⟩) hV.out (fun _ hk => hk.2) _) (p := ⟨w.heap.size, 1, none⟩) (fun _ hk => hk.2) _) (fun _ hk => hk.1), below_set (below_set HB.out (Nat.le_refl _)) (Nat.le_refl _)⟩
 go_wp2
 refine bodyPost_ret (results_cell_row rfl _ _ w.heap.size 36 #[.bool (true && true), .slice (some ad) (trimV l1).length c1] (0, 0) _ rfl (blk_put (cs := #[.bool (true && true), .slice none 0 0]) (blk_put (cs := #[.bool false, .slice none 0 0]) BK.out 0 _ rfl) 1 _ rfl) Try.underlying36 rfl (by kernel_rfl)) rfl ?_
 exact ⟨_, by first | (with_reducible rfl) | (rw [eb]; done) | (show Ending.returned (Value.agg #[Value.bool false, _]) = _; with_reducible rfl) | rw [eb] | (simp only [eb]; rfl) | (simp [eb]), Kd.V_mono (Kd.V_far (Kd.V_far (p := ⟨w.heap.size, 0, none⟩) hV.out (fun _ hk => hk.2) _) (p := ⟨w.heap.size, 1, none⟩) (fun _ hk => hk.2) _) (fun _ hk => hk.1), below_set (below_set HB.out (Nat.le_refl _)) (Nat.le_refl _)⟩

end Go.Proofs.Ytlbljdjbcbgnlaa.PX
namespace Go.Proofs.Ytlbljdjbcbgnlaa.PX
open Go.RowKit Go.Proofs.YtlbljdjbcbgnlaaW.PrintWords Go.Proofs.YtlbljdjbcbgnlaaW.PrintLast Go.Proofs.YtlbljdjbcbgnlaaW.PrintMore
attribute [local go_sem] max2_int min2_int max_two min_two max_three min_three max_four min_four   -- for this text's walks alone
set_option linter.unusedVariables false
set_option linter.unusedSimpArgs false

/-! ### maskref4_DecInt: function 18 -/
def maskref4_DecInt.l0 : Nat → Int → List Int → Int → Option (Bool × List Int)
 | 0, _, _, _ => none
 | k + 1, x0, x3, x4 => if x4 = 0 then ((maskref4_trim.f (decide (x0 < 0)) x3).bind fun bt268 => (some (bt268.1, bt268.2))) else (if (Int.tmod x4 10) < 0 then (if x3.length < 17592186044416 then (maskref4_DecInt.l0 k x0 (x3 ++ [wrap64 (-(Int.tmod x4 10))]) (wrap64 (Int.tdiv x4 10))) else (none)) else (if x3.length < 17592186044416 then (maskref4_DecInt.l0 k x0 (x3 ++ [Int.tmod x4 10]) (wrap64 (Int.tdiv x4 10))) else (none)))
def maskref4_DecInt.f (k : Nat) (a0 : Int) : Option (Bool × List Int) := maskref4_DecInt.l0 k a0 ([] : List Int) a0
theorem maskref4_DecInt.mono_l : ∀ k, (∀ y0 y1 y2, LeO (maskref4_DecInt.l0 k y0 y1 y2) (maskref4_DecInt.l0 (k + 1) y0 y1 y2))
 | 0 => fun _ _ _ r h => by simp [maskref4_DecInt.l0] at h
 | k + 1 => by
  have ih0 := maskref4_DecInt.mono_l k
  · intro y0 y1 y2
    unfold maskref4_DecInt.l0
    repeat' first
    | (with_reducible exact ih0 _ _ _)
    | (with_reducible exact LeO.refl _)
    | (with_reducible exact LeO.none _)
    | (with_reducible refine LeO.ite ?_ ?_)
    | (with_reducible refine LeO.bind ?_ (fun _ => ?_))
theorem maskref4_DecInt.mono : ∀ a0 k, LeO (maskref4_DecInt.f k a0) (maskref4_DecInt.f (k + 1) a0) := by
 intro a0 k
 have ih0 := maskref4_DecInt.mono_l k
 unfold maskref4_DecInt.f
 repeat' first
  | (with_reducible exact ih0 _ _ _)
  | (with_reducible exact LeO.refl _)
  | (with_reducible exact LeO.none _)
  | (with_reducible refine LeO.ite ?_ ?_)
  | (with_reducible refine LeO.bind ?_ (fun _ => ?_))
set_option maxHeartbeats 8000000 in
set_option maxRecDepth 100000 in
theorem maskref4_DecInt.calls (k : Nat) (a0 : Int) (r1 : Bool) (r2 : List Int) (w : World) (h : maskref4_DecInt.f k a0 = some (r1, r2)) :
 Calls Try.prog 18 #[.int .i64 a0] w fun e w' => ∃ v1_ : Value, e = .returned (.agg #[.bool r1, v1_]) ∧ Kd.V (Kd.int .i64) 3 w' w.heap.size (fun k_ => (w.heap.size ≤ k_)) v1_ r2 ∧ Below w.heap.size w w' := by
 have HB := Aside0.mk (Below.refl w.heap.size w)
 have H : (maskref4_DecInt.l0 k a0 ([] : List Int) a0) = some (r1, r2) := h
 clear h
 have H' := Aside0.mk H
 clear H
 go_enter Try.func18, Try.ntmps18
 go_wp2_with ((with_reducible refine gate_dst (N := 2) rfl ?_); refine box_event ?hg (N := 2) ?hd (cs := #[.bool false, .slice none 0 0]) (t := 36) ?hr ?_; (case hd => rfl); (case hg => rfl); (case hr => first | (go_simp; done) | (go_simp; rfl)); intro gb267 hg w2 hbox hb; have BK267 := Aside0.mk (hbox); have GE267 := Aside0.mk (ge (w := w) hg); replace HB := Aside0.mk (below_step bl hb); clear hb hbox hg)
 go_loopg [3, 4] k (fun kq v3 v4 w' => ∃ (x3_1 : List Int) (x4_1 : Int), v4 = .int .i64 x4_1 ∧ Aside0 (maskref4_DecInt.l0 kq a0 x3_1 x4_1 = some (r1, r2)) ∧ Aside0 (kq ≤ k) ∧ Aside0 (Kd.R (Kd.int .i64) 3 w' w.heap.size (fun k_ => (w.heap.size ≤ k_)) v3 x3_1) ∧ Aside0 (w'.heap[gb267]? = some (.cells #[.bool false, (.slice none 0 0)] 36 (0, 0))) ∧ Aside0 (Below w.heap.size w w'))
 case atStart => exact ⟨(([] : List Int)), (a0), (by first | rfl | (simp; done) | (simp [*]; done)), H', ⟨Nat.le_refl _⟩, ⟨by first | exact Kd.R_nil _ _ _ _ _ | exact Kd.N_nil _ _ _ _ _ | exact Kd.V_nil _ _ _ _ _ | exact Kd.Q_nil _ _ _ _ _ | exact Kd.S_nil _ _ _ _ _⟩, ⟨bk BK267.out⟩, ⟨bl⟩⟩
 clear H'
 obtain ⟨x3_1, x4_1, rfl, HA, HK1, HO_3, BK267, HB⟩ := hrel
 cases gk with
 | zero => exact absurd HA.out (by simp [maskref4_DecInt.l0])
 | succ k1 =>
  have H := HA.out
  clear HA
  simp only [maskref4_DecInt.l0] at H
  by_cases c3 : x4_1 = 0
  · rw [if_pos c3] at H
    have c3b1 : (x4_1 != 0) = false := bne_eq_false_iff_eq.mpr c3
    clear c3
    replace H := Option.bind_eq_some_iff.mp H
    obtain ⟨⟨t268, t269⟩, A40, H⟩ := H
    replace H : (some (t268, t269)) = some (r1, r2) := H
    have A4 := Aside0.mk A40
    clear A40
    simp only [Option.some.injEq, Prod.mk.injEq] at H
    obtain ⟨rfl, rfl⟩ := H
    obtain ⟨Ao5, co5, eo5⟩ := Kd.R_slice HO_3.out
    subst eo5
    go_wp2_with ((with_reducible refine gate_callee (f := 66) rfl ?_); refine goesL_ (some 24) rfl rfl Try.func66 (by kernel_rfl) rfl #[.bool (decide (a0 < 0)), .slice Ao5 x3_1.length co5] rfl (by (try simp only [List.map_toArray, List.map_cons, List.map_nil]); first | done | rfl | (simp only [List.length_drop, List.length_take]; rfl)) ?_; (with_reducible refine (maskref4_trim.calls (decide (a0 < 0)) (fun k_ => some k_ = (.slice Ao5 x3_1.length co5 : Value).ownBlock) _ _ x3_1 t268 t269 _ ?side1 A4.out).mono ?_); (case side1 => exact Kd.R_V (Kd.R_tight rfl (Kd.R_types (HO_3.out) BK267.out (by decide)))); rintro e w6 ⟨v270, rfl, ho0, hb⟩; refine ⟨_, rfl, ?_⟩; have HO271 := Aside0.mk (Kd.V_lower (Kd.V_mono (ok' := fun k_ => (w.heap.size ≤ k_) ∧ k_ ≠ gb267) ho0 (fun k_ hk_ => ⟨Or.elim hk_ (fun hs_ => ((Kd.R_types (HO_3.out) BK267.out (by decide)).1 k_ hs_.symm).1) (fun hn_ => (Nat.le_trans (below_size bl) hn_)), Or.elim hk_ (fun hs_ => ((Kd.R_types (HO_3.out) BK267.out (by decide)).1 k_ hs_.symm).2) (fun hn_ => (Kd.freshB (g := gb267) (o := .cells #[.bool false, .slice none 0 0] 36 (0, 0)) (bk BK267.out) k_ hn_))⟩)) (below_size bl)); replace HO_3 := Aside0.mk (rb HO_3.out hb); replace BK267 := Aside0.mk (bb BK267.out hb); replace HB := Aside0.mk (below_step bl hb); (try clear hb); (try clear ho0); obtain ⟨hcz7_0, hcz7_1, hfz7_0, hfz7_1⟩ := bz2 BK267.out; obtain ⟨Ao8, co8, eo8⟩ := Kd.V_slice HO271.out; subst eo8)
    refine bodyPost_ret (results_cell_row rfl _ _ gb267 36 #[.bool t268, .slice Ao8 t269.length co8] (0, 0) _ rfl (by (with_reducible repeat (first | refine blk_drewN ?_ _ | refine blk_drew ?_ | refine blk_alloc ?_ _)); refine blk_put (cs := #[.bool t268, .slice none 0 0]) ?_ 1 _ rfl; (with_reducible repeat (first | refine blk_drewN ?_ _ | refine blk_drew ?_ | refine blk_alloc ?_ _)); refine blk_put (cs := #[.bool false, .slice none 0 0]) ?_ 0 _ rfl; (with_reducible repeat (first | refine blk_drewN ?_ _ | refine blk_drew ?_ | refine blk_alloc ?_ _)); exact BK267.out) Try.underlying36 rfl (by kernel_rfl)) rfl ?_
    exact ⟨_, by first | rfl | (simp [errW_none, errW_some] <;> rfl) | (simp [*, errW_none, errW_some] <;> rfl), by (with_reducible repeat (first | apply Kd.V_alloc | apply Kd.V_drewN | apply Kd.V_drew)); exact Kd.V_mono (Kd.V_far (p := ⟨gb267, 1, none⟩) (Kd.V_far (p := ⟨gb267, 0, none⟩) (Kd.V_mono HO271.out (fun k_ hk => (⟨hk, hk.2⟩ : _ ∧ k_ ≠ gb267))) (fun _ hk => hk.2) (.bool t268)) (fun _ hk => hk.2) (.slice Ao8 t269.length co8)) (fun _ hk => hk.1.1), bl⟩
  rw [if_neg c3] at H
  have c3b0 : (x4_1 == 0) = false := beq_eq_false_iff_ne.mpr c3
  have c3b1 : (x4_1 != 0) = true := bne_iff_ne.mpr c3
  by_cases c9 : (Int.tmod x4_1 10) < 0
  · rw [if_pos c9] at H
    have c9b0 : decide ((Int.tmod x4_1 10) < 0) = true := decide_eq_true c9
    clear c9
    by_cases c10 : x3_1.length < 17592186044416
    rotate_left
    · rw [if_neg c10] at H
      exact absurd H (by simp)
    rw [if_pos c10] at H
    have LMc10 := Aside0.mk c10
    clear c10
    obtain ⟨y272, hy272⟩ : ∃ y_ : List Int, y_ = (x3_1 ++ [wrap64 (-(Int.tmod x4_1 10))]) := ⟨_, rfl⟩
    replace H : (maskref4_DecInt.l0 k1 a0 y272 (wrap64 (Int.tdiv x4_1 10))) = some (r1, r2) := by first | (rw [hy272]; with_reducible exact H) | (have H2_ := (Option.bind_some _ _).symm.trans H; rw [hy272]; with_reducible exact H2_) | (have H2_ := (Option.bind_some _ _).symm.trans H; with_reducible exact H2_) | with_reducible exact H | (rw [hy272]; exact H) | exact H
    have Ny272 := Aside0.mk hy272
    clear hy272
    have H' := Aside0.mk H
    clear H
    go_wp2_with ((with_reducible refine gate_builtin (b := .append) (xs := #[.tmp 17, .tmp 19]) rfl ?_); at_builtin; refine Kd.R_append (Kd.int .i64) (w0 := w) w.heap.size rfl (.tmp 17) (.tmp 19) 34 3 (.int .i64 0) 8 rfl Try.underlying34 info3 rfl (by decide) (by omega) u3 x3_1 (wrap64 (-(Int.tmod x4_1 10))) [.int .i64 (wrap64 (-(Int.tmod x4_1 10)))] (fun k_ => (w.heap.size ≤ k_)) (fun _ => False) rfl rfl ?aP (fun _ hk => hk.elim) ?aF ?aO ?aB ?aS ?aL ?_; (case aP => exact rfl); (case aB => exact bl); (case aF => exact (fun k_ hk => (Nat.le_trans (below_size bl) hk))); (case aO => exact (by (with_reducible repeat (first | apply Kd.R_alloc | apply Kd.R_drewN | apply Kd.R_drew)); exact HO_3.out)); (case aS => exact (below_size bl)); (case aL => have := LMc10.out; omega); intro v273 w11 ho hb hg hat; rw [← Ny272.out] at ho; replace BK267 := Aside0.mk (blk_grown (bk BK267.out) hg (Kd.R_ne HO_3.out BK267.out (by decide))); replace HB := Aside0.mk (hb); have HO274 := Aside0.mk (ho); clear HO_3; clear ho hb hg hat)
    go_roundg k1
    case measure => have := HK1.out; omega
    case rel => exact ⟨(y272), (wrap64 (Int.tdiv x4_1 10)), (by first | rfl | (simp; done) | (simp [*]; done)), H', ⟨by have := HK1.out; omega⟩, ⟨by (with_reducible repeat (first | apply Kd.R_alloc | apply Kd.R_drewN | apply Kd.R_drew)); exact HO274.out⟩, ⟨bk BK267.out⟩, ⟨bl⟩⟩
  rw [if_neg c9] at H
  have c9b0 : decide ((Int.tmod x4_1 10) < 0) = false := decide_eq_false c9
  clear c9
  by_cases c12 : x3_1.length < 17592186044416
  rotate_left
  · rw [if_neg c12] at H
    exact absurd H (by simp)
  rw [if_pos c12] at H
  have LMc12 := Aside0.mk c12
  clear c12
  obtain ⟨y275, hy275⟩ : ∃ y_ : List Int, y_ = (x3_1 ++ [Int.tmod x4_1 10]) := ⟨_, rfl⟩
  replace H : (maskref4_DecInt.l0 k1 a0 y275 (wrap64 (Int.tdiv x4_1 10))) = some (r1, r2) := by first | (rw [hy275]; with_reducible exact H) | (have H2_ := (Option.bind_some _ _).symm.trans H; rw [hy275]; with_reducible exact H2_) | (have H2_ := (Option.bind_some _ _).symm.trans H; with_reducible exact H2_) | with_reducible exact H | (rw [hy275]; exact H) | exact H
  have Ny275 := Aside0.mk hy275
  clear hy275
  have H' := Aside0.mk H
  clear H
  go_wp2_with ((with_reducible refine gate_builtin (b := .append) (xs := #[.tmp 17, .tmp 19]) rfl ?_); at_builtin; refine Kd.R_append (Kd.int .i64) (w0 := w) w.heap.size rfl (.tmp 17) (.tmp 19) 34 3 (.int .i64 0) 8 rfl Try.underlying34 info3 rfl (by decide) (by omega) u3 x3_1 (Int.tmod x4_1 10) [.int .i64 (Int.tmod x4_1 10)] (fun k_ => (w.heap.size ≤ k_)) (fun _ => False) rfl rfl ?aP (fun _ hk => hk.elim) ?aF ?aO ?aB ?aS ?aL ?_; (case aP => exact rfl); (case aB => exact bl); (case aF => exact (fun k_ hk => (Nat.le_trans (below_size bl) hk))); (case aO => exact (by (with_reducible repeat (first | apply Kd.R_alloc | apply Kd.R_drewN | apply Kd.R_drew)); exact HO_3.out)); (case aS => exact (below_size bl)); (case aL => have := LMc12.out; omega); intro v276 w13 ho hb hg hat; rw [← Ny275.out] at ho; replace BK267 := Aside0.mk (blk_grown (bk BK267.out) hg (Kd.R_ne HO_3.out BK267.out (by decide))); replace HB := Aside0.mk (hb); have HO277 := Aside0.mk (ho); clear HO_3; clear ho hb hg hat)
  go_roundg k1
  case measure => have := HK1.out; omega
  case rel => exact ⟨(y275), (wrap64 (Int.tdiv x4_1 10)), (by first | rfl | (simp; done) | (simp [*]; done)), H', ⟨by have := HK1.out; omega⟩, ⟨by (with_reducible repeat (first | apply Kd.R_alloc | apply Kd.R_drewN | apply Kd.R_drew)); exact HO277.out⟩, ⟨bk BK267.out⟩, ⟨bl⟩⟩

end Go.Proofs.Ytlbljdjbcbgnlaa.PX
namespace Go.Proofs.Ytlbljdjbcbgnlaa.PX
open Go.RowKit Go.Proofs.YtlbljdjbcbgnlaaW.PrintWords Go.Proofs.YtlbljdjbcbgnlaaW.PrintLast Go.Proofs.YtlbljdjbcbgnlaaW.PrintMore
attribute [local go_sem] max2_int min2_int max_two min_two max_three min_three max_four min_four   -- for this text's walks alone
set_option linter.unusedVariables false
set_option linter.unusedSimpArgs false

/-! ### maskref4_Dec_Text: function 26 -/
def maskref4_Dec_Text.l0 : Nat → ByteArray → List Int → Int → Int → Bool → List Int → Option (ByteArray)
 | 0, _, _, _, _, _, _ => none
 | k + 1, x3, x11, x12, x13, x279000, x279001 => if x13 < x12 then (if 0 ≤ x13 then (if x13 < (x11.length : Int) then ((some (([(wrap64 (48 + (rd x11 x13))) % 256] : List Int) : List Int)).bind fun y280 => (if (strOfNums y280).size + x3.size ≤ 9223372036854775807 then (maskref4_Dec_Text.l0 k ((strOfNums y280) ++ x3) x11 x12 (wrap64 (x13 + 1)) x279000 x279001) else (none))) else (none)) else (none)) else (if x279000 = true then (if 1 + x3.size ≤ 9223372036854775807 then (some ((⟨#[45]⟩ : ByteArray) ++ x3)) else (none)) else (some x3))
def maskref4_Dec_Text.f (k : Nat) (a0_0 : Bool) (l0_1 : List Int) : Option (ByteArray) := if (l0_1.length : Int) = 0 then (some (⟨#[48]⟩ : ByteArray)) else (maskref4_Dec_Text.l0 k (⟨#[]⟩ : ByteArray) l0_1 (l0_1.length : Int) 0 a0_0 l0_1)
theorem maskref4_Dec_Text.mono_l : ∀ k, (∀ y0 y1 y2 y3 y4 y5, LeO (maskref4_Dec_Text.l0 k y0 y1 y2 y3 y4 y5) (maskref4_Dec_Text.l0 (k + 1) y0 y1 y2 y3 y4 y5))
 | 0 => fun _ _ _ _ _ _ r h => by simp [maskref4_Dec_Text.l0] at h
 | k + 1 => by
  have ih0 := maskref4_Dec_Text.mono_l k
  · intro y0 y1 y2 y3 y4 y5
    unfold maskref4_Dec_Text.l0
    repeat' first
    | (with_reducible exact ih0 _ _ _ _ _ _)
    | (with_reducible exact LeO.refl _)
    | (with_reducible exact LeO.none _)
    | (with_reducible refine LeO.ite ?_ ?_)
    | (with_reducible refine LeO.bind ?_ (fun _ => ?_))
theorem maskref4_Dec_Text.mono : ∀ a0 a1 k, LeO (maskref4_Dec_Text.f k a0 a1) (maskref4_Dec_Text.f (k + 1) a0 a1) := by
 intro a0 a1 k
 have ih0 := maskref4_Dec_Text.mono_l k
 unfold maskref4_Dec_Text.f
 repeat' first
  | (with_reducible exact ih0 _ _ _ _ _ _)
  | (with_reducible exact LeO.refl _)
  | (with_reducible exact LeO.none _)
  | (with_reducible refine LeO.ite ?_ ?_)
  | (with_reducible refine LeO.bind ?_ (fun _ => ?_))
set_option maxHeartbeats 8000000 in
set_option maxRecDepth 100000 in
theorem maskref4_Dec_Text.calls (k : Nat) (a0_0 : Bool) (A0_1 : Option Addr) (c0_1 : Nat) (l0_1 : List Int) (r : ByteArray) (w : World) (hr0_1 : Kd.C (Kd.int .i64) w A0_1 l0_1.length l0_1) (hc0_1 : l0_1.length ≤ c0_1) (h : maskref4_Dec_Text.f k a0_0 l0_1 = some r) :
 Calls Try.prog 26 #[.agg #[.bool a0_0, .slice A0_1 l0_1.length c0_1]] w fun e w' => e = .returned (.string r) ∧ Below w.heap.size w w' := by
 have HR0_1 := Aside0.mk hr0_1
 clear hr0_1 hc0_1
 have HB := Aside0.mk (Below.refl w.heap.size w)
 have H : (if (l0_1.length : Int) = 0 then (some (⟨#[48]⟩ : ByteArray)) else (maskref4_Dec_Text.l0 k (⟨#[]⟩ : ByteArray) l0_1 (l0_1.length : Int) 0 a0_0 l0_1)) = some r := h
 clear h
 by_cases c2 : (l0_1.length : Int) = 0
 · rw [if_pos c2] at H
   have c2b0 : ((l0_1.length : Int) == 0) = true := beq_iff_eq.mpr c2
   clear c2
   obtain rfl := Option.some.inj H
   go_enter Try.func26, Try.ntmps26
   go_wp2_with ((with_reducible refine gate_dst (N := 1) rfl ?_); refine box_event ?hg (N := 1) ?hd (cs := #[.bool a0_0, .slice A0_1 l0_1.length c0_1]) (t := 36) ?hr ?_; (case hd => rfl); (case hg => rfl); (case hr => first | (go_simp; done) | (go_simp; rfl)); intro gb278 hg w3 hbox hb; have BK278 := Aside0.mk (hbox); replace HB := Aside0.mk (below_step bl hb); clear hb hbox hg; obtain ⟨hcz4_0, hcz4_1, hfz4_0, hfz4_1⟩ := bz2 BK278.out)
   go_ret
   exact ⟨by first | rfl | (simp [errW_none, errW_some] <;> rfl) | (simp [*, errW_none, errW_some] <;> rfl), bl⟩
 rw [if_neg c2] at H
 have c2b0 : ((l0_1.length : Int) == 0) = false := beq_eq_false_iff_ne.mpr c2
 have c2b1 : ((l0_1.length : Int) != 0) = true := bne_iff_ne.mpr c2
 have c2b2 : ¬ (l0_1 = []) := fun h_ => c2 (by rw [h_]; rfl)
 have H' := Aside0.mk H
 clear H
 go_enter Try.func26, Try.ntmps26
 go_wp2_with ((with_reducible refine gate_dst (N := 1) rfl ?_); refine box_event ?hg (N := 1) ?hd (cs := #[.bool a0_0, .slice A0_1 l0_1.length c0_1]) (t := 36) ?hr ?_; (case hd => rfl); (case hg => rfl); (case hr => first | (go_simp; done) | (go_simp; rfl)); intro gb278 hg w5 hbox hb; have BK278 := Aside0.mk (hbox); replace HB := Aside0.mk (below_step bl hb); clear hb hbox hg; obtain ⟨hcz6_0, hcz6_1, hfz6_0, hfz6_1⟩ := bz2 BK278.out)
 go_loopg [3, 13] k (fun kq v3 v13 w' => ∃ (x3_1 : ByteArray) (x13_1 : Int), v3 = .string x3_1 ∧ v13 = .int .i64 x13_1 ∧ Aside0 (maskref4_Dec_Text.l0 kq x3_1 l0_1 (l0_1.length : Int) x13_1 a0_0 l0_1 = some r) ∧ Aside0 (kq ≤ k) ∧ Aside0 (w'.heap[gb278]? = some (.cells #[.bool a0_0, (.slice A0_1 l0_1.length c0_1)] 36 (0, 0))) ∧ Aside0 (Below w.heap.size w w'))
 case atStart => exact ⟨((⟨#[]⟩ : ByteArray)), (0), (by first | rfl | (simp; done) | (simp [*]; done)), (by first | rfl | (simp; done) | (simp [*]; done)), H', ⟨Nat.le_refl _⟩, ⟨bk BK278.out⟩, ⟨bl⟩⟩
 clear H'
 clear c2 c2b0 c2b1 c2b2 hcz6_0 hcz6_1 hfz6_0 hfz6_1
 obtain ⟨x3_1, x13_1, rfl, rfl, HA, HK1, BK278, HB⟩ := hrel
 cases gk with
 | zero => exact absurd HA.out (by simp [maskref4_Dec_Text.l0])
 | succ k1 =>
  have H := HA.out
  clear HA
  simp only [maskref4_Dec_Text.l0] at H
  by_cases c7 : x13_1 < (l0_1.length : Int)
  rotate_left
  · rw [if_neg c7] at H
    have c7b0 : decide (x13_1 < (l0_1.length : Int)) = false := decide_eq_false c7
    clear c7
    by_cases c14 : a0_0 = true
    rotate_left
    · replace c14 := Bool.eq_false_iff.mpr c14
      subst c14
      have H1 : (some x3_1) = some r := by rw [if_neg (show ¬ (false = true) by decide)] at H; exact H
      clear H
      have H := H1
      clear H1
      obtain rfl := Option.some.inj H
      obtain ⟨hcz17_0, hcz17_1, hfz17_0, hfz17_1⟩ := bz2 BK278.out
      go_wp2
      go_ret
      exact ⟨by first | rfl | (simp [errW_none, errW_some] <;> rfl) | (simp [*, errW_none, errW_some] <;> rfl), bl⟩
    subst c14
    have H1 : (if 1 + x3_1.size ≤ 9223372036854775807 then (some ((⟨#[45]⟩ : ByteArray) ++ x3_1)) else (none)) = some r := by rw [if_pos rfl] at H; exact H
    clear H
    have H := H1
    clear H1
    by_cases c15 : 1 + x3_1.size ≤ 9223372036854775807
    rotate_left
    · rw [if_neg c15] at H
      exact absurd H (by simp)
    rw [if_pos c15] at H
    try have c15b2 : (9223372036854775807 < 1 + x3_1.size) = False := eq_false (Nat.not_lt.2 c15)
    obtain rfl := Option.some.inj H
    obtain ⟨hcz16_0, hcz16_1, hfz16_0, hfz16_1⟩ := bz2 BK278.out
    go_wp2
    go_ret
    exact ⟨by first | rfl | (simp [errW_none, errW_some] <;> rfl) | (simp [*, errW_none, errW_some] <;> rfl), bl⟩
  rw [if_pos c7] at H
  have c7b0 : decide (x13_1 < (l0_1.length : Int)) = true := decide_eq_true c7
  clear c7
  by_cases c8 : 0 ≤ x13_1
  rotate_left
  · rw [if_neg c8] at H
    exact absurd H (by simp)
  rw [if_pos c8] at H
  have c8b0 : decide (0 ≤ x13_1) = true := decide_eq_true c8
  clear c8
  by_cases c9 : x13_1 < (l0_1.length : Int)
  rotate_left
  · rw [if_neg c9] at H
    exact absurd H (by simp)
  rw [if_pos c9] at H
  have c9b0 : decide (x13_1 < (l0_1.length : Int)) = true := decide_eq_true c9
  clear c9
  obtain ⟨y280, hy280⟩ : ∃ y_ : List Int, y_ = (([(wrap64 (48 + (rd l0_1 x13_1))) % 256] : List Int)) := ⟨_, rfl⟩
  replace H : (if (strOfNums y280).size + x3_1.size ≤ 9223372036854775807 then (maskref4_Dec_Text.l0 k1 ((strOfNums y280) ++ x3_1) l0_1 (l0_1.length : Int) (wrap64 (x13_1 + 1)) a0_0 l0_1) else (none)) = some r := by first | (rw [hy280]; with_reducible exact H) | (have H2_ := (Option.bind_some _ _).symm.trans H; rw [hy280]; with_reducible exact H2_) | (have H2_ := (Option.bind_some _ _).symm.trans H; with_reducible exact H2_) | with_reducible exact H | (rw [hy280]; exact H) | exact H
  have Ny280 := Aside0.mk hy280
  clear hy280
  by_cases c10 : (strOfNums y280).size + x3_1.size ≤ 9223372036854775807
  rotate_left
  · rw [if_neg c10] at H
    exact absurd H (by simp)
  rw [if_pos c10] at H
  try have c10b2 : (9223372036854775807 < (strOfNums y280).size + x3_1.size) = False := eq_false (Nat.not_lt.2 c10)
  have H' := Aside0.mk H
  clear H
  have p279 : 0 ≤ (x13_1 : Int) := of_decide_eq_true (by first | (with_reducible assumption) | assumption)
  have q279 : x13_1 < (l0_1.length : Int) := of_decide_eq_true (by first | (with_reducible assumption) | assumption)
  obtain ⟨ad279, e279, hx279_0⟩ := Kd.at_int HR0_1.out x13_1 p279 q279
  cases e279
  replace hx279_0 := hc HB.out hx279_0
  replace p279 := eq_true p279
  replace q279 := eq_true q279
  go_wp2_with ((with_reducible refine gate_dst (N := 20) rfl ?_); refine Kd.R_lit (Kd.int .u8) _ 5 ?hg (N := 20) ?hd (xs := ([(wrap64 (48 + (rd l0_1 x13_1))) % 256] : List Int)) (inner := [.int .u8 ((wrap64 (48 + (rd l0_1 x13_1))) % 256)]) (ok := fun _ => True) (okp := fun _ => True) ?hr ?hp (fun _ hk => hk) trivial (Below.refl _ _) (Nat.le_refl _) (by simp) ?_; (case hd => rfl); (case hg => rfl); (case hr => first | (go_simp; done) | (go_simp; rfl)); (case hp => exact (Reps.one (show Kd.M (Kd.int .u8) _ _ _ ((wrap64 (48 + (rd l0_1 x13_1))) % 256) [.int .u8 ((wrap64 (48 + (rd l0_1 x13_1))) % 256)] from rfl) (Reps.none _ _))); intro v281 w11 ho12 hb hg_ hnew_; clear hg_ hnew_; (first | rw [← Ny280.out] at ho12 | (simp only [Int.reduceToNat] at ho12; rw [← Ny280.out] at ho12)); have HO282 := Aside0.mk (Kd.R_lower ho12 (below_size bl)); replace BK278 := Aside0.mk (bb BK278.out hb); replace HB := Aside0.mk (below_step bl hb); clear hb ho12; have hcv13 := own_string (P := Try.prog) Try.underlying102 Try.underlying5 Try.underlying9 (Kd.own_of_R HO282.out))
  go_roundg k1
  case measure => have := HK1.out; omega
  case rel => exact ⟨((strOfNums y280) ++ x3_1), (wrap64 (x13_1 + 1)), (by first | rfl | (simp; done) | (simp [*]; done)), (by first | rfl | (simp; done) | (simp [*]; done)), H', ⟨by have := HK1.out; omega⟩, ⟨bk BK278.out⟩, ⟨bl⟩⟩

end Go.Proofs.Ytlbljdjbcbgnlaa.PX
