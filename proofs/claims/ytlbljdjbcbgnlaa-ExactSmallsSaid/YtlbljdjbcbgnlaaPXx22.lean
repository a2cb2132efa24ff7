-- PRINTED by print.py (a twelfth state) out of the translation. Not trusted: Lean checks it.
import Derived.Test.YtlbljdjbcbgnlaaCmp
import Derived.Test.YtlbljdjbcbgnlaaPXx0
import Derived.Test.YtlbljdjbcbgnlaaPXx9
import Derived.Test.YtlbljdjbcbgnlaaPXx16
import Derived.Test.YtlbljdjbcbgnlaaPXx4
namespace Go.Proofs.Ytlbljdjbcbgnlaa.PX
open Go.RowKit Go.Proofs.YtlbljdjbcbgnlaaW.PrintWords Go.Proofs.YtlbljdjbcbgnlaaW.PrintLast Go.Proofs.YtlbljdjbcbgnlaaW.PrintMore
attribute [local go_sem] max2_int min2_int max_two min_two max_three min_three max_four min_four   -- for this text's walks alone
set_option linter.unusedVariables false
set_option linter.unusedSimpArgs false

-- the contract of function 87 (maskwright/exact.divMag): written by hand
/-! ### exact_divMag: function 87 -/
/-- Division by one place, or of what is less (what there is of it so far). -/
def exact_divMag.f (k : Nat) (l0 : List Int) (l1 : List Int) : Option (List Int × List Int) := (exact_cmpMag.f k l0 l1).bind fun c => if c < 0 then some (([] : List Int), l0) else if l1.length = 1 then (exact_divSmall.f k l0 (rd l1 0)).bind fun p => some (p.1, [p.2]) else none
theorem exact_divMag.mono : ∀ a0 a1 k, LeO (exact_divMag.f k a0 a1) (exact_divMag.f (k + 1) a0 a1) := by
 intro a0 a1 k
 unfold exact_divMag.f
 exact LeO.bind (exact_cmpMag.mono _ _ k) (fun c => LeO.ite (LeO.refl _) (LeO.ite (LeO.bind (exact_divSmall.mono _ _ k) (fun p => LeO.refl _)) (LeO.refl _)))
set_option maxHeartbeats 8000000 in
set_option maxRecDepth 100000 in
theorem exact_divMag.calls (k : Nat) (P0_ : Nat → Prop) (A0 : Option Addr) (c0 : Nat) (l0 : List Int) (A1 : Option Addr) (c1 : Nat) (l1 : List Int) (r1 : List Int) (r2 : List Int) (w : World) (hs0 : Kd.V (Kd.int .u32) 97 w w.heap.size (fun k_ => P0_ k_) (.slice A0 l0.length c0) l0) (hr1 : Kd.C (Kd.int .u32) w A1 l1.length l1) (hc1 : l1.length ≤ c1) (h : exact_divMag.f k l0 l1 = some (r1, r2)) :
 Calls Try.prog 87 #[.slice A0 l0.length c0, .slice A1 l1.length c1] w fun e w' => ∃ v0_ v1_ : Value, e = .returned (.tuple #[v0_, v1_]) ∧ Kd.V (Kd.int .u32) 97 w' w.heap.size (fun k_ => (P0_ k_ ∨ w.heap.size ≤ k_)) v0_ r1 ∧ Kd.V (Kd.int .u32) 97 w' w.heap.size (fun k_ => (P0_ k_ ∨ w.heap.size ≤ k_)) v1_ r2 ∧ Below w.heap.size w w' := by
 unfold exact_divMag.f at h
 obtain ⟨c, hc, h⟩ := Option.bind_eq_some_iff.mp h
 have HO := Aside0.mk hs0
 have HR := Aside0.mk hr1
 clear hs0 hr1
 go_enter Try.func87, Try.ntmps87
 go_wp2_with fail
 refine (exact_cmpMag.calls k A0 c0 l0 A1 c1 l1 c _ (Kd.V_reads' HO.out).2.2 (Kd.V_at HO.out).2.1 HR.out hc1 hc).mono ?_
 rintro e w1 ⟨rfl, hwd⟩
 have HB := Aside0.mk hwd
 clear hwd
 have hs1 : w.heap.size ≤ w1.heap.size := HB.out.size
 replace HO := Aside0.mk (Kd.V_below HO.out HB.out)
 replace HR := Aside0.mk (Kd.C_below HR.out HB.out)
 by_cases cn : c < 0
 · rw [if_pos cn] at h
   have b0 : decide (c < 0) = true := decide_eq_true cn
   simp only [Option.some.injEq, Prod.mk.injEq] at h
   obtain ⟨rfl, rfl⟩ := h
   go_wp2
   go_ret2
   exact ⟨_, _, rfl, Kd.V_nil _ _ _ _ _, Kd.V_mono HO.out (fun _ hk => .inl hk), HB.out⟩
 rw [if_neg cn] at h
 have b0 : decide (c < 0) = false := decide_eq_false cn
 by_cases c1' : l1.length = 1
 rotate_left
 · rw [if_neg c1'] at h
   cases h
 rw [if_pos c1'] at h
 obtain ⟨p, hp, h⟩ := Option.bind_eq_some_iff.mp h
 simp only [Option.some.injEq, Prod.mk.injEq] at h
 obtain ⟨rfl, rfl⟩ := h
 have b1 : ((l1.length : Int) == 1) = true := by simp; omega
 have b2 : (l1.length == 1) = true := by simp; omega
 obtain ⟨ad, e1, hx0⟩ := Kd.at_int HR.out 0 (by omega) (by omega)
 cases e1
 have hx1 : w1.cell? ad = some (.int .u32 (rd l1 0)) := by simpa [Addr.add] using hx0
 have q0 : decide ((0 : Int) < (l1.length : Int)) = true := decide_eq_true (by omega)
 have q1 : (0 : Int) < (l1.length : Int) := by omega
 have q2 : 0 < l1.length := by omega
 go_wp2_with fail
 refine (exact_divSmall.calls k A0 c0 l0 (rd l1 0) p.1 p.2 _ (Kd.V_reads' HO.out).2.2 (Kd.V_at HO.out).2.1 hp).mono ?_
 rintro e w2 ⟨v, rfl, hR, hb⟩
 have hq := Kd.R_V (base' := w.heap.size) (Kd.R_tight rfl hR)
 replace HB := Aside0.mk (below_alloc (below_step HB.out hb) (.cells #[.int .u32 p.2] 97))
 have hle := HB.out.size
 have hlo := Kd.R_base hR
 have HV := Aside0.mk (Kd.V_alloc hq (.cells #[.int .u32 p.2] 97))
 have BR := blk_new w2 (.cells #[.int .u32 p.2] 97)
 have hsz : w.heap.size ≤ w2.heap.size := Nat.le_trans hs1 hb.size
 clear hx0
 go_wp2
 go_ret2
 exact ⟨_, _, rfl, Kd.V_mono HV.out (fun k hk => .inr (by have := hlo k hk.symm; omega)), Kd.V_mk (Nat.le_refl 1) (fun W' hW => Hnd.rowI [p.2] ((hW w2.heap.size (.inr hsz) (blk_lt BR)).trans BR) rfl (show 1 ≤ 9223372036854775807 by decide)), HB.out⟩

end Go.Proofs.Ytlbljdjbcbgnlaa.PX
namespace Go.Proofs.Ytlbljdjbcbgnlaa.PX
open Go.RowKit Go.Proofs.YtlbljdjbcbgnlaaW.PrintWords Go.Proofs.YtlbljdjbcbgnlaaW.PrintLast Go.Proofs.YtlbljdjbcbgnlaaW.PrintMore
attribute [local go_sem] max2_int min2_int max_two min_two max_three min_three max_four min_four   -- for this text's walks alone
private theorem z1 {α : Type} {l : List α} {i : Nat} {a : α} : l.toArray.setIfInBounds i a = (l.set i a).toArray := List.setIfInBounds_toArray _ _ _
private theorem z2 {α : Type} {x : α} {xs : List α} {a : α} : (x :: xs).set 0 a = a :: xs := List.set_cons_zero
private theorem z3 {α : Type} {x : α} {xs : List α} {n : Nat} {a : α} : (x :: xs).set (n + 1) a = x :: xs.set n a := List.set_cons_succ
private abbrev zb (n m : Nat) : Array Bool := (List.replicate n true ++ List.replicate m false).toArray
set_option linter.unusedVariables false
set_option linter.unusedSimpArgs false

-- the contract of function 80 (maskwright/exact.split): written by hand
/-! ### exact_split: function 80 -/
def exact_split.f (k : Nat) (a0_0 : Bool) (l0_1 : List Int) (a1_0 : Bool) (l1_1 : List Int) : Option (Bool × List Int × Bool × List Int) := (exact_divMag.f k l0_1 l1_1).bind fun bt224 => ((exact_made.f (a0_0 != a1_0) bt224.1).bind fun bt230 => ((exact_made.f a0_0 bt224.2).bind fun bt234 => (if bt234.1 = true then (none) else (some (bt230.1, bt230.2, bt234.1, bt234.2)))))
theorem exact_split.mono : ∀ a0 a1 a2 a3 k, LeO (exact_split.f k a0 a1 a2 a3) (exact_split.f (k + 1) a0 a1 a2 a3) := by
 intro a0 a1 a2 a3 k
 unfold exact_split.f
 repeat' first
  | (with_reducible exact exact_divMag.mono _ _ _)
  | (with_reducible exact LeO.refl _)
  | (with_reducible exact LeO.none _)
  | (with_reducible refine LeO.ite ?_ ?_)
  | (with_reducible refine LeO.bind ?_ (fun _ => ?_))
def exact_split.T2 : Bool × List (List Nat × List Nat) := (true, [([], []), ([0], [0]), ([], []), ([2], [2]), ([1, 3], [1, 3]), ([], []), ([4, 5], [4, 5]), ([], []), ([7], [7]), ([], []), ([8, 9, 6], [8, 9]), ([], []), ([], []), ([11, 6, 10, 0, 1, 2, 3, 4, 5, 6, 11, 12], [6, 11]), ([12, 10, 13, 0, 1, 2, 3, 4, 5, 6, 7, 8, 9, 10, 11, 12, 13], [10, 12])])
def exact_split.B2 : List Nat := [0, 1, 0, 4, 15, 0, 63, 0, 128, 0, 1023, 0, 0, 8191, 16383]
theorem exact_split.tab2 : rtab .any (opsOf Try.f80 2) = exact_split.T2 := by kernel_rfl
theorem exact_split.bits2 : waitsOk exact_split.T2.2 exact_split.B2 = true := by kernel_rfl
set_option maxHeartbeats 8000000 in
set_option maxRecDepth 100000 in
theorem exact_split.calls (k : Nat) (a0_0 : Bool) (P0_1_ : Nat → Prop) (A0_1 : Option Addr) (c0_1 : Nat) (l0_1 : List Int) (a1_0 : Bool) (A1_1 : Option Addr) (c1_1 : Nat) (l1_1 : List Int) (r1 : Bool) (r2 : List Int) (r3 : Bool) (r4 : List Int) (w : World) (hs0_1 : Kd.V (Kd.int .u32) 97 w w.heap.size (fun k_ => P0_1_ k_) (.slice A0_1 l0_1.length c0_1) l0_1) (hr1_1 : Kd.C (Kd.int .u32) w A1_1 l1_1.length l1_1) (hc1_1 : l1_1.length ≤ c1_1) (h : exact_split.f k a0_0 l0_1 a1_0 l1_1 = some (r1, r2, r3, r4)) :
 Calls Try.prog 80 #[.agg #[.bool a0_0, .slice A0_1 l0_1.length c0_1], .agg #[.bool a1_0, .slice A1_1 l1_1.length c1_1]] w fun e w' => ∃ v1_ v3_ : Value, e = .returned (.tuple #[.agg #[.bool r1, v1_], .agg #[.bool r3, v3_]]) ∧ Kd.V (Kd.int .u32) 97 w' w.heap.size (fun k_ => (P0_1_ k_ ∨ w.heap.size ≤ k_)) v1_ r2 ∧ Kd.V (Kd.int .u32) 97 w' w.heap.size (fun k_ => (P0_1_ k_ ∨ w.heap.size ≤ k_)) v3_ r4 ∧ Below w.heap.size w w' := by
 have HO0_1 := Aside0.mk (show Kd.V (Kd.int .u32) 97 w w.heap.size (fun k_ => (P0_1_ k_ ∨ w.heap.size ≤ k_)) (.slice A0_1 l0_1.length c0_1) l0_1 from Kd.V_mono hs0_1 (fun k_ hk => .inl hk))
 have HR1_1 := Aside0.mk hr1_1
 have HC1_1 := Aside0.mk hc1_1
 clear hr1_1 hc1_1
 have HB := Aside0.mk (Below.refl w.heap.size w)
 have H : ((exact_divMag.f k l0_1 l1_1).bind fun bt224 => ((exact_made.f (a0_0 != a1_0) bt224.1).bind fun bt230 => ((exact_made.f a0_0 bt224.2).bind fun bt234 => (if bt234.1 = true then (none) else (some (bt230.1, bt230.2, bt234.1, bt234.2)))))) = some (r1, r2, r3, r4) := h
 clear h
 replace H := Option.bind_eq_some_iff.mp H
 obtain ⟨⟨t224, t227⟩, A30, H⟩ := H
 replace H : ((exact_made.f (a0_0 != a1_0) t224).bind fun bt230 => ((exact_made.f a0_0 t227).bind fun bt234 => (if bt234.1 = true then (none) else (some (bt230.1, bt230.2, bt234.1, bt234.2))))) = some (r1, r2, r3, r4) := H
 have A3 := Aside0.mk A30
 clear A30
 replace H := Option.bind_eq_some_iff.mp H
 obtain ⟨⟨t230, t231⟩, A40, H⟩ := H
 replace H : ((exact_made.f a0_0 t227).bind fun bt234 => (if bt234.1 = true then (none) else (some (t230, t231, bt234.1, bt234.2)))) = some (r1, r2, r3, r4) := H
 have A4 := Aside0.mk A40
 clear A40
 replace H := Option.bind_eq_some_iff.mp H
 obtain ⟨⟨t234, t235⟩, A50, H⟩ := H
 replace H : (if t234 = true then (none) else (some (t230, t231, t234, t235))) = some (r1, r2, r3, r4) := H
 have A5 := Aside0.mk A50
 clear A50
 by_cases c6 : t234 = true
 · subst c6
   exact absurd H (by simp)
 replace c6 := Bool.eq_false_iff.mpr c6
 subst c6
 have H1 : (some (t230, t231, false, t235)) = some (r1, r2, r3, r4) := by rw [if_neg (show ¬ (false = true) by decide)] at H; exact H
 clear H
 have H := H1
 clear H1
 simp only [Option.some.injEq, Prod.mk.injEq] at H
 obtain ⟨rfl, rfl, rfl, rfl⟩ := H
 go_enter Try.func80, Try.ntmps80
 try go_wp2_with (first | ((with_reducible refine gate_dst (N := 2) rfl ?_); refine box_event ?hg (N := 2) ?hd (cs := #[.bool a0_0, .slice A0_1 l0_1.length c0_1]) (t := 43) ?hr ?_; (case hd => rfl); (case hg => rfl); (case hr => first | (go_simp; done) | (go_simp; rfl)); intro gb220 hg w39 hbox hb; replace HO0_1 := Aside0.mk (Kd.V_below (Kd.V_elderB (by (with_reducible repeat (first | apply Kd.V_alloc | apply Kd.V_drewN | apply Kd.V_drew)); exact HO0_1.out) gb220 (Nat.le_of_eq hg.symm)) hb); have BK220 := Aside0.mk (hbox); replace HB := Aside0.mk (below_step bl hb); clear hb hbox hg) | ((with_reducible refine gate_dst (N := 3) rfl ?_); refine box_event ?hg (N := 3) ?hd (cs := #[.bool a1_0, .slice A1_1 l1_1.length c1_1]) (t := 43) ?hr ?_; (case hd => rfl); (case hg => rfl); (case hr => first | (go_simp; done) | (go_simp; rfl)); intro gb221 hg w40 hbox hb; replace HO0_1 := Aside0.mk (Kd.V_below (Kd.V_elderB (by (with_reducible repeat (first | apply Kd.V_alloc | apply Kd.V_drewN | apply Kd.V_drew)); exact HO0_1.out) gb221 (Nat.le_of_eq hg.symm)) hb); have BK221 := Aside0.mk (hbox); replace HB := Aside0.mk (below_step bl hb); have NB220_221 := Aside0.mk (nl hg (bk BK220.out)); have NB221_220 := Aside0.mk (ng hg (bk BK220.out)); replace BK220 := Aside0.mk (bb BK220.out hb); clear hb hbox hg) | ((with_reducible refine gate_dst (N := 4) rfl ?_); refine box_event ?hg (N := 4) ?hd (cs := #[.bool false, .slice none 0 0]) (t := 43) ?hr ?_; (case hd => rfl); (case hg => rfl); (case hr => first | (go_simp; done) | (go_simp; rfl)); intro gb222 hg w41 hbox hb; replace HO0_1 := Aside0.mk (Kd.V_below (Kd.V_elderB (by (with_reducible repeat (first | apply Kd.V_alloc | apply Kd.V_drewN | apply Kd.V_drew)); exact HO0_1.out) gb222 (Nat.le_of_eq hg.symm)) hb); have BK222 := Aside0.mk (hbox); have GE222 := Aside0.mk (ge (w := w) hg); replace HB := Aside0.mk (below_step bl hb); have NB220_222 := Aside0.mk (nl hg (bk BK220.out)); have NB222_220 := Aside0.mk (ng hg (bk BK220.out)); replace BK220 := Aside0.mk (bb BK220.out hb); have NB221_222 := Aside0.mk (nl hg (bk BK221.out)); have NB222_221 := Aside0.mk (ng hg (bk BK221.out)); replace BK221 := Aside0.mk (bb BK221.out hb); clear hb hbox hg) | ((with_reducible refine gate_dst (N := 5) rfl ?_); refine box_event ?hg (N := 5) ?hd (cs := #[.bool false, .slice none 0 0]) (t := 43) ?hr ?_; (case hd => rfl); (case hg => rfl); (case hr => first | (go_simp; done) | (go_simp; rfl)); intro gb223 hg w42 hbox hb; replace HO0_1 := Aside0.mk (Kd.V_below (Kd.V_elderB (by (with_reducible repeat (first | apply Kd.V_alloc | apply Kd.V_drewN | apply Kd.V_drew)); exact HO0_1.out) gb223 (Nat.le_of_eq hg.symm)) hb); have BK223 := Aside0.mk (hbox); have GE223 := Aside0.mk (ge (w := w) hg); replace HB := Aside0.mk (below_step bl hb); have NB220_223 := Aside0.mk (nl hg (bk BK220.out)); have NB223_220 := Aside0.mk (ng hg (bk BK220.out)); replace BK220 := Aside0.mk (bb BK220.out hb); have NB221_223 := Aside0.mk (nl hg (bk BK221.out)); have NB223_221 := Aside0.mk (ng hg (bk BK221.out)); replace BK221 := Aside0.mk (bb BK221.out hb); have NB222_223 := Aside0.mk (nl hg (bk BK222.out)); have NB223_222 := Aside0.mk (ng hg (bk BK222.out)); replace BK222 := Aside0.mk (bb BK222.out hb); clear hb hbox hg; obtain ⟨hcz46_0, hcz46_1, hfz46_0, hfz46_1⟩ := bz2 BK220.out; obtain ⟨hcz49_0, hcz49_1, hfz49_0, hfz49_1⟩ := bz2 BK221.out) | ((with_reducible refine gate_callee (f := 87) rfl ?_); refine goesL_ (some 15) rfl rfl Try.func87 (by kernel_rfl) rfl #[.slice A0_1 l0_1.length c0_1, .slice A1_1 l1_1.length c1_1] rfl (by (try simp only [List.map_toArray, List.map_cons, List.map_nil]); first | done | rfl | (simp only [List.length_drop, List.length_take]; rfl)) ?_; (with_reducible refine (exact_divMag.calls k (fun k_ => (((((P0_1_ k_ ∨ w.heap.size ≤ k_) ∧ k_ ≠ gb220) ∧ k_ ≠ gb221) ∧ k_ ≠ gb222) ∧ k_ ≠ gb223)) _ _ l0_1 _ _ l1_1 t224 t227 _ ?side1 ?side2 ?side3 A3.out).mono ?_); (case side1 => exact HO0_1.out); (case side2 => exact kc (Kd.C_below HR1_1.out HB.out)); (case side3 => exact HC1_1.out); rintro e w50 ⟨v225, v228, rfl, ho0, ho1, hb⟩; refine ⟨_, rfl, ?_⟩; replace HO0_1 := Aside0.mk (vb HO0_1.out hb); have HO226 := Aside0.mk (Kd.V_lower (Kd.V_mono (ok' := fun k_ => (P0_1_ k_ ∨ w.heap.size ≤ k_) ∧ k_ ≠ gb220 ∧ k_ ≠ gb221 ∧ k_ ≠ gb222 ∧ k_ ≠ gb223) ho0 (fun k_ hk_ => ⟨Or.elim hk_ (fun hs_ => hs_.1.1.1.1) (fun hn_ => (.inr (Nat.le_trans (below_size bl) hn_))), Or.elim hk_ (fun hs_ => hs_.1.1.1.2) (fun hn_ => (Kd.freshB (g := gb220) (o := .cells #[.bool a0_0, .slice A0_1 l0_1.length c0_1] 43 (0, 0)) (bk BK220.out) k_ hn_)), Or.elim hk_ (fun hs_ => hs_.1.1.2) (fun hn_ => (Kd.freshB (g := gb221) (o := .cells #[.bool a1_0, .slice A1_1 l1_1.length c1_1] 43 (0, 0)) (bk BK221.out) k_ hn_)), Or.elim hk_ (fun hs_ => hs_.1.2) (fun hn_ => (Kd.freshB (g := gb222) (o := .cells #[.bool false, .slice none 0 0] 43 (0, 0)) (bk BK222.out) k_ hn_)), Or.elim hk_ (fun hs_ => hs_.2) (fun hn_ => (Kd.freshB (g := gb223) (o := .cells #[.bool false, .slice none 0 0] 43 (0, 0)) (bk BK223.out) k_ hn_))⟩)) (below_size bl)); have HO229 := Aside0.mk (Kd.V_lower (Kd.V_mono (ok' := fun k_ => (P0_1_ k_ ∨ w.heap.size ≤ k_) ∧ k_ ≠ gb220 ∧ k_ ≠ gb221 ∧ k_ ≠ gb222 ∧ k_ ≠ gb223) ho1 (fun k_ hk_ => ⟨Or.elim hk_ (fun hs_ => hs_.1.1.1.1) (fun hn_ => (.inr (Nat.le_trans (below_size bl) hn_))), Or.elim hk_ (fun hs_ => hs_.1.1.1.2) (fun hn_ => (Kd.freshB (g := gb220) (o := .cells #[.bool a0_0, .slice A0_1 l0_1.length c0_1] 43 (0, 0)) (bk BK220.out) k_ hn_)), Or.elim hk_ (fun hs_ => hs_.1.1.2) (fun hn_ => (Kd.freshB (g := gb221) (o := .cells #[.bool a1_0, .slice A1_1 l1_1.length c1_1] 43 (0, 0)) (bk BK221.out) k_ hn_)), Or.elim hk_ (fun hs_ => hs_.1.2) (fun hn_ => (Kd.freshB (g := gb222) (o := .cells #[.bool false, .slice none 0 0] 43 (0, 0)) (bk BK222.out) k_ hn_)), Or.elim hk_ (fun hs_ => hs_.2) (fun hn_ => (Kd.freshB (g := gb223) (o := .cells #[.bool false, .slice none 0 0] 43 (0, 0)) (bk BK223.out) k_ hn_))⟩)) (below_size bl)); replace BK220 := Aside0.mk (bb BK220.out hb); replace BK221 := Aside0.mk (bb BK221.out hb); replace BK222 := Aside0.mk (bb BK222.out hb); replace BK223 := Aside0.mk (bb BK223.out hb); replace HB := Aside0.mk (below_step bl hb); (try clear hb); (try clear ho0); (try clear ho1); obtain ⟨Ao51, co51, eo51⟩ := Kd.V_slice HO226.out; subst eo51; obtain ⟨Ao52, co52, eo52⟩ := Kd.V_slice HO229.out; subst eo52))
 have n0_ := Aside0.mk (Kd.V_drew HO0_1.out)
 have n1_ := Aside0.mk (Kd.V_drew HO226.out)
 have n2_ := Aside0.mk (Kd.V_drew HO229.out)
 have n3_ := Aside0.mk (blk_drew BK220.out)
 have n4_ := Aside0.mk (blk_drew BK221.out)
 have n5_ := Aside0.mk (blk_drew BK222.out)
 have n6_ := Aside0.mk (blk_drew BK223.out)
 have n7_ := Aside0.mk (below_drew1 HB.out)
 clear HO0_1
 clear HO226
 clear HO229
 clear BK220
 clear BK221
 clear BK222
 clear BK223
 clear HB
 have HO0_1 := n0_
 have HO226 := n1_
 have HO229 := n2_
 have BK220 := n3_
 have BK221 := n4_
 have BK222 := n5_
 have BK223 := n6_
 have HB := n7_
 clear n0_ n1_ n2_ n3_ n4_ n5_ n6_ n7_
 refine start_ (n := 15) (S := fun w' => w'.cell? ⟨gb220, 0, none⟩ = some (.bool a0_0) ∧ w'.cell? ⟨gb220, 1, none⟩ = some (.slice A0_1 l0_1.length c0_1) ∧ w'.cell? ⟨gb221, 0, none⟩ = some (.bool a1_0) ∧ w'.cell? ⟨gb221, 1, none⟩ = some (.slice A1_1 l1_1.length c1_1)) (ds := []) (zb 0 15) (by kernel_rfl) rfl rfl ⟨(blk_cell BK220.out 0).trans rfl, (blk_cell BK220.out 1).trans rfl, (blk_cell BK221.out 0).trans rfl, (blk_cell BK221.out 1).trans rfl⟩ (fun hHeld => ?_); refine with_tabW exact_split.tab2 exact_split.bits2 (fun HT_ HW_ => ?_)
 generalize w50.drew = w53 at HO0_1 HO226 HO229 BK220 BK221 BK222 BK223 HB hHeld ⊢
 refine pure_ (i := 0) (N := some 18) (v := ?_) (a' := ?_) (zb 1 14) rfl rfl (any_of HT_.out (by kernel_rfl)) (fun _ _ _ h => h) (Or.inl ⟨by rfl, ?_⟩) ?_ ?_
 rotate_left; focus (intro w'; go_simp; with_reducible rfl)
 rotate_left; focus (simp only [Act.put, z1, z2, z3, i64_w, i32_w]; rfl)
 refine pure_ (i := 2) (N := some 20) (v := ?_) (a' := ?_) #[true,false,true,false,false,false,false,false,false,false,false,false,false,false,false] rfl rfl (any_of HT_.out (by kernel_rfl)) (fun _ _ _ h => h) (Or.inl ⟨by rfl, ?_⟩) ?_ ?_
 rotate_left; focus (intro w'; go_simp; with_reducible rfl)
 rotate_left; focus (simp only [Act.put, z1, z2, z3, i64_w, i32_w]; rfl)
 refine pure_ (i := 5) (N := some 23) (v := ?_) (a' := ?_) #[true,false,true,false,false,true,false,false,false,false,false,false,false,false,false] rfl rfl (any_of HT_.out (by kernel_rfl)) (fun _ _ _ h => h) (Or.inl ⟨by rfl, ?_⟩) ?_ ?_
 rotate_left; focus (intro w'; go_simp; with_reducible rfl)
 rotate_left; focus (simp only [Act.put, z1, z2, z3, i64_w, i32_w]; rfl)
 refine pure_ (i := 7) (N := some 25) (v := ?_) (a' := ?_) #[true,false,true,false,false,true,false,true,false,false,false,false,false,false,false] rfl rfl (any_of HT_.out (by kernel_rfl)) (fun _ _ _ h => h) (Or.inl ⟨by rfl, ?_⟩) ?_ ?_
 rotate_left; focus (intro w'; go_simp; with_reducible rfl)
 rotate_left; focus (simp only [Act.put, z1, z2, z3, i64_w, i32_w]; rfl)
 refine pure_ (i := 9) (N := some 27) (v := ?_) (a' := ?_) #[true,false,true,false,false,true,false,true,false,true,false,false,false,false,false] rfl rfl (any_of HT_.out (by kernel_rfl)) (fun _ _ _ h => h) (Or.inl ⟨by rfl, ?_⟩) ?_ ?_
 rotate_left; focus (intro w'; go_simp; with_reducible rfl)
 rotate_left; focus (simp only [Act.put, z1, z2, z3, i64_w, i32_w]; rfl)
 refine take_ (i := 1) (N := some 19) (v := ?_) (a' := ?_) #[true,true,true,false,false,true,false,true,false,true,false,false,false,false,false] rfl rfl (take_ofW HT_.out HW_.out (by kernel_rfl)) (fun _ _ _ h => h) (Or.inl ⟨by rfl, ?_⟩) hHeld ?_ ?_
 rotate_left
 · rintro w' ⟨s0, s1, s2, s3⟩
   go_simp
   with_reducible rfl
 rotate_left; focus (simp only [Act.put, z1, z2, z3, i64_w, i32_w]; rfl)
 refine take_ (i := 3) (N := some 21) (v := ?_) (a' := ?_) #[true,true,true,true,false,true,false,true,false,true,false,false,false,false,false] rfl rfl (take_ofW HT_.out HW_.out (by kernel_rfl)) (fun _ _ _ h => h) (Or.inl ⟨by rfl, ?_⟩) hHeld ?_ ?_
 rotate_left
 · rintro w' ⟨s0, s1, s2, s3⟩
   go_simp
   with_reducible rfl
 rotate_left; focus (simp only [Act.put, z1, z2, z3, i64_w, i32_w]; rfl)
 refine pure_ (i := 4) (N := some 22) (v := ?_) (a' := ?_) #[true,true,true,true,true,true,false,true,false,true,false,false,false,false,false] rfl rfl (any_of HT_.out (by kernel_rfl)) (fun _ _ _ h => h) (Or.inl ⟨by rfl, ?_⟩) ?_ ?_
 rotate_left; focus (intro w'; go_simp; with_reducible rfl)
 rotate_left; focus (simp only [Act.put, z1, z2, z3, i64_w, i32_w]; rfl)
 refine take_ (i := 8) (N := some 26) (v := ?_) (a' := ?_) #[true,true,true,true,true,true,false,true,true,true,false,false,false,false,false] rfl rfl (take_ofW HT_.out HW_.out (by kernel_rfl)) (fun _ _ _ h => h) (Or.inl ⟨by rfl, ?_⟩) hHeld ?_ ?_
 rotate_left
 · rintro w' ⟨s0, s1, s2, s3⟩
   go_simp
   with_reducible rfl
 rotate_left; focus (simp only [Act.put, z1, z2, z3, i64_w, i32_w]; rfl)
 refine join_ (σ := Value × Value × Nat × Nat) 2 (zb 13 2) (fun s_ => [(24, .agg #[.bool t230, s_.1]), (28, .agg #[.bool false, s_.2.1]), (8, .pointer (some ⟨s_.2.2.1, 0, none⟩)), (9, .pointer (some ⟨s_.2.2.2, 0, none⟩))]) (fun s_ w' => (w'.cell? ⟨gb220, 0, none⟩ = some (.bool a0_0) ∧ w'.cell? ⟨gb220, 1, none⟩ = some (.slice A0_1 l0_1.length c0_1) ∧ w'.cell? ⟨gb221, 0, none⟩ = some (.bool a1_0) ∧ w'.cell? ⟨gb221, 1, none⟩ = some (.slice A1_1 l1_1.length c1_1)) ∧ (Kd.V (Kd.int .u32) 97 w' w.heap.size (fun k_ => (P0_1_ k_ ∨ w.heap.size ≤ k_) ∧ k_ ≠ gb220 ∧ k_ ≠ gb221 ∧ k_ ≠ gb222 ∧ k_ ≠ gb223 ∧ k_ ≠ s_.2.2.1 ∧ k_ ≠ s_.2.2.2) (.slice A0_1 l0_1.length c0_1) l0_1) ∧ (Kd.V (Kd.int .u32) 97 w' w.heap.size (fun k_ => (P0_1_ k_ ∨ w.heap.size ≤ k_) ∧ k_ ≠ gb220 ∧ k_ ≠ gb221 ∧ k_ ≠ gb222 ∧ k_ ≠ gb223 ∧ k_ ≠ s_.2.2.1 ∧ k_ ≠ s_.2.2.2) (.slice Ao51 t224.length co51) t224) ∧ (Kd.V (Kd.int .u32) 97 w' w.heap.size (fun k_ => (P0_1_ k_ ∨ w.heap.size ≤ k_) ∧ k_ ≠ gb220 ∧ k_ ≠ gb221 ∧ k_ ≠ gb222 ∧ k_ ≠ gb223 ∧ k_ ≠ s_.2.2.1 ∧ k_ ≠ s_.2.2.2) (.slice Ao52 t227.length co52) t227) ∧ (Kd.V (Kd.int .u32) 97 w' w.heap.size (fun k_ => (P0_1_ k_ ∨ w.heap.size ≤ k_) ∧ k_ ≠ gb220 ∧ k_ ≠ gb221 ∧ k_ ≠ gb222 ∧ k_ ≠ gb223 ∧ k_ ≠ s_.2.2.1 ∧ k_ ≠ s_.2.2.2) s_.1 t231) ∧ (Kd.V (Kd.int .u32) 97 w' w.heap.size (fun k_ => (P0_1_ k_ ∨ w.heap.size ≤ k_) ∧ k_ ≠ gb220 ∧ k_ ≠ gb221 ∧ k_ ≠ gb222 ∧ k_ ≠ gb223 ∧ k_ ≠ s_.2.2.1 ∧ k_ ≠ s_.2.2.2) s_.2.1 t235) ∧ (w'.heap[gb220]? = some (.cells #[.bool a0_0, .slice A0_1 l0_1.length c0_1] 43 (0, 0))) ∧ (w'.heap[gb221]? = some (.cells #[.bool a1_0, .slice A1_1 l1_1.length c1_1] 43 (0, 0))) ∧ (w'.heap[gb222]? = some (.cells #[.bool false, .slice none 0 0] 43 (0, 0))) ∧ (w'.heap[gb223]? = some (.cells #[.bool false, .slice none 0 0] 43 (0, 0))) ∧ (w'.heap[s_.2.2.1]? = some (.cells #[.bool false, .slice none 0 0] 43 (0, 0))) ∧ (w'.heap[s_.2.2.2]? = some (.cells #[.bool false, .slice none 0 0] 43 (0, 0))) ∧ (w.heap.size ≤ s_.2.2.1) ∧ (w.heap.size ≤ s_.2.2.1) ∧ (gb220 ≠ s_.2.2.1) ∧ (s_.2.2.1 ≠ gb220) ∧ (gb221 ≠ s_.2.2.1) ∧ (s_.2.2.1 ≠ gb221) ∧ (gb222 ≠ s_.2.2.1) ∧ (s_.2.2.1 ≠ gb222) ∧ (gb223 ≠ s_.2.2.1) ∧ (s_.2.2.1 ≠ gb223) ∧ (s_.2.2.2 ≠ s_.2.2.1) ∧ (s_.2.2.1 ≠ s_.2.2.2) ∧ (w.heap.size ≤ s_.2.2.2) ∧ (w.heap.size ≤ s_.2.2.2) ∧ (gb220 ≠ s_.2.2.2) ∧ (s_.2.2.2 ≠ gb220) ∧ (gb221 ≠ s_.2.2.2) ∧ (s_.2.2.2 ≠ gb221) ∧ (gb222 ≠ s_.2.2.2) ∧ (s_.2.2.2 ≠ gb222) ∧ (gb223 ≠ s_.2.2.2) ∧ (s_.2.2.2 ≠ gb223) ∧ (Below w.heap.size w w')) ?_ ?_
 rotate_left
 · intro hJ6_10_11_12
   refine join_ (σ := Value × Value × Nat) 3 (zb 12 3) (fun s_ => [(24, .agg #[.bool t230, s_.1]), (28, .agg #[.bool false, s_.2.1]), (8, .pointer (some ⟨s_.2.2, 0, none⟩))]) (fun s_ w' => (w'.cell? ⟨gb220, 0, none⟩ = some (.bool a0_0) ∧ w'.cell? ⟨gb220, 1, none⟩ = some (.slice A0_1 l0_1.length c0_1) ∧ w'.cell? ⟨gb221, 0, none⟩ = some (.bool a1_0) ∧ w'.cell? ⟨gb221, 1, none⟩ = some (.slice A1_1 l1_1.length c1_1)) ∧ (Kd.V (Kd.int .u32) 97 w' w.heap.size (fun k_ => (P0_1_ k_ ∨ w.heap.size ≤ k_) ∧ k_ ≠ gb220 ∧ k_ ≠ gb221 ∧ k_ ≠ gb222 ∧ k_ ≠ gb223 ∧ k_ ≠ s_.2.2) (.slice A0_1 l0_1.length c0_1) l0_1) ∧ (Kd.V (Kd.int .u32) 97 w' w.heap.size (fun k_ => (P0_1_ k_ ∨ w.heap.size ≤ k_) ∧ k_ ≠ gb220 ∧ k_ ≠ gb221 ∧ k_ ≠ gb222 ∧ k_ ≠ gb223 ∧ k_ ≠ s_.2.2) (.slice Ao51 t224.length co51) t224) ∧ (Kd.V (Kd.int .u32) 97 w' w.heap.size (fun k_ => (P0_1_ k_ ∨ w.heap.size ≤ k_) ∧ k_ ≠ gb220 ∧ k_ ≠ gb221 ∧ k_ ≠ gb222 ∧ k_ ≠ gb223 ∧ k_ ≠ s_.2.2) (.slice Ao52 t227.length co52) t227) ∧ (Kd.V (Kd.int .u32) 97 w' w.heap.size (fun k_ => (P0_1_ k_ ∨ w.heap.size ≤ k_) ∧ k_ ≠ gb220 ∧ k_ ≠ gb221 ∧ k_ ≠ gb222 ∧ k_ ≠ gb223 ∧ k_ ≠ s_.2.2) s_.1 t231) ∧ (Kd.V (Kd.int .u32) 97 w' w.heap.size (fun k_ => (P0_1_ k_ ∨ w.heap.size ≤ k_) ∧ k_ ≠ gb220 ∧ k_ ≠ gb221 ∧ k_ ≠ gb222 ∧ k_ ≠ gb223 ∧ k_ ≠ s_.2.2) s_.2.1 t235) ∧ (w'.heap[gb220]? = some (.cells #[.bool a0_0, .slice A0_1 l0_1.length c0_1] 43 (0, 0))) ∧ (w'.heap[gb221]? = some (.cells #[.bool a1_0, .slice A1_1 l1_1.length c1_1] 43 (0, 0))) ∧ (w'.heap[gb222]? = some (.cells #[.bool false, .slice none 0 0] 43 (0, 0))) ∧ (w'.heap[gb223]? = some (.cells #[.bool false, .slice none 0 0] 43 (0, 0))) ∧ (w'.heap[s_.2.2]? = some (.cells #[.bool false, .slice none 0 0] 43 (0, 0))) ∧ (w.heap.size ≤ s_.2.2) ∧ (w.heap.size ≤ s_.2.2) ∧ (gb220 ≠ s_.2.2) ∧ (s_.2.2 ≠ gb220) ∧ (gb221 ≠ s_.2.2) ∧ (s_.2.2 ≠ gb221) ∧ (gb222 ≠ s_.2.2) ∧ (s_.2.2 ≠ gb222) ∧ (gb223 ≠ s_.2.2) ∧ (s_.2.2 ≠ gb223) ∧ (Below w.heap.size w w')) ?_ ?_
   rotate_left
   · intro hJ6_10_11
     refine join_ (σ := Value × Value × Nat) 3 #[true,true,true,true,true,true,true,true,true,true,true,false,true,false,false] (fun s_ => [(24, .agg #[.bool t230, s_.1]), (28, .agg #[.bool false, s_.2.1]), (9, .pointer (some ⟨s_.2.2, 0, none⟩))]) (fun s_ w' => (w'.cell? ⟨gb220, 0, none⟩ = some (.bool a0_0) ∧ w'.cell? ⟨gb220, 1, none⟩ = some (.slice A0_1 l0_1.length c0_1) ∧ w'.cell? ⟨gb221, 0, none⟩ = some (.bool a1_0) ∧ w'.cell? ⟨gb221, 1, none⟩ = some (.slice A1_1 l1_1.length c1_1)) ∧ (Kd.V (Kd.int .u32) 97 w' w.heap.size (fun k_ => (P0_1_ k_ ∨ w.heap.size ≤ k_) ∧ k_ ≠ gb220 ∧ k_ ≠ gb221 ∧ k_ ≠ gb222 ∧ k_ ≠ gb223 ∧ k_ ≠ s_.2.2) (.slice A0_1 l0_1.length c0_1) l0_1) ∧ (Kd.V (Kd.int .u32) 97 w' w.heap.size (fun k_ => (P0_1_ k_ ∨ w.heap.size ≤ k_) ∧ k_ ≠ gb220 ∧ k_ ≠ gb221 ∧ k_ ≠ gb222 ∧ k_ ≠ gb223 ∧ k_ ≠ s_.2.2) (.slice Ao51 t224.length co51) t224) ∧ (Kd.V (Kd.int .u32) 97 w' w.heap.size (fun k_ => (P0_1_ k_ ∨ w.heap.size ≤ k_) ∧ k_ ≠ gb220 ∧ k_ ≠ gb221 ∧ k_ ≠ gb222 ∧ k_ ≠ gb223 ∧ k_ ≠ s_.2.2) (.slice Ao52 t227.length co52) t227) ∧ (Kd.V (Kd.int .u32) 97 w' w.heap.size (fun k_ => (P0_1_ k_ ∨ w.heap.size ≤ k_) ∧ k_ ≠ gb220 ∧ k_ ≠ gb221 ∧ k_ ≠ gb222 ∧ k_ ≠ gb223 ∧ k_ ≠ s_.2.2) s_.1 t231) ∧ (Kd.V (Kd.int .u32) 97 w' w.heap.size (fun k_ => (P0_1_ k_ ∨ w.heap.size ≤ k_) ∧ k_ ≠ gb220 ∧ k_ ≠ gb221 ∧ k_ ≠ gb222 ∧ k_ ≠ gb223 ∧ k_ ≠ s_.2.2) s_.2.1 t235) ∧ (w'.heap[gb220]? = some (.cells #[.bool a0_0, .slice A0_1 l0_1.length c0_1] 43 (0, 0))) ∧ (w'.heap[gb221]? = some (.cells #[.bool a1_0, .slice A1_1 l1_1.length c1_1] 43 (0, 0))) ∧ (w'.heap[gb222]? = some (.cells #[.bool false, .slice none 0 0] 43 (0, 0))) ∧ (w'.heap[gb223]? = some (.cells #[.bool false, .slice none 0 0] 43 (0, 0))) ∧ (w'.heap[s_.2.2]? = some (.cells #[.bool false, .slice none 0 0] 43 (0, 0))) ∧ (w.heap.size ≤ s_.2.2) ∧ (w.heap.size ≤ s_.2.2) ∧ (gb220 ≠ s_.2.2) ∧ (s_.2.2 ≠ gb220) ∧ (gb221 ≠ s_.2.2) ∧ (s_.2.2 ≠ gb221) ∧ (gb222 ≠ s_.2.2) ∧ (s_.2.2 ≠ gb222) ∧ (gb223 ≠ s_.2.2) ∧ (s_.2.2 ≠ gb223) ∧ (Below w.heap.size w w')) ?_ ?_
     rotate_left
     · intro hJ6_10_12
       refine join_ (σ := Value × Nat × Nat) 3 #[true,true,true,true,true,true,true,true,true,true,false,true,true,false,false] (fun s_ => [(24, .agg #[.bool t230, s_.1]), (8, .pointer (some ⟨s_.2.1, 0, none⟩)), (9, .pointer (some ⟨s_.2.2, 0, none⟩))]) (fun s_ w' => (w'.cell? ⟨gb220, 0, none⟩ = some (.bool a0_0) ∧ w'.cell? ⟨gb220, 1, none⟩ = some (.slice A0_1 l0_1.length c0_1) ∧ w'.cell? ⟨gb221, 0, none⟩ = some (.bool a1_0) ∧ w'.cell? ⟨gb221, 1, none⟩ = some (.slice A1_1 l1_1.length c1_1)) ∧ (Kd.V (Kd.int .u32) 97 w' w.heap.size (fun k_ => (P0_1_ k_ ∨ w.heap.size ≤ k_) ∧ k_ ≠ gb220 ∧ k_ ≠ gb221 ∧ k_ ≠ gb222 ∧ k_ ≠ gb223 ∧ k_ ≠ s_.2.1 ∧ k_ ≠ s_.2.2) (.slice A0_1 l0_1.length c0_1) l0_1) ∧ (Kd.V (Kd.int .u32) 97 w' w.heap.size (fun k_ => (P0_1_ k_ ∨ w.heap.size ≤ k_) ∧ k_ ≠ gb220 ∧ k_ ≠ gb221 ∧ k_ ≠ gb222 ∧ k_ ≠ gb223 ∧ k_ ≠ s_.2.1 ∧ k_ ≠ s_.2.2) (.slice Ao51 t224.length co51) t224) ∧ (Kd.V (Kd.int .u32) 97 w' w.heap.size (fun k_ => (P0_1_ k_ ∨ w.heap.size ≤ k_) ∧ k_ ≠ gb220 ∧ k_ ≠ gb221 ∧ k_ ≠ gb222 ∧ k_ ≠ gb223 ∧ k_ ≠ s_.2.1 ∧ k_ ≠ s_.2.2) (.slice Ao52 t227.length co52) t227) ∧ (Kd.V (Kd.int .u32) 97 w' w.heap.size (fun k_ => (P0_1_ k_ ∨ w.heap.size ≤ k_) ∧ k_ ≠ gb220 ∧ k_ ≠ gb221 ∧ k_ ≠ gb222 ∧ k_ ≠ gb223 ∧ k_ ≠ s_.2.1 ∧ k_ ≠ s_.2.2) s_.1 t231) ∧ (w'.heap[gb220]? = some (.cells #[.bool a0_0, .slice A0_1 l0_1.length c0_1] 43 (0, 0))) ∧ (w'.heap[gb221]? = some (.cells #[.bool a1_0, .slice A1_1 l1_1.length c1_1] 43 (0, 0))) ∧ (w'.heap[gb222]? = some (.cells #[.bool false, .slice none 0 0] 43 (0, 0))) ∧ (w'.heap[gb223]? = some (.cells #[.bool false, .slice none 0 0] 43 (0, 0))) ∧ (w'.heap[s_.2.1]? = some (.cells #[.bool false, .slice none 0 0] 43 (0, 0))) ∧ (w'.heap[s_.2.2]? = some (.cells #[.bool false, .slice none 0 0] 43 (0, 0))) ∧ (w.heap.size ≤ s_.2.1) ∧ (w.heap.size ≤ s_.2.1) ∧ (gb220 ≠ s_.2.1) ∧ (s_.2.1 ≠ gb220) ∧ (gb221 ≠ s_.2.1) ∧ (s_.2.1 ≠ gb221) ∧ (gb222 ≠ s_.2.1) ∧ (s_.2.1 ≠ gb222) ∧ (gb223 ≠ s_.2.1) ∧ (s_.2.1 ≠ gb223) ∧ (s_.2.2 ≠ s_.2.1) ∧ (s_.2.1 ≠ s_.2.2) ∧ (w.heap.size ≤ s_.2.2) ∧ (w.heap.size ≤ s_.2.2) ∧ (gb220 ≠ s_.2.2) ∧ (s_.2.2 ≠ gb220) ∧ (gb221 ≠ s_.2.2) ∧ (s_.2.2 ≠ gb221) ∧ (gb222 ≠ s_.2.2) ∧ (s_.2.2 ≠ gb222) ∧ (gb223 ≠ s_.2.2) ∧ (s_.2.2 ≠ gb223) ∧ (Below w.heap.size w w')) ?_ ?_
       rotate_left
       · intro hJ6_11_12
         refine join_ (σ := Value × Value) 4 (zb 11 4) (fun s_ => [(24, .agg #[.bool t230, s_.1]), (28, .agg #[.bool false, s_.2])]) (fun s_ w' => (w'.cell? ⟨gb220, 0, none⟩ = some (.bool a0_0) ∧ w'.cell? ⟨gb220, 1, none⟩ = some (.slice A0_1 l0_1.length c0_1) ∧ w'.cell? ⟨gb221, 0, none⟩ = some (.bool a1_0) ∧ w'.cell? ⟨gb221, 1, none⟩ = some (.slice A1_1 l1_1.length c1_1)) ∧ (Kd.V (Kd.int .u32) 97 w' w.heap.size (fun k_ => (P0_1_ k_ ∨ w.heap.size ≤ k_) ∧ k_ ≠ gb220 ∧ k_ ≠ gb221 ∧ k_ ≠ gb222 ∧ k_ ≠ gb223) (.slice A0_1 l0_1.length c0_1) l0_1) ∧ (Kd.V (Kd.int .u32) 97 w' w.heap.size (fun k_ => (P0_1_ k_ ∨ w.heap.size ≤ k_) ∧ k_ ≠ gb220 ∧ k_ ≠ gb221 ∧ k_ ≠ gb222 ∧ k_ ≠ gb223) (.slice Ao51 t224.length co51) t224) ∧ (Kd.V (Kd.int .u32) 97 w' w.heap.size (fun k_ => (P0_1_ k_ ∨ w.heap.size ≤ k_) ∧ k_ ≠ gb220 ∧ k_ ≠ gb221 ∧ k_ ≠ gb222 ∧ k_ ≠ gb223) (.slice Ao52 t227.length co52) t227) ∧ (Kd.V (Kd.int .u32) 97 w' w.heap.size (fun k_ => (P0_1_ k_ ∨ w.heap.size ≤ k_) ∧ k_ ≠ gb220 ∧ k_ ≠ gb221 ∧ k_ ≠ gb222 ∧ k_ ≠ gb223) s_.1 t231) ∧ (Kd.V (Kd.int .u32) 97 w' w.heap.size (fun k_ => (P0_1_ k_ ∨ w.heap.size ≤ k_) ∧ k_ ≠ gb220 ∧ k_ ≠ gb221 ∧ k_ ≠ gb222 ∧ k_ ≠ gb223) s_.2 t235) ∧ (w'.heap[gb220]? = some (.cells #[.bool a0_0, .slice A0_1 l0_1.length c0_1] 43 (0, 0))) ∧ (w'.heap[gb221]? = some (.cells #[.bool a1_0, .slice A1_1 l1_1.length c1_1] 43 (0, 0))) ∧ (w'.heap[gb222]? = some (.cells #[.bool false, .slice none 0 0] 43 (0, 0))) ∧ (w'.heap[gb223]? = some (.cells #[.bool false, .slice none 0 0] 43 (0, 0))) ∧ (Below w.heap.size w w')) ?_ ?_
         rotate_left
         · intro hJ6_10
           refine join_ (σ := Value × Nat) 4 #[true,true,true,true,true,true,true,true,true,true,false,true,false,false,false] (fun s_ => [(24, .agg #[.bool t230, s_.1]), (8, .pointer (some ⟨s_.2, 0, none⟩))]) (fun s_ w' => (w'.cell? ⟨gb220, 0, none⟩ = some (.bool a0_0) ∧ w'.cell? ⟨gb220, 1, none⟩ = some (.slice A0_1 l0_1.length c0_1) ∧ w'.cell? ⟨gb221, 0, none⟩ = some (.bool a1_0) ∧ w'.cell? ⟨gb221, 1, none⟩ = some (.slice A1_1 l1_1.length c1_1)) ∧ (Kd.V (Kd.int .u32) 97 w' w.heap.size (fun k_ => (P0_1_ k_ ∨ w.heap.size ≤ k_) ∧ k_ ≠ gb220 ∧ k_ ≠ gb221 ∧ k_ ≠ gb222 ∧ k_ ≠ gb223 ∧ k_ ≠ s_.2) (.slice A0_1 l0_1.length c0_1) l0_1) ∧ (Kd.V (Kd.int .u32) 97 w' w.heap.size (fun k_ => (P0_1_ k_ ∨ w.heap.size ≤ k_) ∧ k_ ≠ gb220 ∧ k_ ≠ gb221 ∧ k_ ≠ gb222 ∧ k_ ≠ gb223 ∧ k_ ≠ s_.2) (.slice Ao51 t224.length co51) t224) ∧ (Kd.V (Kd.int .u32) 97 w' w.heap.size (fun k_ => (P0_1_ k_ ∨ w.heap.size ≤ k_) ∧ k_ ≠ gb220 ∧ k_ ≠ gb221 ∧ k_ ≠ gb222 ∧ k_ ≠ gb223 ∧ k_ ≠ s_.2) (.slice Ao52 t227.length co52) t227) ∧ (Kd.V (Kd.int .u32) 97 w' w.heap.size (fun k_ => (P0_1_ k_ ∨ w.heap.size ≤ k_) ∧ k_ ≠ gb220 ∧ k_ ≠ gb221 ∧ k_ ≠ gb222 ∧ k_ ≠ gb223 ∧ k_ ≠ s_.2) s_.1 t231) ∧ (w'.heap[gb220]? = some (.cells #[.bool a0_0, .slice A0_1 l0_1.length c0_1] 43 (0, 0))) ∧ (w'.heap[gb221]? = some (.cells #[.bool a1_0, .slice A1_1 l1_1.length c1_1] 43 (0, 0))) ∧ (w'.heap[gb222]? = some (.cells #[.bool false, .slice none 0 0] 43 (0, 0))) ∧ (w'.heap[gb223]? = some (.cells #[.bool false, .slice none 0 0] 43 (0, 0))) ∧ (w'.heap[s_.2]? = some (.cells #[.bool false, .slice none 0 0] 43 (0, 0))) ∧ (w.heap.size ≤ s_.2) ∧ (w.heap.size ≤ s_.2) ∧ (gb220 ≠ s_.2) ∧ (s_.2 ≠ gb220) ∧ (gb221 ≠ s_.2) ∧ (s_.2 ≠ gb221) ∧ (gb222 ≠ s_.2) ∧ (s_.2 ≠ gb222) ∧ (gb223 ≠ s_.2) ∧ (s_.2 ≠ gb223) ∧ (Below w.heap.size w w')) ?_ ?_
           rotate_left
           · intro hJ6_11
             refine join_ (σ := Value × Nat) 4 #[true,true,true,true,true,true,true,true,true,true,false,false,true,false,false] (fun s_ => [(24, .agg #[.bool t230, s_.1]), (9, .pointer (some ⟨s_.2, 0, none⟩))]) (fun s_ w' => (w'.cell? ⟨gb220, 0, none⟩ = some (.bool a0_0) ∧ w'.cell? ⟨gb220, 1, none⟩ = some (.slice A0_1 l0_1.length c0_1) ∧ w'.cell? ⟨gb221, 0, none⟩ = some (.bool a1_0) ∧ w'.cell? ⟨gb221, 1, none⟩ = some (.slice A1_1 l1_1.length c1_1)) ∧ (Kd.V (Kd.int .u32) 97 w' w.heap.size (fun k_ => (P0_1_ k_ ∨ w.heap.size ≤ k_) ∧ k_ ≠ gb220 ∧ k_ ≠ gb221 ∧ k_ ≠ gb222 ∧ k_ ≠ gb223 ∧ k_ ≠ s_.2) (.slice A0_1 l0_1.length c0_1) l0_1) ∧ (Kd.V (Kd.int .u32) 97 w' w.heap.size (fun k_ => (P0_1_ k_ ∨ w.heap.size ≤ k_) ∧ k_ ≠ gb220 ∧ k_ ≠ gb221 ∧ k_ ≠ gb222 ∧ k_ ≠ gb223 ∧ k_ ≠ s_.2) (.slice Ao51 t224.length co51) t224) ∧ (Kd.V (Kd.int .u32) 97 w' w.heap.size (fun k_ => (P0_1_ k_ ∨ w.heap.size ≤ k_) ∧ k_ ≠ gb220 ∧ k_ ≠ gb221 ∧ k_ ≠ gb222 ∧ k_ ≠ gb223 ∧ k_ ≠ s_.2) (.slice Ao52 t227.length co52) t227) ∧ (Kd.V (Kd.int .u32) 97 w' w.heap.size (fun k_ => (P0_1_ k_ ∨ w.heap.size ≤ k_) ∧ k_ ≠ gb220 ∧ k_ ≠ gb221 ∧ k_ ≠ gb222 ∧ k_ ≠ gb223 ∧ k_ ≠ s_.2) s_.1 t231) ∧ (w'.heap[gb220]? = some (.cells #[.bool a0_0, .slice A0_1 l0_1.length c0_1] 43 (0, 0))) ∧ (w'.heap[gb221]? = some (.cells #[.bool a1_0, .slice A1_1 l1_1.length c1_1] 43 (0, 0))) ∧ (w'.heap[gb222]? = some (.cells #[.bool false, .slice none 0 0] 43 (0, 0))) ∧ (w'.heap[gb223]? = some (.cells #[.bool false, .slice none 0 0] 43 (0, 0))) ∧ (w'.heap[s_.2]? = some (.cells #[.bool false, .slice none 0 0] 43 (0, 0))) ∧ (w.heap.size ≤ s_.2) ∧ (w.heap.size ≤ s_.2) ∧ (gb220 ≠ s_.2) ∧ (s_.2 ≠ gb220) ∧ (gb221 ≠ s_.2) ∧ (s_.2 ≠ gb221) ∧ (gb222 ≠ s_.2) ∧ (s_.2 ≠ gb222) ∧ (gb223 ≠ s_.2) ∧ (s_.2 ≠ gb223) ∧ (Below w.heap.size w w')) ?_ ?_
             rotate_left
             · intro hJ6_12
               refine join_ (σ := Nat × Nat) 4 #[true,true,true,true,true,true,false,true,true,true,false,true,true,false,false] (fun s_ => [(8, .pointer (some ⟨s_.1, 0, none⟩)), (9, .pointer (some ⟨s_.2, 0, none⟩))]) (fun s_ w' => (w'.cell? ⟨gb220, 0, none⟩ = some (.bool a0_0) ∧ w'.cell? ⟨gb220, 1, none⟩ = some (.slice A0_1 l0_1.length c0_1) ∧ w'.cell? ⟨gb221, 0, none⟩ = some (.bool a1_0) ∧ w'.cell? ⟨gb221, 1, none⟩ = some (.slice A1_1 l1_1.length c1_1)) ∧ (Kd.V (Kd.int .u32) 97 w' w.heap.size (fun k_ => (P0_1_ k_ ∨ w.heap.size ≤ k_) ∧ k_ ≠ gb220 ∧ k_ ≠ gb221 ∧ k_ ≠ gb222 ∧ k_ ≠ gb223 ∧ k_ ≠ s_.1 ∧ k_ ≠ s_.2) (.slice A0_1 l0_1.length c0_1) l0_1) ∧ (Kd.V (Kd.int .u32) 97 w' w.heap.size (fun k_ => (P0_1_ k_ ∨ w.heap.size ≤ k_) ∧ k_ ≠ gb220 ∧ k_ ≠ gb221 ∧ k_ ≠ gb222 ∧ k_ ≠ gb223 ∧ k_ ≠ s_.1 ∧ k_ ≠ s_.2) (.slice Ao51 t224.length co51) t224) ∧ (Kd.V (Kd.int .u32) 97 w' w.heap.size (fun k_ => (P0_1_ k_ ∨ w.heap.size ≤ k_) ∧ k_ ≠ gb220 ∧ k_ ≠ gb221 ∧ k_ ≠ gb222 ∧ k_ ≠ gb223 ∧ k_ ≠ s_.1 ∧ k_ ≠ s_.2) (.slice Ao52 t227.length co52) t227) ∧ (w'.heap[gb220]? = some (.cells #[.bool a0_0, .slice A0_1 l0_1.length c0_1] 43 (0, 0))) ∧ (w'.heap[gb221]? = some (.cells #[.bool a1_0, .slice A1_1 l1_1.length c1_1] 43 (0, 0))) ∧ (w'.heap[gb222]? = some (.cells #[.bool false, .slice none 0 0] 43 (0, 0))) ∧ (w'.heap[gb223]? = some (.cells #[.bool false, .slice none 0 0] 43 (0, 0))) ∧ (w'.heap[s_.1]? = some (.cells #[.bool false, .slice none 0 0] 43 (0, 0))) ∧ (w'.heap[s_.2]? = some (.cells #[.bool false, .slice none 0 0] 43 (0, 0))) ∧ (w.heap.size ≤ s_.1) ∧ (w.heap.size ≤ s_.1) ∧ (gb220 ≠ s_.1) ∧ (s_.1 ≠ gb220) ∧ (gb221 ≠ s_.1) ∧ (s_.1 ≠ gb221) ∧ (gb222 ≠ s_.1) ∧ (s_.1 ≠ gb222) ∧ (gb223 ≠ s_.1) ∧ (s_.1 ≠ gb223) ∧ (s_.2 ≠ s_.1) ∧ (s_.1 ≠ s_.2) ∧ (w.heap.size ≤ s_.2) ∧ (w.heap.size ≤ s_.2) ∧ (gb220 ≠ s_.2) ∧ (s_.2 ≠ gb220) ∧ (gb221 ≠ s_.2) ∧ (s_.2 ≠ gb221) ∧ (gb222 ≠ s_.2) ∧ (s_.2 ≠ gb222) ∧ (gb223 ≠ s_.2) ∧ (s_.2 ≠ gb223) ∧ (Below w.heap.size w w')) ?_ ?_
               rotate_left
               · intro hJ11_12
                 refine join_ (σ := Value) 5 (zb 10 5) (fun s_ => [(24, .agg #[.bool t230, s_])]) (fun s_ w' => (w'.cell? ⟨gb220, 0, none⟩ = some (.bool a0_0) ∧ w'.cell? ⟨gb220, 1, none⟩ = some (.slice A0_1 l0_1.length c0_1) ∧ w'.cell? ⟨gb221, 0, none⟩ = some (.bool a1_0) ∧ w'.cell? ⟨gb221, 1, none⟩ = some (.slice A1_1 l1_1.length c1_1)) ∧ (Kd.V (Kd.int .u32) 97 w' w.heap.size (fun k_ => (P0_1_ k_ ∨ w.heap.size ≤ k_) ∧ k_ ≠ gb220 ∧ k_ ≠ gb221 ∧ k_ ≠ gb222 ∧ k_ ≠ gb223) (.slice A0_1 l0_1.length c0_1) l0_1) ∧ (Kd.V (Kd.int .u32) 97 w' w.heap.size (fun k_ => (P0_1_ k_ ∨ w.heap.size ≤ k_) ∧ k_ ≠ gb220 ∧ k_ ≠ gb221 ∧ k_ ≠ gb222 ∧ k_ ≠ gb223) (.slice Ao51 t224.length co51) t224) ∧ (Kd.V (Kd.int .u32) 97 w' w.heap.size (fun k_ => (P0_1_ k_ ∨ w.heap.size ≤ k_) ∧ k_ ≠ gb220 ∧ k_ ≠ gb221 ∧ k_ ≠ gb222 ∧ k_ ≠ gb223) (.slice Ao52 t227.length co52) t227) ∧ (Kd.V (Kd.int .u32) 97 w' w.heap.size (fun k_ => (P0_1_ k_ ∨ w.heap.size ≤ k_) ∧ k_ ≠ gb220 ∧ k_ ≠ gb221 ∧ k_ ≠ gb222 ∧ k_ ≠ gb223) s_ t231) ∧ (w'.heap[gb220]? = some (.cells #[.bool a0_0, .slice A0_1 l0_1.length c0_1] 43 (0, 0))) ∧ (w'.heap[gb221]? = some (.cells #[.bool a1_0, .slice A1_1 l1_1.length c1_1] 43 (0, 0))) ∧ (w'.heap[gb222]? = some (.cells #[.bool false, .slice none 0 0] 43 (0, 0))) ∧ (w'.heap[gb223]? = some (.cells #[.bool false, .slice none 0 0] 43 (0, 0))) ∧ (Below w.heap.size w w')) ?_ ?_
                 rotate_left
                 · intro hJ6
                   refine join_ (σ := Nat) 5 #[true,true,true,true,true,true,false,true,true,true,false,true,false,false,false] (fun s_ => [(8, .pointer (some ⟨s_, 0, none⟩))]) (fun s_ w' => (w'.cell? ⟨gb220, 0, none⟩ = some (.bool a0_0) ∧ w'.cell? ⟨gb220, 1, none⟩ = some (.slice A0_1 l0_1.length c0_1) ∧ w'.cell? ⟨gb221, 0, none⟩ = some (.bool a1_0) ∧ w'.cell? ⟨gb221, 1, none⟩ = some (.slice A1_1 l1_1.length c1_1)) ∧ (Kd.V (Kd.int .u32) 97 w' w.heap.size (fun k_ => (P0_1_ k_ ∨ w.heap.size ≤ k_) ∧ k_ ≠ gb220 ∧ k_ ≠ gb221 ∧ k_ ≠ gb222 ∧ k_ ≠ gb223 ∧ k_ ≠ s_) (.slice A0_1 l0_1.length c0_1) l0_1) ∧ (Kd.V (Kd.int .u32) 97 w' w.heap.size (fun k_ => (P0_1_ k_ ∨ w.heap.size ≤ k_) ∧ k_ ≠ gb220 ∧ k_ ≠ gb221 ∧ k_ ≠ gb222 ∧ k_ ≠ gb223 ∧ k_ ≠ s_) (.slice Ao51 t224.length co51) t224) ∧ (Kd.V (Kd.int .u32) 97 w' w.heap.size (fun k_ => (P0_1_ k_ ∨ w.heap.size ≤ k_) ∧ k_ ≠ gb220 ∧ k_ ≠ gb221 ∧ k_ ≠ gb222 ∧ k_ ≠ gb223 ∧ k_ ≠ s_) (.slice Ao52 t227.length co52) t227) ∧ (w'.heap[gb220]? = some (.cells #[.bool a0_0, .slice A0_1 l0_1.length c0_1] 43 (0, 0))) ∧ (w'.heap[gb221]? = some (.cells #[.bool a1_0, .slice A1_1 l1_1.length c1_1] 43 (0, 0))) ∧ (w'.heap[gb222]? = some (.cells #[.bool false, .slice none 0 0] 43 (0, 0))) ∧ (w'.heap[gb223]? = some (.cells #[.bool false, .slice none 0 0] 43 (0, 0))) ∧ (w'.heap[s_]? = some (.cells #[.bool false, .slice none 0 0] 43 (0, 0))) ∧ (w.heap.size ≤ s_) ∧ (w.heap.size ≤ s_) ∧ (gb220 ≠ s_) ∧ (s_ ≠ gb220) ∧ (gb221 ≠ s_) ∧ (s_ ≠ gb221) ∧ (gb222 ≠ s_) ∧ (s_ ≠ gb222) ∧ (gb223 ≠ s_) ∧ (s_ ≠ gb223) ∧ (Below w.heap.size w w')) ?_ ?_
                   rotate_left
                   · intro hJ11
                     refine join_ (σ := Nat) 5 #[true,true,true,true,true,true,false,true,true,true,false,false,true,false,false] (fun s_ => [(9, .pointer (some ⟨s_, 0, none⟩))]) (fun s_ w' => (w'.cell? ⟨gb220, 0, none⟩ = some (.bool a0_0) ∧ w'.cell? ⟨gb220, 1, none⟩ = some (.slice A0_1 l0_1.length c0_1) ∧ w'.cell? ⟨gb221, 0, none⟩ = some (.bool a1_0) ∧ w'.cell? ⟨gb221, 1, none⟩ = some (.slice A1_1 l1_1.length c1_1)) ∧ (Kd.V (Kd.int .u32) 97 w' w.heap.size (fun k_ => (P0_1_ k_ ∨ w.heap.size ≤ k_) ∧ k_ ≠ gb220 ∧ k_ ≠ gb221 ∧ k_ ≠ gb222 ∧ k_ ≠ gb223 ∧ k_ ≠ s_) (.slice A0_1 l0_1.length c0_1) l0_1) ∧ (Kd.V (Kd.int .u32) 97 w' w.heap.size (fun k_ => (P0_1_ k_ ∨ w.heap.size ≤ k_) ∧ k_ ≠ gb220 ∧ k_ ≠ gb221 ∧ k_ ≠ gb222 ∧ k_ ≠ gb223 ∧ k_ ≠ s_) (.slice Ao51 t224.length co51) t224) ∧ (Kd.V (Kd.int .u32) 97 w' w.heap.size (fun k_ => (P0_1_ k_ ∨ w.heap.size ≤ k_) ∧ k_ ≠ gb220 ∧ k_ ≠ gb221 ∧ k_ ≠ gb222 ∧ k_ ≠ gb223 ∧ k_ ≠ s_) (.slice Ao52 t227.length co52) t227) ∧ (w'.heap[gb220]? = some (.cells #[.bool a0_0, .slice A0_1 l0_1.length c0_1] 43 (0, 0))) ∧ (w'.heap[gb221]? = some (.cells #[.bool a1_0, .slice A1_1 l1_1.length c1_1] 43 (0, 0))) ∧ (w'.heap[gb222]? = some (.cells #[.bool false, .slice none 0 0] 43 (0, 0))) ∧ (w'.heap[gb223]? = some (.cells #[.bool false, .slice none 0 0] 43 (0, 0))) ∧ (w'.heap[s_]? = some (.cells #[.bool false, .slice none 0 0] 43 (0, 0))) ∧ (w.heap.size ≤ s_) ∧ (w.heap.size ≤ s_) ∧ (gb220 ≠ s_) ∧ (s_ ≠ gb220) ∧ (gb221 ≠ s_) ∧ (s_ ≠ gb221) ∧ (gb222 ≠ s_) ∧ (s_ ≠ gb222) ∧ (gb223 ≠ s_) ∧ (s_ ≠ gb223) ∧ (Below w.heap.size w w')) ?_ ?_
                     rotate_left
                     · intro hJ12
                       refine three_ (i := 6) (j := 11) (k := 12) (Ni := some 24) (Nj := some 8) (Nk := some 9) (zb 10 5) #[true,true,true,true,true,true,false,true,true,true,false,true,false,false,false] #[true,true,true,true,true,true,false,true,true,true,false,false,true,false,false] rfl rfl rfl rfl rfl rfl (three_of HT_.out (by kernel_rfl)) (by decide) (by decide) (by decide) (fun K hK => ?_) (fun K hK => ?_) (fun K hK => ?_)
                       · skip
                         refine goes_ Try.func68 (by kernel_rfl) rfl #[.bool (a0_0 != a1_0), .slice Ao51 t224.length co51] (by rfl) rfl rfl (by (try simp only [List.map_toArray, List.map_cons, List.map_nil]); first | done | rfl | (simp only [List.length_drop, List.length_take]; rfl)) ?_
                         with_reducible refine (exact_made.calls (a0_0 != a1_0) (fun k_ => ((P0_1_ k_ ∨ w.heap.size ≤ k_) ∧ (k_ ≠ gb220 ∧ (k_ ≠ gb221 ∧ (k_ ≠ gb222 ∧ k_ ≠ gb223))))) _ _ t224 t230 t231 _ ?side1 A4.out).mono ?_
                         (case side1 => exact HO226.out)
                         rintro e w54 ⟨v232, rfl, ho0, hb⟩
                         refine ⟨_, rfl, ?_⟩
                         have n0_ := Aside0.mk (vb HO0_1.out hb)
                         have n1_ := Aside0.mk (vb HO226.out hb)
                         have n2_ := Aside0.mk (vb HO229.out hb)
                         have n3_ := Aside0.mk (Kd.V_lower (Kd.V_mono (ok' := fun k_ => (P0_1_ k_ ∨ w.heap.size ≤ k_) ∧ k_ ≠ gb220 ∧ k_ ≠ gb221 ∧ k_ ≠ gb222 ∧ k_ ≠ gb223) ho0 (fun k_ hk_ => ⟨Or.elim hk_ (fun hs_ => hs_.1) (fun hn_ => (.inr (Nat.le_trans (below_size bl) hn_))), Or.elim hk_ (fun hs_ => hs_.2.1) (fun hn_ => (Kd.freshB (g := gb220) (o := .cells #[.bool a0_0, .slice A0_1 l0_1.length c0_1] 43 (0, 0)) (bk BK220.out) k_ hn_)), Or.elim hk_ (fun hs_ => hs_.2.2.1) (fun hn_ => (Kd.freshB (g := gb221) (o := .cells #[.bool a1_0, .slice A1_1 l1_1.length c1_1] 43 (0, 0)) (bk BK221.out) k_ hn_)), Or.elim hk_ (fun hs_ => hs_.2.2.2.1) (fun hn_ => (Kd.freshB (g := gb222) (o := .cells #[.bool false, .slice none 0 0] 43 (0, 0)) (bk BK222.out) k_ hn_)), Or.elim hk_ (fun hs_ => hs_.2.2.2.2) (fun hn_ => (Kd.freshB (g := gb223) (o := .cells #[.bool false, .slice none 0 0] 43 (0, 0)) (bk BK223.out) k_ hn_))⟩)) (below_size bl))
                         have n4_ := Aside0.mk (bb BK220.out hb)
                         have n5_ := Aside0.mk (bb BK221.out hb)
                         have n6_ := Aside0.mk (bb BK222.out hb)
                         have n7_ := Aside0.mk (bb BK223.out hb)
                         have n8_ := Aside0.mk (below_step bl hb)
                         clear HO0_1
                         clear HO226
                         clear HO229
                         clear BK220
                         clear BK221
                         clear BK222
                         clear BK223
                         clear HB
                         have HO0_1 := n0_
                         have HO226 := n1_
                         have HO229 := n2_
                         have HO233 := n3_
                         have BK220 := n4_
                         have BK221 := n5_
                         have BK222 := n6_
                         have BK223 := n7_
                         have HB := n8_
                         clear n0_ n1_ n2_ n3_ n4_ n5_ n6_ n7_ n8_
                         (try clear hb)
                         (try clear hb2)
                         (try clear hk)
                         (try clear hi)
                         (try clear ho0)
                         refine hK.out _ _ ⟨(blk_cell BK220.out 0).trans rfl, (blk_cell BK220.out 1).trans rfl, (blk_cell BK221.out 0).trans rfl, (blk_cell BK221.out 1).trans rfl⟩ (fun hHeld => ?_)
                         clear hK K
                         refine norm_ (a' := ?_) ?_ ?_
                         rotate_left; focus (show Act.put _ (some 24) _ = _; simp only [Act.put, z1, z2, z3, i64_w, i32_w]; rfl)
                         exact norm_ (by first | (simp only [putAll, Act.put, z1, z2, z3]; done) | (simp only [putAll, Act.put, z1, z2, z3]; rfl)) (hJ6 (v232) _ ⟨hHeld, (by (with_reducible repeat (first | apply Kd.V_alloc | apply Kd.V_drewN | apply Kd.V_drew)); exact Kd.V_mono HO0_1.out (fun _ hk => ⟨hk.1.1.1.1, ⟨hk.1.1.1.2, ⟨hk.1.1.2, ⟨hk.1.2, hk.2⟩⟩⟩⟩)), (by (with_reducible repeat (first | apply Kd.V_alloc | apply Kd.V_drewN | apply Kd.V_drew)); exact HO226.out), (by (with_reducible repeat (first | apply Kd.V_alloc | apply Kd.V_drewN | apply Kd.V_drew)); exact HO229.out), (by (with_reducible repeat (first | apply Kd.V_alloc | apply Kd.V_drewN | apply Kd.V_drew)); exact HO233.out), (bk BK220.out), (bk BK221.out), (bk BK222.out), (bk BK223.out), bl⟩)
                       · skip
                         refine box_step ?hg (N := 8) ?hd (cs := #[.bool false, .slice none 0 0]) (t := 43) ?hr ?_; (case hd => rfl); (case hg => rfl); (case hr => first | (go_simp; done) | (go_simp; rfl))
                         intro gb238 hg w54 hbox hb
                         have n0_ := Aside0.mk (Kd.V_below (Kd.V_elderB (by (with_reducible repeat (first | apply Kd.V_alloc | apply Kd.V_drewN | apply Kd.V_drew)); exact HO0_1.out) gb238 (Nat.le_of_eq hg.symm)) hb)
                         have n1_ := Aside0.mk (Kd.V_below (Kd.V_elderB (by (with_reducible repeat (first | apply Kd.V_alloc | apply Kd.V_drewN | apply Kd.V_drew)); exact HO226.out) gb238 (Nat.le_of_eq hg.symm)) hb)
                         have n2_ := Aside0.mk (Kd.V_below (Kd.V_elderB (by (with_reducible repeat (first | apply Kd.V_alloc | apply Kd.V_drewN | apply Kd.V_drew)); exact HO229.out) gb238 (Nat.le_of_eq hg.symm)) hb)
                         have n3_ := Aside0.mk (bb BK220.out hb)
                         have n4_ := Aside0.mk (bb BK221.out hb)
                         have n5_ := Aside0.mk (bb BK222.out hb)
                         have n6_ := Aside0.mk (bb BK223.out hb)
                         have n7_ := Aside0.mk (below_step bl hb)
                         have n8_ := Aside0.mk (hbox)
                         have n9_ := Aside0.mk (ge (w := w) hg)
                         have n10_ := Aside0.mk (ge (w := w) hg)
                         have n11_ := Aside0.mk (nl hg (bk BK220.out))
                         have n12_ := Aside0.mk (ng hg (bk BK220.out))
                         have n13_ := Aside0.mk (nl hg (bk BK221.out))
                         have n14_ := Aside0.mk (ng hg (bk BK221.out))
                         have n15_ := Aside0.mk (nl hg (bk BK222.out))
                         have n16_ := Aside0.mk (ng hg (bk BK222.out))
                         have n17_ := Aside0.mk (nl hg (bk BK223.out))
                         have n18_ := Aside0.mk (ng hg (bk BK223.out))
                         clear HO0_1
                         clear HO226
                         clear HO229
                         clear BK220
                         clear BK221
                         clear BK222
                         clear BK223
                         clear HB
                         have HO0_1 := n0_
                         have HO226 := n1_
                         have HO229 := n2_
                         have BK220 := n3_
                         have BK221 := n4_
                         have BK222 := n5_
                         have BK223 := n6_
                         have HB := n7_
                         have BK238 := n8_
                         have GW238 := n9_
                         have GE238 := n10_
                         have NB220_238 := n11_
                         have NB238_220 := n12_
                         have NB221_238 := n13_
                         have NB238_221 := n14_
                         have NB222_238 := n15_
                         have NB238_222 := n16_
                         have NB223_238 := n17_
                         have NB238_223 := n18_
                         clear n0_ n1_ n2_ n3_ n4_ n5_ n6_ n7_ n8_ n9_ n10_ n11_ n12_ n13_ n14_ n15_ n16_ n17_ n18_
                         clear hb hbox hg
                         refine hK.out _ _ ⟨(blk_cell BK220.out 0).trans rfl, (blk_cell BK220.out 1).trans rfl, (blk_cell BK221.out 0).trans rfl, (blk_cell BK221.out 1).trans rfl⟩ (fun hHeld => ?_)
                         clear hK K
                         refine norm_ (a' := ?_) ?_ ?_
                         rotate_left; focus (show Act.put _ (some 8) _ = _; simp only [Act.put, z1, z2, z3, i64_w, i32_w]; rfl)
                         exact norm_ (by first | (simp only [putAll, Act.put, z1, z2, z3]; done) | (simp only [putAll, Act.put, z1, z2, z3]; rfl)) (hJ11 (gb238) _ ⟨hHeld, (by (with_reducible repeat (first | apply Kd.V_alloc | apply Kd.V_drewN | apply Kd.V_drew)); exact Kd.V_mono HO0_1.out (fun _ hk => ⟨hk.1.1.1.1.1, ⟨hk.1.1.1.1.2, ⟨hk.1.1.1.2, ⟨hk.1.1.2, ⟨hk.1.2, hk.2⟩⟩⟩⟩⟩)), (by (with_reducible repeat (first | apply Kd.V_alloc | apply Kd.V_drewN | apply Kd.V_drew)); exact Kd.V_mono HO226.out (fun _ hk => ⟨hk.1.1, ⟨hk.1.2.1, ⟨hk.1.2.2.1, ⟨hk.1.2.2.2.1, ⟨hk.1.2.2.2.2, hk.2⟩⟩⟩⟩⟩)), (by (with_reducible repeat (first | apply Kd.V_alloc | apply Kd.V_drewN | apply Kd.V_drew)); exact Kd.V_mono HO229.out (fun _ hk => ⟨hk.1.1, ⟨hk.1.2.1, ⟨hk.1.2.2.1, ⟨hk.1.2.2.2.1, ⟨hk.1.2.2.2.2, hk.2⟩⟩⟩⟩⟩)), (bk BK220.out), (bk BK221.out), (bk BK222.out), (bk BK223.out), (bk BK238.out), GW238.out, GE238.out, NB220_238.out, NB238_220.out, NB221_238.out, NB238_221.out, NB222_238.out, NB238_222.out, NB223_238.out, NB238_223.out, bl⟩)
                       skip
                       refine box_step ?hg (N := 9) ?hd (cs := #[.bool false, .slice none 0 0]) (t := 43) ?hr ?_; (case hd => rfl); (case hg => rfl); (case hr => first | (go_simp; done) | (go_simp; rfl))
                       intro gb239 hg w54 hbox hb
                       have n0_ := Aside0.mk (Kd.V_below (Kd.V_elderB (by (with_reducible repeat (first | apply Kd.V_alloc | apply Kd.V_drewN | apply Kd.V_drew)); exact HO0_1.out) gb239 (Nat.le_of_eq hg.symm)) hb)
                       have n1_ := Aside0.mk (Kd.V_below (Kd.V_elderB (by (with_reducible repeat (first | apply Kd.V_alloc | apply Kd.V_drewN | apply Kd.V_drew)); exact HO226.out) gb239 (Nat.le_of_eq hg.symm)) hb)
                       have n2_ := Aside0.mk (Kd.V_below (Kd.V_elderB (by (with_reducible repeat (first | apply Kd.V_alloc | apply Kd.V_drewN | apply Kd.V_drew)); exact HO229.out) gb239 (Nat.le_of_eq hg.symm)) hb)
                       have n3_ := Aside0.mk (bb BK220.out hb)
                       have n4_ := Aside0.mk (bb BK221.out hb)
                       have n5_ := Aside0.mk (bb BK222.out hb)
                       have n6_ := Aside0.mk (bb BK223.out hb)
                       have n7_ := Aside0.mk (below_step bl hb)
                       have n8_ := Aside0.mk (hbox)
                       have n9_ := Aside0.mk (ge (w := w) hg)
                       have n10_ := Aside0.mk (ge (w := w) hg)
                       have n11_ := Aside0.mk (nl hg (bk BK220.out))
                       have n12_ := Aside0.mk (ng hg (bk BK220.out))
                       have n13_ := Aside0.mk (nl hg (bk BK221.out))
                       have n14_ := Aside0.mk (ng hg (bk BK221.out))
                       have n15_ := Aside0.mk (nl hg (bk BK222.out))
                       have n16_ := Aside0.mk (ng hg (bk BK222.out))
                       have n17_ := Aside0.mk (nl hg (bk BK223.out))
                       have n18_ := Aside0.mk (ng hg (bk BK223.out))
                       clear HO0_1
                       clear HO226
                       clear HO229
                       clear BK220
                       clear BK221
                       clear BK222
                       clear BK223
                       clear HB
                       have HO0_1 := n0_
                       have HO226 := n1_
                       have HO229 := n2_
                       have BK220 := n3_
                       have BK221 := n4_
                       have BK222 := n5_
                       have BK223 := n6_
                       have HB := n7_
                       have BK239 := n8_
                       have GW239 := n9_
                       have GE239 := n10_
                       have NB220_239 := n11_
                       have NB239_220 := n12_
                       have NB221_239 := n13_
                       have NB239_221 := n14_
                       have NB222_239 := n15_
                       have NB239_222 := n16_
                       have NB223_239 := n17_
                       have NB239_223 := n18_
                       clear n0_ n1_ n2_ n3_ n4_ n5_ n6_ n7_ n8_ n9_ n10_ n11_ n12_ n13_ n14_ n15_ n16_ n17_ n18_
                       clear hb hbox hg
                       refine hK.out _ _ ⟨(blk_cell BK220.out 0).trans rfl, (blk_cell BK220.out 1).trans rfl, (blk_cell BK221.out 0).trans rfl, (blk_cell BK221.out 1).trans rfl⟩ (fun hHeld => ?_)
                       clear hK K
                       refine norm_ (a' := ?_) ?_ ?_
                       rotate_left; focus (show Act.put _ (some 9) _ = _; simp only [Act.put, z1, z2, z3, i64_w, i32_w]; rfl)
                       exact norm_ (by first | (simp only [putAll, Act.put, z1, z2, z3]; done) | (simp only [putAll, Act.put, z1, z2, z3]; rfl)) (hJ12 (gb239) _ ⟨hHeld, (by (with_reducible repeat (first | apply Kd.V_alloc | apply Kd.V_drewN | apply Kd.V_drew)); exact Kd.V_mono HO0_1.out (fun _ hk => ⟨hk.1.1.1.1.1, ⟨hk.1.1.1.1.2, ⟨hk.1.1.1.2, ⟨hk.1.1.2, ⟨hk.1.2, hk.2⟩⟩⟩⟩⟩)), (by (with_reducible repeat (first | apply Kd.V_alloc | apply Kd.V_drewN | apply Kd.V_drew)); exact Kd.V_mono HO226.out (fun _ hk => ⟨hk.1.1, ⟨hk.1.2.1, ⟨hk.1.2.2.1, ⟨hk.1.2.2.2.1, ⟨hk.1.2.2.2.2, hk.2⟩⟩⟩⟩⟩)), (by (with_reducible repeat (first | apply Kd.V_alloc | apply Kd.V_drewN | apply Kd.V_drew)); exact Kd.V_mono HO229.out (fun _ hk => ⟨hk.1.1, ⟨hk.1.2.1, ⟨hk.1.2.2.1, ⟨hk.1.2.2.2.1, ⟨hk.1.2.2.2.2, hk.2⟩⟩⟩⟩⟩)), (bk BK220.out), (bk BK221.out), (bk BK222.out), (bk BK223.out), (bk BK239.out), GW239.out, GE239.out, NB220_239.out, NB239_220.out, NB221_239.out, NB239_221.out, NB222_239.out, NB239_222.out, NB223_239.out, NB239_223.out, bl⟩)
                     skip
                     rintro gb239 w55 ⟨hS_, h0_, h1_, h2_, h3_, h4_, h5_, h6_, h7_, h8_, h9_, h10_, h11_, h12_, h13_, h14_, h15_, h16_, h17_, h18_⟩
                     have n0_ : Aside0 (Kd.V (Kd.int .u32) 97 w55 w.heap.size (fun k_ => (P0_1_ k_ ∨ w.heap.size ≤ k_) ∧ k_ ≠ gb220 ∧ k_ ≠ gb221 ∧ k_ ≠ gb222 ∧ k_ ≠ gb223 ∧ k_ ≠ gb239) (.slice A0_1 l0_1.length c0_1) l0_1) := ⟨h0_⟩
                     have n1_ : Aside0 (Kd.V (Kd.int .u32) 97 w55 w.heap.size (fun k_ => (P0_1_ k_ ∨ w.heap.size ≤ k_) ∧ k_ ≠ gb220 ∧ k_ ≠ gb221 ∧ k_ ≠ gb222 ∧ k_ ≠ gb223 ∧ k_ ≠ gb239) (.slice Ao51 t224.length co51) t224) := ⟨h1_⟩
                     have n2_ : Aside0 (Kd.V (Kd.int .u32) 97 w55 w.heap.size (fun k_ => (P0_1_ k_ ∨ w.heap.size ≤ k_) ∧ k_ ≠ gb220 ∧ k_ ≠ gb221 ∧ k_ ≠ gb222 ∧ k_ ≠ gb223 ∧ k_ ≠ gb239) (.slice Ao52 t227.length co52) t227) := ⟨h2_⟩
                     have n3_ : Aside0 (w55.heap[gb220]? = some (.cells #[.bool a0_0, .slice A0_1 l0_1.length c0_1] 43 (0, 0))) := ⟨h3_⟩
                     have n4_ : Aside0 (w55.heap[gb221]? = some (.cells #[.bool a1_0, .slice A1_1 l1_1.length c1_1] 43 (0, 0))) := ⟨h4_⟩
                     have n5_ : Aside0 (w55.heap[gb222]? = some (.cells #[.bool false, .slice none 0 0] 43 (0, 0))) := ⟨h5_⟩
                     have n6_ : Aside0 (w55.heap[gb223]? = some (.cells #[.bool false, .slice none 0 0] 43 (0, 0))) := ⟨h6_⟩
                     have n7_ : Aside0 (w55.heap[gb239]? = some (.cells #[.bool false, .slice none 0 0] 43 (0, 0))) := ⟨h7_⟩
                     have n8_ : Aside0 (w.heap.size ≤ gb239) := ⟨h8_⟩
                     have n9_ : Aside0 (w.heap.size ≤ gb239) := ⟨h9_⟩
                     have n10_ : Aside0 (gb220 ≠ gb239) := ⟨h10_⟩
                     have n11_ : Aside0 (gb239 ≠ gb220) := ⟨h11_⟩
                     have n12_ : Aside0 (gb221 ≠ gb239) := ⟨h12_⟩
                     have n13_ : Aside0 (gb239 ≠ gb221) := ⟨h13_⟩
                     have n14_ : Aside0 (gb222 ≠ gb239) := ⟨h14_⟩
                     have n15_ : Aside0 (gb239 ≠ gb222) := ⟨h15_⟩
                     have n16_ : Aside0 (gb223 ≠ gb239) := ⟨h16_⟩
                     have n17_ : Aside0 (gb239 ≠ gb223) := ⟨h17_⟩
                     have n18_ : Aside0 (Below w.heap.size w w55) := ⟨h18_⟩
                     clear HO0_1
                     clear HO226
                     clear HO229
                     clear BK220
                     clear BK221
                     clear BK222
                     clear BK223
                     clear HB
                     clear h0_ h1_ h2_ h3_ h4_ h5_ h6_ h7_ h8_ h9_ h10_ h11_ h12_ h13_ h14_ h15_ h16_ h17_ h18_
                     have HO0_1 := n0_
                     have HO226 := n1_
                     have HO229 := n2_
                     have BK220 := n3_
                     have BK221 := n4_
                     have BK222 := n5_
                     have BK223 := n6_
                     have BK239 := n7_
                     have GW239 := n8_
                     have GE239 := n9_
                     have NB220_239 := n10_
                     have NB239_220 := n11_
                     have NB221_239 := n12_
                     have NB239_221 := n13_
                     have NB222_239 := n14_
                     have NB239_222 := n15_
                     have NB223_239 := n16_
                     have NB239_223 := n17_
                     have HB := n18_
                     clear n0_ n1_ n2_ n3_ n4_ n5_ n6_ n7_ n8_ n9_ n10_ n11_ n12_ n13_ n14_ n15_ n16_ n17_ n18_
                     refine norm_ (a' := ?_) ?_ ?_
                     rotate_left
                     · simp only [putAll, Act.put, z1, z2, z3]
                       rfl
                     refine two_ (i := 6) (j := 11) (Ni := some 24) (Nj := some 8) #[true,true,true,true,true,true,true,true,true,true,false,false,true,false,false] #[true,true,true,true,true,true,false,true,true,true,false,true,true,false,false] rfl rfl rfl rfl (two_of HT_.out (by kernel_rfl)) (by decide) (by decide) (fun K hK => ?_) (fun K hK => ?_)
                     · skip
                       refine goes_ Try.func68 (by kernel_rfl) rfl #[.bool (a0_0 != a1_0), .slice Ao51 t224.length co51] (by rfl) rfl rfl (by (try simp only [List.map_toArray, List.map_cons, List.map_nil]); first | done | rfl | (simp only [List.length_drop, List.length_take]; rfl)) ?_
                       with_reducible refine (exact_made.calls (a0_0 != a1_0) (fun k_ => ((P0_1_ k_ ∨ w.heap.size ≤ k_) ∧ (k_ ≠ gb220 ∧ (k_ ≠ gb221 ∧ (k_ ≠ gb222 ∧ (k_ ≠ gb223 ∧ k_ ≠ gb239)))))) _ _ t224 t230 t231 _ ?side1 A4.out).mono ?_
                       (case side1 => exact HO226.out)
                       rintro e w56 ⟨v232, rfl, ho0, hb⟩
                       refine ⟨_, rfl, ?_⟩
                       have n0_ := Aside0.mk (vb HO0_1.out hb)
                       have n1_ := Aside0.mk (vb HO226.out hb)
                       have n2_ := Aside0.mk (vb HO229.out hb)
                       have n3_ := Aside0.mk (Kd.V_lower (Kd.V_mono (ok' := fun k_ => (P0_1_ k_ ∨ w.heap.size ≤ k_) ∧ k_ ≠ gb220 ∧ k_ ≠ gb221 ∧ k_ ≠ gb222 ∧ k_ ≠ gb223 ∧ k_ ≠ gb239) ho0 (fun k_ hk_ => ⟨Or.elim hk_ (fun hs_ => hs_.1) (fun hn_ => (.inr (Nat.le_trans (below_size bl) hn_))), Or.elim hk_ (fun hs_ => hs_.2.1) (fun hn_ => (Kd.freshB (g := gb220) (o := .cells #[.bool a0_0, .slice A0_1 l0_1.length c0_1] 43 (0, 0)) (bk BK220.out) k_ hn_)), Or.elim hk_ (fun hs_ => hs_.2.2.1) (fun hn_ => (Kd.freshB (g := gb221) (o := .cells #[.bool a1_0, .slice A1_1 l1_1.length c1_1] 43 (0, 0)) (bk BK221.out) k_ hn_)), Or.elim hk_ (fun hs_ => hs_.2.2.2.1) (fun hn_ => (Kd.freshB (g := gb222) (o := .cells #[.bool false, .slice none 0 0] 43 (0, 0)) (bk BK222.out) k_ hn_)), Or.elim hk_ (fun hs_ => hs_.2.2.2.2.1) (fun hn_ => (Kd.freshB (g := gb223) (o := .cells #[.bool false, .slice none 0 0] 43 (0, 0)) (bk BK223.out) k_ hn_)), Or.elim hk_ (fun hs_ => hs_.2.2.2.2.2) (fun hn_ => (Kd.freshB (g := gb239) (o := .cells #[.bool false, .slice none 0 0] 43 (0, 0)) (bk BK239.out) k_ hn_))⟩)) (below_size bl))
                       have n4_ := Aside0.mk (bb BK220.out hb)
                       have n5_ := Aside0.mk (bb BK221.out hb)
                       have n6_ := Aside0.mk (bb BK222.out hb)
                       have n7_ := Aside0.mk (bb BK223.out hb)
                       have n8_ := Aside0.mk (bb BK239.out hb)
                       have n9_ := Aside0.mk (below_step bl hb)
                       clear HO0_1
                       clear HO226
                       clear HO229
                       clear BK220
                       clear BK221
                       clear BK222
                       clear BK223
                       clear BK239
                       clear HB
                       have HO0_1 := n0_
                       have HO226 := n1_
                       have HO229 := n2_
                       have HO233 := n3_
                       have BK220 := n4_
                       have BK221 := n5_
                       have BK222 := n6_
                       have BK223 := n7_
                       have BK239 := n8_
                       have HB := n9_
                       clear n0_ n1_ n2_ n3_ n4_ n5_ n6_ n7_ n8_ n9_
                       (try clear hb)
                       (try clear hb2)
                       (try clear hk)
                       (try clear hi)
                       (try clear ho0)
                       refine hK.out _ _ ⟨(blk_cell BK220.out 0).trans rfl, (blk_cell BK220.out 1).trans rfl, (blk_cell BK221.out 0).trans rfl, (blk_cell BK221.out 1).trans rfl⟩ (fun hHeld => ?_)
                       clear hK K
                       refine norm_ (a' := ?_) ?_ ?_
                       rotate_left; focus (show Act.put _ (some 24) _ = _; simp only [Act.put, z1, z2, z3, i64_w, i32_w]; rfl)
                       exact norm_ (by first | (simp only [putAll, Act.put, z1, z2, z3]; done) | (simp only [putAll, Act.put, z1, z2, z3]; rfl)) (hJ6_12 (v232, gb239) _ ⟨hHeld, (by (with_reducible repeat (first | apply Kd.V_alloc | apply Kd.V_drewN | apply Kd.V_drew)); exact HO0_1.out), (by (with_reducible repeat (first | apply Kd.V_alloc | apply Kd.V_drewN | apply Kd.V_drew)); exact HO226.out), (by (with_reducible repeat (first | apply Kd.V_alloc | apply Kd.V_drewN | apply Kd.V_drew)); exact HO229.out), (by (with_reducible repeat (first | apply Kd.V_alloc | apply Kd.V_drewN | apply Kd.V_drew)); exact HO233.out), (bk BK220.out), (bk BK221.out), (bk BK222.out), (bk BK223.out), (bk BK239.out), GW239.out, GE239.out, NB220_239.out, NB239_220.out, NB221_239.out, NB239_221.out, NB222_239.out, NB239_222.out, NB223_239.out, NB239_223.out, bl⟩)
                     skip
                     refine box_step ?hg (N := 8) ?hd (cs := #[.bool false, .slice none 0 0]) (t := 43) ?hr ?_; (case hd => rfl); (case hg => rfl); (case hr => first | (go_simp; done) | (go_simp; rfl))
                     intro gb238 hg w56 hbox hb
                     have n0_ := Aside0.mk (Kd.V_below (Kd.V_elderB (by (with_reducible repeat (first | apply Kd.V_alloc | apply Kd.V_drewN | apply Kd.V_drew)); exact HO0_1.out) gb238 (Nat.le_of_eq hg.symm)) hb)
                     have n1_ := Aside0.mk (Kd.V_below (Kd.V_elderB (by (with_reducible repeat (first | apply Kd.V_alloc | apply Kd.V_drewN | apply Kd.V_drew)); exact HO226.out) gb238 (Nat.le_of_eq hg.symm)) hb)
                     have n2_ := Aside0.mk (Kd.V_below (Kd.V_elderB (by (with_reducible repeat (first | apply Kd.V_alloc | apply Kd.V_drewN | apply Kd.V_drew)); exact HO229.out) gb238 (Nat.le_of_eq hg.symm)) hb)
                     have n3_ := Aside0.mk (bb BK220.out hb)
                     have n4_ := Aside0.mk (bb BK221.out hb)
                     have n5_ := Aside0.mk (bb BK222.out hb)
                     have n6_ := Aside0.mk (bb BK223.out hb)
                     have n7_ := Aside0.mk (bb BK239.out hb)
                     have n8_ := Aside0.mk (below_step bl hb)
                     have n9_ := Aside0.mk (hbox)
                     have n10_ := Aside0.mk (ge (w := w) hg)
                     have n11_ := Aside0.mk (ge (w := w) hg)
                     have n12_ := Aside0.mk (nl hg (bk BK220.out))
                     have n13_ := Aside0.mk (ng hg (bk BK220.out))
                     have n14_ := Aside0.mk (nl hg (bk BK221.out))
                     have n15_ := Aside0.mk (ng hg (bk BK221.out))
                     have n16_ := Aside0.mk (nl hg (bk BK222.out))
                     have n17_ := Aside0.mk (ng hg (bk BK222.out))
                     have n18_ := Aside0.mk (nl hg (bk BK223.out))
                     have n19_ := Aside0.mk (ng hg (bk BK223.out))
                     have n20_ := Aside0.mk (nl hg (bk BK239.out))
                     have n21_ := Aside0.mk (ng hg (bk BK239.out))
                     clear HO0_1
                     clear HO226
                     clear HO229
                     clear BK220
                     clear BK221
                     clear BK222
                     clear BK223
                     clear BK239
                     clear HB
                     have HO0_1 := n0_
                     have HO226 := n1_
                     have HO229 := n2_
                     have BK220 := n3_
                     have BK221 := n4_
                     have BK222 := n5_
                     have BK223 := n6_
                     have BK239 := n7_
                     have HB := n8_
                     have BK238 := n9_
                     have GW238 := n10_
                     have GE238 := n11_
                     have NB220_238 := n12_
                     have NB238_220 := n13_
                     have NB221_238 := n14_
                     have NB238_221 := n15_
                     have NB222_238 := n16_
                     have NB238_222 := n17_
                     have NB223_238 := n18_
                     have NB238_223 := n19_
                     have NB239_238 := n20_
                     have NB238_239 := n21_
                     clear n0_ n1_ n2_ n3_ n4_ n5_ n6_ n7_ n8_ n9_ n10_ n11_ n12_ n13_ n14_ n15_ n16_ n17_ n18_ n19_ n20_ n21_
                     clear hb hbox hg
                     refine hK.out _ _ ⟨(blk_cell BK220.out 0).trans rfl, (blk_cell BK220.out 1).trans rfl, (blk_cell BK221.out 0).trans rfl, (blk_cell BK221.out 1).trans rfl⟩ (fun hHeld => ?_)
                     clear hK K
                     refine norm_ (a' := ?_) ?_ ?_
                     rotate_left; focus (show Act.put _ (some 8) _ = _; simp only [Act.put, z1, z2, z3, i64_w, i32_w]; rfl)
                     exact norm_ (by first | (simp only [putAll, Act.put, z1, z2, z3]; done) | (simp only [putAll, Act.put, z1, z2, z3]; rfl)) (hJ11_12 (gb238, gb239) _ ⟨hHeld, (by (with_reducible repeat (first | apply Kd.V_alloc | apply Kd.V_drewN | apply Kd.V_drew)); exact Kd.V_mono HO0_1.out (fun _ hk => ⟨hk.1.1, ⟨hk.1.2.1, ⟨hk.1.2.2.1, ⟨hk.1.2.2.2.1, ⟨hk.1.2.2.2.2.1, ⟨hk.2, hk.1.2.2.2.2.2⟩⟩⟩⟩⟩⟩)), (by (with_reducible repeat (first | apply Kd.V_alloc | apply Kd.V_drewN | apply Kd.V_drew)); exact Kd.V_mono HO226.out (fun _ hk => ⟨hk.1.1, ⟨hk.1.2.1, ⟨hk.1.2.2.1, ⟨hk.1.2.2.2.1, ⟨hk.1.2.2.2.2.1, ⟨hk.2, hk.1.2.2.2.2.2⟩⟩⟩⟩⟩⟩)), (by (with_reducible repeat (first | apply Kd.V_alloc | apply Kd.V_drewN | apply Kd.V_drew)); exact Kd.V_mono HO229.out (fun _ hk => ⟨hk.1.1, ⟨hk.1.2.1, ⟨hk.1.2.2.1, ⟨hk.1.2.2.2.1, ⟨hk.1.2.2.2.2.1, ⟨hk.2, hk.1.2.2.2.2.2⟩⟩⟩⟩⟩⟩)), (bk BK220.out), (bk BK221.out), (bk BK222.out), (bk BK223.out), (bk BK238.out), (bk BK239.out), GW238.out, GE238.out, NB220_238.out, NB238_220.out, NB221_238.out, NB238_221.out, NB222_238.out, NB238_222.out, NB223_238.out, NB238_223.out, NB239_238.out, NB238_239.out, GW239.out, GE239.out, NB220_239.out, NB239_220.out, NB221_239.out, NB239_221.out, NB222_239.out, NB239_222.out, NB223_239.out, NB239_223.out, bl⟩)
                   skip
                   rintro gb238 w55 ⟨hS_, h0_, h1_, h2_, h3_, h4_, h5_, h6_, h7_, h8_, h9_, h10_, h11_, h12_, h13_, h14_, h15_, h16_, h17_, h18_⟩
                   have n0_ : Aside0 (Kd.V (Kd.int .u32) 97 w55 w.heap.size (fun k_ => (P0_1_ k_ ∨ w.heap.size ≤ k_) ∧ k_ ≠ gb220 ∧ k_ ≠ gb221 ∧ k_ ≠ gb222 ∧ k_ ≠ gb223 ∧ k_ ≠ gb238) (.slice A0_1 l0_1.length c0_1) l0_1) := ⟨h0_⟩
                   have n1_ : Aside0 (Kd.V (Kd.int .u32) 97 w55 w.heap.size (fun k_ => (P0_1_ k_ ∨ w.heap.size ≤ k_) ∧ k_ ≠ gb220 ∧ k_ ≠ gb221 ∧ k_ ≠ gb222 ∧ k_ ≠ gb223 ∧ k_ ≠ gb238) (.slice Ao51 t224.length co51) t224) := ⟨h1_⟩
                   have n2_ : Aside0 (Kd.V (Kd.int .u32) 97 w55 w.heap.size (fun k_ => (P0_1_ k_ ∨ w.heap.size ≤ k_) ∧ k_ ≠ gb220 ∧ k_ ≠ gb221 ∧ k_ ≠ gb222 ∧ k_ ≠ gb223 ∧ k_ ≠ gb238) (.slice Ao52 t227.length co52) t227) := ⟨h2_⟩
                   have n3_ : Aside0 (w55.heap[gb220]? = some (.cells #[.bool a0_0, .slice A0_1 l0_1.length c0_1] 43 (0, 0))) := ⟨h3_⟩
                   have n4_ : Aside0 (w55.heap[gb221]? = some (.cells #[.bool a1_0, .slice A1_1 l1_1.length c1_1] 43 (0, 0))) := ⟨h4_⟩
                   have n5_ : Aside0 (w55.heap[gb222]? = some (.cells #[.bool false, .slice none 0 0] 43 (0, 0))) := ⟨h5_⟩
                   have n6_ : Aside0 (w55.heap[gb223]? = some (.cells #[.bool false, .slice none 0 0] 43 (0, 0))) := ⟨h6_⟩
                   have n7_ : Aside0 (w55.heap[gb238]? = some (.cells #[.bool false, .slice none 0 0] 43 (0, 0))) := ⟨h7_⟩
                   have n8_ : Aside0 (w.heap.size ≤ gb238) := ⟨h8_⟩
                   have n9_ : Aside0 (w.heap.size ≤ gb238) := ⟨h9_⟩
                   have n10_ : Aside0 (gb220 ≠ gb238) := ⟨h10_⟩
                   have n11_ : Aside0 (gb238 ≠ gb220) := ⟨h11_⟩
                   have n12_ : Aside0 (gb221 ≠ gb238) := ⟨h12_⟩
                   have n13_ : Aside0 (gb238 ≠ gb221) := ⟨h13_⟩
                   have n14_ : Aside0 (gb222 ≠ gb238) := ⟨h14_⟩
                   have n15_ : Aside0 (gb238 ≠ gb222) := ⟨h15_⟩
                   have n16_ : Aside0 (gb223 ≠ gb238) := ⟨h16_⟩
                   have n17_ : Aside0 (gb238 ≠ gb223) := ⟨h17_⟩
                   have n18_ : Aside0 (Below w.heap.size w w55) := ⟨h18_⟩
                   clear HO0_1
                   clear HO226
                   clear HO229
                   clear BK220
                   clear BK221
                   clear BK222
                   clear BK223
                   clear HB
                   clear h0_ h1_ h2_ h3_ h4_ h5_ h6_ h7_ h8_ h9_ h10_ h11_ h12_ h13_ h14_ h15_ h16_ h17_ h18_
                   have HO0_1 := n0_
                   have HO226 := n1_
                   have HO229 := n2_
                   have BK220 := n3_
                   have BK221 := n4_
                   have BK222 := n5_
                   have BK223 := n6_
                   have BK238 := n7_
                   have GW238 := n8_
                   have GE238 := n9_
                   have NB220_238 := n10_
                   have NB238_220 := n11_
                   have NB221_238 := n12_
                   have NB238_221 := n13_
                   have NB222_238 := n14_
                   have NB238_222 := n15_
                   have NB223_238 := n16_
                   have NB238_223 := n17_
                   have HB := n18_
                   clear n0_ n1_ n2_ n3_ n4_ n5_ n6_ n7_ n8_ n9_ n10_ n11_ n12_ n13_ n14_ n15_ n16_ n17_ n18_
                   refine norm_ (a' := ?_) ?_ ?_
                   rotate_left
                   · simp only [putAll, Act.put, z1, z2, z3]
                     rfl
                   refine two_ (i := 6) (j := 12) (Ni := some 24) (Nj := some 9) #[true,true,true,true,true,true,true,true,true,true,false,true,false,false,false] #[true,true,true,true,true,true,false,true,true,true,false,true,true,false,false] rfl rfl rfl rfl (two_of HT_.out (by kernel_rfl)) (by decide) (by decide) (fun K hK => ?_) (fun K hK => ?_)
                   · skip
                     refine goes_ Try.func68 (by kernel_rfl) rfl #[.bool (a0_0 != a1_0), .slice Ao51 t224.length co51] (by rfl) rfl rfl (by (try simp only [List.map_toArray, List.map_cons, List.map_nil]); first | done | rfl | (simp only [List.length_drop, List.length_take]; rfl)) ?_
                     with_reducible refine (exact_made.calls (a0_0 != a1_0) (fun k_ => ((P0_1_ k_ ∨ w.heap.size ≤ k_) ∧ (k_ ≠ gb220 ∧ (k_ ≠ gb221 ∧ (k_ ≠ gb222 ∧ (k_ ≠ gb223 ∧ k_ ≠ gb238)))))) _ _ t224 t230 t231 _ ?side1 A4.out).mono ?_
                     (case side1 => exact HO226.out)
                     rintro e w56 ⟨v232, rfl, ho0, hb⟩
                     refine ⟨_, rfl, ?_⟩
                     have n0_ := Aside0.mk (vb HO0_1.out hb)
                     have n1_ := Aside0.mk (vb HO226.out hb)
                     have n2_ := Aside0.mk (vb HO229.out hb)
                     have n3_ := Aside0.mk (Kd.V_lower (Kd.V_mono (ok' := fun k_ => (P0_1_ k_ ∨ w.heap.size ≤ k_) ∧ k_ ≠ gb220 ∧ k_ ≠ gb221 ∧ k_ ≠ gb222 ∧ k_ ≠ gb223 ∧ k_ ≠ gb238) ho0 (fun k_ hk_ => ⟨Or.elim hk_ (fun hs_ => hs_.1) (fun hn_ => (.inr (Nat.le_trans (below_size bl) hn_))), Or.elim hk_ (fun hs_ => hs_.2.1) (fun hn_ => (Kd.freshB (g := gb220) (o := .cells #[.bool a0_0, .slice A0_1 l0_1.length c0_1] 43 (0, 0)) (bk BK220.out) k_ hn_)), Or.elim hk_ (fun hs_ => hs_.2.2.1) (fun hn_ => (Kd.freshB (g := gb221) (o := .cells #[.bool a1_0, .slice A1_1 l1_1.length c1_1] 43 (0, 0)) (bk BK221.out) k_ hn_)), Or.elim hk_ (fun hs_ => hs_.2.2.2.1) (fun hn_ => (Kd.freshB (g := gb222) (o := .cells #[.bool false, .slice none 0 0] 43 (0, 0)) (bk BK222.out) k_ hn_)), Or.elim hk_ (fun hs_ => hs_.2.2.2.2.1) (fun hn_ => (Kd.freshB (g := gb223) (o := .cells #[.bool false, .slice none 0 0] 43 (0, 0)) (bk BK223.out) k_ hn_)), Or.elim hk_ (fun hs_ => hs_.2.2.2.2.2) (fun hn_ => (Kd.freshB (g := gb238) (o := .cells #[.bool false, .slice none 0 0] 43 (0, 0)) (bk BK238.out) k_ hn_))⟩)) (below_size bl))
                     have n4_ := Aside0.mk (bb BK220.out hb)
                     have n5_ := Aside0.mk (bb BK221.out hb)
                     have n6_ := Aside0.mk (bb BK222.out hb)
                     have n7_ := Aside0.mk (bb BK223.out hb)
                     have n8_ := Aside0.mk (bb BK238.out hb)
                     have n9_ := Aside0.mk (below_step bl hb)
                     clear HO0_1
                     clear HO226
                     clear HO229
                     clear BK220
                     clear BK221
                     clear BK222
                     clear BK223
                     clear BK238
                     clear HB
                     have HO0_1 := n0_
                     have HO226 := n1_
                     have HO229 := n2_
                     have HO233 := n3_
                     have BK220 := n4_
                     have BK221 := n5_
                     have BK222 := n6_
                     have BK223 := n7_
                     have BK238 := n8_
                     have HB := n9_
                     clear n0_ n1_ n2_ n3_ n4_ n5_ n6_ n7_ n8_ n9_
                     (try clear hb)
                     (try clear hb2)
                     (try clear hk)
                     (try clear hi)
                     (try clear ho0)
                     refine hK.out _ _ ⟨(blk_cell BK220.out 0).trans rfl, (blk_cell BK220.out 1).trans rfl, (blk_cell BK221.out 0).trans rfl, (blk_cell BK221.out 1).trans rfl⟩ (fun hHeld => ?_)
                     clear hK K
                     refine norm_ (a' := ?_) ?_ ?_
                     rotate_left; focus (show Act.put _ (some 24) _ = _; simp only [Act.put, z1, z2, z3, i64_w, i32_w]; rfl)
                     exact norm_ (by first | (simp only [putAll, Act.put, z1, z2, z3]; done) | (simp only [putAll, Act.put, z1, z2, z3]; rfl)) (hJ6_11 (v232, gb238) _ ⟨hHeld, (by (with_reducible repeat (first | apply Kd.V_alloc | apply Kd.V_drewN | apply Kd.V_drew)); exact HO0_1.out), (by (with_reducible repeat (first | apply Kd.V_alloc | apply Kd.V_drewN | apply Kd.V_drew)); exact HO226.out), (by (with_reducible repeat (first | apply Kd.V_alloc | apply Kd.V_drewN | apply Kd.V_drew)); exact HO229.out), (by (with_reducible repeat (first | apply Kd.V_alloc | apply Kd.V_drewN | apply Kd.V_drew)); exact HO233.out), (bk BK220.out), (bk BK221.out), (bk BK222.out), (bk BK223.out), (bk BK238.out), GW238.out, GE238.out, NB220_238.out, NB238_220.out, NB221_238.out, NB238_221.out, NB222_238.out, NB238_222.out, NB223_238.out, NB238_223.out, bl⟩)
                   skip
                   refine box_step ?hg (N := 9) ?hd (cs := #[.bool false, .slice none 0 0]) (t := 43) ?hr ?_; (case hd => rfl); (case hg => rfl); (case hr => first | (go_simp; done) | (go_simp; rfl))
                   intro gb239 hg w56 hbox hb
                   have n0_ := Aside0.mk (Kd.V_below (Kd.V_elderB (by (with_reducible repeat (first | apply Kd.V_alloc | apply Kd.V_drewN | apply Kd.V_drew)); exact HO0_1.out) gb239 (Nat.le_of_eq hg.symm)) hb)
                   have n1_ := Aside0.mk (Kd.V_below (Kd.V_elderB (by (with_reducible repeat (first | apply Kd.V_alloc | apply Kd.V_drewN | apply Kd.V_drew)); exact HO226.out) gb239 (Nat.le_of_eq hg.symm)) hb)
                   have n2_ := Aside0.mk (Kd.V_below (Kd.V_elderB (by (with_reducible repeat (first | apply Kd.V_alloc | apply Kd.V_drewN | apply Kd.V_drew)); exact HO229.out) gb239 (Nat.le_of_eq hg.symm)) hb)
                   have n3_ := Aside0.mk (bb BK220.out hb)
                   have n4_ := Aside0.mk (bb BK221.out hb)
                   have n5_ := Aside0.mk (bb BK222.out hb)
                   have n6_ := Aside0.mk (bb BK223.out hb)
                   have n7_ := Aside0.mk (bb BK238.out hb)
                   have n8_ := Aside0.mk (below_step bl hb)
                   have n9_ := Aside0.mk (hbox)
                   have n10_ := Aside0.mk (ge (w := w) hg)
                   have n11_ := Aside0.mk (ge (w := w) hg)
                   have n12_ := Aside0.mk (nl hg (bk BK220.out))
                   have n13_ := Aside0.mk (ng hg (bk BK220.out))
                   have n14_ := Aside0.mk (nl hg (bk BK221.out))
                   have n15_ := Aside0.mk (ng hg (bk BK221.out))
                   have n16_ := Aside0.mk (nl hg (bk BK222.out))
                   have n17_ := Aside0.mk (ng hg (bk BK222.out))
                   have n18_ := Aside0.mk (nl hg (bk BK223.out))
                   have n19_ := Aside0.mk (ng hg (bk BK223.out))
                   have n20_ := Aside0.mk (nl hg (bk BK238.out))
                   have n21_ := Aside0.mk (ng hg (bk BK238.out))
                   clear HO0_1
                   clear HO226
                   clear HO229
                   clear BK220
                   clear BK221
                   clear BK222
                   clear BK223
                   clear BK238
                   clear HB
                   have HO0_1 := n0_
                   have HO226 := n1_
                   have HO229 := n2_
                   have BK220 := n3_
                   have BK221 := n4_
                   have BK222 := n5_
                   have BK223 := n6_
                   have BK238 := n7_
                   have HB := n8_
                   have BK239 := n9_
                   have GW239 := n10_
                   have GE239 := n11_
                   have NB220_239 := n12_
                   have NB239_220 := n13_
                   have NB221_239 := n14_
                   have NB239_221 := n15_
                   have NB222_239 := n16_
                   have NB239_222 := n17_
                   have NB223_239 := n18_
                   have NB239_223 := n19_
                   have NB238_239 := n20_
                   have NB239_238 := n21_
                   clear n0_ n1_ n2_ n3_ n4_ n5_ n6_ n7_ n8_ n9_ n10_ n11_ n12_ n13_ n14_ n15_ n16_ n17_ n18_ n19_ n20_ n21_
                   clear hb hbox hg
                   refine hK.out _ _ ⟨(blk_cell BK220.out 0).trans rfl, (blk_cell BK220.out 1).trans rfl, (blk_cell BK221.out 0).trans rfl, (blk_cell BK221.out 1).trans rfl⟩ (fun hHeld => ?_)
                   clear hK K
                   refine norm_ (a' := ?_) ?_ ?_
                   rotate_left; focus (show Act.put _ (some 9) _ = _; simp only [Act.put, z1, z2, z3, i64_w, i32_w]; rfl)
                   exact norm_ (by first | (simp only [putAll, Act.put, z1, z2, z3]; done) | (simp only [putAll, Act.put, z1, z2, z3]; rfl)) (hJ11_12 (gb238, gb239) _ ⟨hHeld, (by (with_reducible repeat (first | apply Kd.V_alloc | apply Kd.V_drewN | apply Kd.V_drew)); exact Kd.V_mono HO0_1.out (fun _ hk => ⟨hk.1.1, ⟨hk.1.2.1, ⟨hk.1.2.2.1, ⟨hk.1.2.2.2.1, ⟨hk.1.2.2.2.2.1, ⟨hk.1.2.2.2.2.2, hk.2⟩⟩⟩⟩⟩⟩)), (by (with_reducible repeat (first | apply Kd.V_alloc | apply Kd.V_drewN | apply Kd.V_drew)); exact Kd.V_mono HO226.out (fun _ hk => ⟨hk.1.1, ⟨hk.1.2.1, ⟨hk.1.2.2.1, ⟨hk.1.2.2.2.1, ⟨hk.1.2.2.2.2.1, ⟨hk.1.2.2.2.2.2, hk.2⟩⟩⟩⟩⟩⟩)), (by (with_reducible repeat (first | apply Kd.V_alloc | apply Kd.V_drewN | apply Kd.V_drew)); exact Kd.V_mono HO229.out (fun _ hk => ⟨hk.1.1, ⟨hk.1.2.1, ⟨hk.1.2.2.1, ⟨hk.1.2.2.2.1, ⟨hk.1.2.2.2.2.1, ⟨hk.1.2.2.2.2.2, hk.2⟩⟩⟩⟩⟩⟩)), (bk BK220.out), (bk BK221.out), (bk BK222.out), (bk BK223.out), (bk BK238.out), (bk BK239.out), GW238.out, GE238.out, NB220_238.out, NB238_220.out, NB221_238.out, NB238_221.out, NB222_238.out, NB238_222.out, NB223_238.out, NB238_223.out, NB239_238.out, NB238_239.out, GW239.out, GE239.out, NB220_239.out, NB239_220.out, NB221_239.out, NB239_221.out, NB222_239.out, NB239_222.out, NB223_239.out, NB239_223.out, bl⟩)
                 skip
                 rintro v232 w55 ⟨hS_, h0_, h1_, h2_, h3_, h4_, h5_, h6_, h7_, h8_⟩
                 have n0_ : Aside0 (Kd.V (Kd.int .u32) 97 w55 w.heap.size (fun k_ => (P0_1_ k_ ∨ w.heap.size ≤ k_) ∧ k_ ≠ gb220 ∧ k_ ≠ gb221 ∧ k_ ≠ gb222 ∧ k_ ≠ gb223) (.slice A0_1 l0_1.length c0_1) l0_1) := ⟨h0_⟩
                 have n1_ : Aside0 (Kd.V (Kd.int .u32) 97 w55 w.heap.size (fun k_ => (P0_1_ k_ ∨ w.heap.size ≤ k_) ∧ k_ ≠ gb220 ∧ k_ ≠ gb221 ∧ k_ ≠ gb222 ∧ k_ ≠ gb223) (.slice Ao51 t224.length co51) t224) := ⟨h1_⟩
                 have n2_ : Aside0 (Kd.V (Kd.int .u32) 97 w55 w.heap.size (fun k_ => (P0_1_ k_ ∨ w.heap.size ≤ k_) ∧ k_ ≠ gb220 ∧ k_ ≠ gb221 ∧ k_ ≠ gb222 ∧ k_ ≠ gb223) (.slice Ao52 t227.length co52) t227) := ⟨h2_⟩
                 have n3_ : Aside0 (Kd.V (Kd.int .u32) 97 w55 w.heap.size (fun k_ => (P0_1_ k_ ∨ w.heap.size ≤ k_) ∧ k_ ≠ gb220 ∧ k_ ≠ gb221 ∧ k_ ≠ gb222 ∧ k_ ≠ gb223) v232 t231) := ⟨h3_⟩
                 have n4_ : Aside0 (w55.heap[gb220]? = some (.cells #[.bool a0_0, .slice A0_1 l0_1.length c0_1] 43 (0, 0))) := ⟨h4_⟩
                 have n5_ : Aside0 (w55.heap[gb221]? = some (.cells #[.bool a1_0, .slice A1_1 l1_1.length c1_1] 43 (0, 0))) := ⟨h5_⟩
                 have n6_ : Aside0 (w55.heap[gb222]? = some (.cells #[.bool false, .slice none 0 0] 43 (0, 0))) := ⟨h6_⟩
                 have n7_ : Aside0 (w55.heap[gb223]? = some (.cells #[.bool false, .slice none 0 0] 43 (0, 0))) := ⟨h7_⟩
                 have n8_ : Aside0 (Below w.heap.size w w55) := ⟨h8_⟩
                 clear HO0_1
                 clear HO226
                 clear HO229
                 clear BK220
                 clear BK221
                 clear BK222
                 clear BK223
                 clear HB
                 clear h0_ h1_ h2_ h3_ h4_ h5_ h6_ h7_ h8_
                 have HO0_1 := n0_
                 have HO226 := n1_
                 have HO229 := n2_
                 have HO233 := n3_
                 have BK220 := n4_
                 have BK221 := n5_
                 have BK222 := n6_
                 have BK223 := n7_
                 have HB := n8_
                 clear n0_ n1_ n2_ n3_ n4_ n5_ n6_ n7_ n8_
                 refine norm_ (a' := ?_) ?_ ?_
                 rotate_left
                 · simp only [putAll, Act.put, z1, z2, z3]
                   rfl
                 refine three_ (i := 10) (j := 11) (k := 12) (Ni := some 28) (Nj := some 8) (Nk := some 9) (zb 11 4) #[true,true,true,true,true,true,true,true,true,true,false,true,false,false,false] #[true,true,true,true,true,true,true,true,true,true,false,false,true,false,false] rfl rfl rfl rfl rfl rfl (three_of HT_.out (by kernel_rfl)) (by decide) (by decide) (by decide) (fun K hK => ?_) (fun K hK => ?_) (fun K hK => ?_)
                 · skip
                   refine goes_ Try.func68 (by kernel_rfl) rfl #[.bool a0_0, .slice Ao52 t227.length co52] (by rfl) rfl rfl (by (try simp only [List.map_toArray, List.map_cons, List.map_nil]); first | done | rfl | (simp only [List.length_drop, List.length_take]; rfl)) ?_
                   with_reducible refine (exact_made.calls a0_0 (fun k_ => ((P0_1_ k_ ∨ w.heap.size ≤ k_) ∧ (k_ ≠ gb220 ∧ (k_ ≠ gb221 ∧ (k_ ≠ gb222 ∧ k_ ≠ gb223))))) _ _ t227 false t235 _ ?side1 A5.out).mono ?_
                   (case side1 => exact HO229.out)
                   rintro e w56 ⟨v236, rfl, ho0, hb⟩
                   refine ⟨_, rfl, ?_⟩
                   have n0_ := Aside0.mk (vb HO0_1.out hb)
                   have n1_ := Aside0.mk (vb HO226.out hb)
                   have n2_ := Aside0.mk (vb HO229.out hb)
                   have n3_ := Aside0.mk (vb HO233.out hb)
                   have n4_ := Aside0.mk (Kd.V_lower (Kd.V_mono (ok' := fun k_ => (P0_1_ k_ ∨ w.heap.size ≤ k_) ∧ k_ ≠ gb220 ∧ k_ ≠ gb221 ∧ k_ ≠ gb222 ∧ k_ ≠ gb223) ho0 (fun k_ hk_ => ⟨Or.elim hk_ (fun hs_ => hs_.1) (fun hn_ => (.inr (Nat.le_trans (below_size bl) hn_))), Or.elim hk_ (fun hs_ => hs_.2.1) (fun hn_ => (Kd.freshB (g := gb220) (o := .cells #[.bool a0_0, .slice A0_1 l0_1.length c0_1] 43 (0, 0)) (bk BK220.out) k_ hn_)), Or.elim hk_ (fun hs_ => hs_.2.2.1) (fun hn_ => (Kd.freshB (g := gb221) (o := .cells #[.bool a1_0, .slice A1_1 l1_1.length c1_1] 43 (0, 0)) (bk BK221.out) k_ hn_)), Or.elim hk_ (fun hs_ => hs_.2.2.2.1) (fun hn_ => (Kd.freshB (g := gb222) (o := .cells #[.bool false, .slice none 0 0] 43 (0, 0)) (bk BK222.out) k_ hn_)), Or.elim hk_ (fun hs_ => hs_.2.2.2.2) (fun hn_ => (Kd.freshB (g := gb223) (o := .cells #[.bool false, .slice none 0 0] 43 (0, 0)) (bk BK223.out) k_ hn_))⟩)) (below_size bl))
                   have n5_ := Aside0.mk (bb BK220.out hb)
                   have n6_ := Aside0.mk (bb BK221.out hb)
                   have n7_ := Aside0.mk (bb BK222.out hb)
                   have n8_ := Aside0.mk (bb BK223.out hb)
                   have n9_ := Aside0.mk (below_step bl hb)
                   clear HO0_1
                   clear HO226
                   clear HO229
                   clear HO233
                   clear BK220
                   clear BK221
                   clear BK222
                   clear BK223
                   clear HB
                   have HO0_1 := n0_
                   have HO226 := n1_
                   have HO229 := n2_
                   have HO233 := n3_
                   have HO237 := n4_
                   have BK220 := n5_
                   have BK221 := n6_
                   have BK222 := n7_
                   have BK223 := n8_
                   have HB := n9_
                   clear n0_ n1_ n2_ n3_ n4_ n5_ n6_ n7_ n8_ n9_
                   (try clear hb)
                   (try clear hb2)
                   (try clear hk)
                   (try clear hi)
                   (try clear ho0)
                   refine hK.out _ _ ⟨(blk_cell BK220.out 0).trans rfl, (blk_cell BK220.out 1).trans rfl, (blk_cell BK221.out 0).trans rfl, (blk_cell BK221.out 1).trans rfl⟩ (fun hHeld => ?_)
                   clear hK K
                   refine norm_ (a' := ?_) ?_ ?_
                   rotate_left; focus (show Act.put _ (some 28) _ = _; simp only [Act.put, z1, z2, z3, i64_w, i32_w]; rfl)
                   exact norm_ (by first | (simp only [putAll, Act.put, z1, z2, z3]; done) | (simp only [putAll, Act.put, z1, z2, z3]; rfl)) (hJ6_10 (v232, v236) _ ⟨hHeld, (by (with_reducible repeat (first | apply Kd.V_alloc | apply Kd.V_drewN | apply Kd.V_drew)); exact HO0_1.out), (by (with_reducible repeat (first | apply Kd.V_alloc | apply Kd.V_drewN | apply Kd.V_drew)); exact HO226.out), (by (with_reducible repeat (first | apply Kd.V_alloc | apply Kd.V_drewN | apply Kd.V_drew)); exact HO229.out), (by (with_reducible repeat (first | apply Kd.V_alloc | apply Kd.V_drewN | apply Kd.V_drew)); exact HO233.out), (by (with_reducible repeat (first | apply Kd.V_alloc | apply Kd.V_drewN | apply Kd.V_drew)); exact HO237.out), (bk BK220.out), (bk BK221.out), (bk BK222.out), (bk BK223.out), bl⟩)
                 · skip
                   refine box_step ?hg (N := 8) ?hd (cs := #[.bool false, .slice none 0 0]) (t := 43) ?hr ?_; (case hd => rfl); (case hg => rfl); (case hr => first | (go_simp; done) | (go_simp; rfl))
                   intro gb238 hg w56 hbox hb
                   have n0_ := Aside0.mk (Kd.V_below (Kd.V_elderB (by (with_reducible repeat (first | apply Kd.V_alloc | apply Kd.V_drewN | apply Kd.V_drew)); exact HO0_1.out) gb238 (Nat.le_of_eq hg.symm)) hb)
                   have n1_ := Aside0.mk (Kd.V_below (Kd.V_elderB (by (with_reducible repeat (first | apply Kd.V_alloc | apply Kd.V_drewN | apply Kd.V_drew)); exact HO226.out) gb238 (Nat.le_of_eq hg.symm)) hb)
                   have n2_ := Aside0.mk (Kd.V_below (Kd.V_elderB (by (with_reducible repeat (first | apply Kd.V_alloc | apply Kd.V_drewN | apply Kd.V_drew)); exact HO229.out) gb238 (Nat.le_of_eq hg.symm)) hb)
                   have n3_ := Aside0.mk (Kd.V_below (Kd.V_elderB (by (with_reducible repeat (first | apply Kd.V_alloc | apply Kd.V_drewN | apply Kd.V_drew)); exact HO233.out) gb238 (Nat.le_of_eq hg.symm)) hb)
                   have n4_ := Aside0.mk (bb BK220.out hb)
                   have n5_ := Aside0.mk (bb BK221.out hb)
                   have n6_ := Aside0.mk (bb BK222.out hb)
                   have n7_ := Aside0.mk (bb BK223.out hb)
                   have n8_ := Aside0.mk (below_step bl hb)
                   have n9_ := Aside0.mk (hbox)
                   have n10_ := Aside0.mk (ge (w := w) hg)
                   have n11_ := Aside0.mk (ge (w := w) hg)
                   have n12_ := Aside0.mk (nl hg (bk BK220.out))
                   have n13_ := Aside0.mk (ng hg (bk BK220.out))
                   have n14_ := Aside0.mk (nl hg (bk BK221.out))
                   have n15_ := Aside0.mk (ng hg (bk BK221.out))
                   have n16_ := Aside0.mk (nl hg (bk BK222.out))
                   have n17_ := Aside0.mk (ng hg (bk BK222.out))
                   have n18_ := Aside0.mk (nl hg (bk BK223.out))
                   have n19_ := Aside0.mk (ng hg (bk BK223.out))
                   clear HO0_1
                   clear HO226
                   clear HO229
                   clear HO233
                   clear BK220
                   clear BK221
                   clear BK222
                   clear BK223
                   clear HB
                   have HO0_1 := n0_
                   have HO226 := n1_
                   have HO229 := n2_
                   have HO233 := n3_
                   have BK220 := n4_
                   have BK221 := n5_
                   have BK222 := n6_
                   have BK223 := n7_
                   have HB := n8_
                   have BK238 := n9_
                   have GW238 := n10_
                   have GE238 := n11_
                   have NB220_238 := n12_
                   have NB238_220 := n13_
                   have NB221_238 := n14_
                   have NB238_221 := n15_
                   have NB222_238 := n16_
                   have NB238_222 := n17_
                   have NB223_238 := n18_
                   have NB238_223 := n19_
                   clear n0_ n1_ n2_ n3_ n4_ n5_ n6_ n7_ n8_ n9_ n10_ n11_ n12_ n13_ n14_ n15_ n16_ n17_ n18_ n19_
                   clear hb hbox hg
                   refine hK.out _ _ ⟨(blk_cell BK220.out 0).trans rfl, (blk_cell BK220.out 1).trans rfl, (blk_cell BK221.out 0).trans rfl, (blk_cell BK221.out 1).trans rfl⟩ (fun hHeld => ?_)
                   clear hK K
                   refine norm_ (a' := ?_) ?_ ?_
                   rotate_left; focus (show Act.put _ (some 8) _ = _; simp only [Act.put, z1, z2, z3, i64_w, i32_w]; rfl)
                   exact norm_ (by first | (simp only [putAll, Act.put, z1, z2, z3]; done) | (simp only [putAll, Act.put, z1, z2, z3]; rfl)) (hJ6_11 (v232, gb238) _ ⟨hHeld, (by (with_reducible repeat (first | apply Kd.V_alloc | apply Kd.V_drewN | apply Kd.V_drew)); exact Kd.V_mono HO0_1.out (fun _ hk => ⟨hk.1.1, ⟨hk.1.2.1, ⟨hk.1.2.2.1, ⟨hk.1.2.2.2.1, ⟨hk.1.2.2.2.2, hk.2⟩⟩⟩⟩⟩)), (by (with_reducible repeat (first | apply Kd.V_alloc | apply Kd.V_drewN | apply Kd.V_drew)); exact Kd.V_mono HO226.out (fun _ hk => ⟨hk.1.1, ⟨hk.1.2.1, ⟨hk.1.2.2.1, ⟨hk.1.2.2.2.1, ⟨hk.1.2.2.2.2, hk.2⟩⟩⟩⟩⟩)), (by (with_reducible repeat (first | apply Kd.V_alloc | apply Kd.V_drewN | apply Kd.V_drew)); exact Kd.V_mono HO229.out (fun _ hk => ⟨hk.1.1, ⟨hk.1.2.1, ⟨hk.1.2.2.1, ⟨hk.1.2.2.2.1, ⟨hk.1.2.2.2.2, hk.2⟩⟩⟩⟩⟩)), (by (with_reducible repeat (first | apply Kd.V_alloc | apply Kd.V_drewN | apply Kd.V_drew)); exact Kd.V_mono HO233.out (fun _ hk => ⟨hk.1.1, ⟨hk.1.2.1, ⟨hk.1.2.2.1, ⟨hk.1.2.2.2.1, ⟨hk.1.2.2.2.2, hk.2⟩⟩⟩⟩⟩)), (bk BK220.out), (bk BK221.out), (bk BK222.out), (bk BK223.out), (bk BK238.out), GW238.out, GE238.out, NB220_238.out, NB238_220.out, NB221_238.out, NB238_221.out, NB222_238.out, NB238_222.out, NB223_238.out, NB238_223.out, bl⟩)
                 skip
                 refine box_step ?hg (N := 9) ?hd (cs := #[.bool false, .slice none 0 0]) (t := 43) ?hr ?_; (case hd => rfl); (case hg => rfl); (case hr => first | (go_simp; done) | (go_simp; rfl))
                 intro gb239 hg w56 hbox hb
                 have n0_ := Aside0.mk (Kd.V_below (Kd.V_elderB (by (with_reducible repeat (first | apply Kd.V_alloc | apply Kd.V_drewN | apply Kd.V_drew)); exact HO0_1.out) gb239 (Nat.le_of_eq hg.symm)) hb)
                 have n1_ := Aside0.mk (Kd.V_below (Kd.V_elderB (by (with_reducible repeat (first | apply Kd.V_alloc | apply Kd.V_drewN | apply Kd.V_drew)); exact HO226.out) gb239 (Nat.le_of_eq hg.symm)) hb)
                 have n2_ := Aside0.mk (Kd.V_below (Kd.V_elderB (by (with_reducible repeat (first | apply Kd.V_alloc | apply Kd.V_drewN | apply Kd.V_drew)); exact HO229.out) gb239 (Nat.le_of_eq hg.symm)) hb)
                 have n3_ := Aside0.mk (Kd.V_below (Kd.V_elderB (by (with_reducible repeat (first | apply Kd.V_alloc | apply Kd.V_drewN | apply Kd.V_drew)); exact HO233.out) gb239 (Nat.le_of_eq hg.symm)) hb)
                 have n4_ := Aside0.mk (bb BK220.out hb)
                 have n5_ := Aside0.mk (bb BK221.out hb)
                 have n6_ := Aside0.mk (bb BK222.out hb)
                 have n7_ := Aside0.mk (bb BK223.out hb)
                 have n8_ := Aside0.mk (below_step bl hb)
                 have n9_ := Aside0.mk (hbox)
                 have n10_ := Aside0.mk (ge (w := w) hg)
                 have n11_ := Aside0.mk (ge (w := w) hg)
                 have n12_ := Aside0.mk (nl hg (bk BK220.out))
                 have n13_ := Aside0.mk (ng hg (bk BK220.out))
                 have n14_ := Aside0.mk (nl hg (bk BK221.out))
                 have n15_ := Aside0.mk (ng hg (bk BK221.out))
                 have n16_ := Aside0.mk (nl hg (bk BK222.out))
                 have n17_ := Aside0.mk (ng hg (bk BK222.out))
                 have n18_ := Aside0.mk (nl hg (bk BK223.out))
                 have n19_ := Aside0.mk (ng hg (bk BK223.out))
                 clear HO0_1
                 clear HO226
                 clear HO229
                 clear HO233
                 clear BK220
                 clear BK221
                 clear BK222
                 clear BK223
                 clear HB
                 have HO0_1 := n0_
                 have HO226 := n1_
                 have HO229 := n2_
                 have HO233 := n3_
                 have BK220 := n4_
                 have BK221 := n5_
                 have BK222 := n6_
                 have BK223 := n7_
                 have HB := n8_
                 have BK239 := n9_
                 have GW239 := n10_
                 have GE239 := n11_
                 have NB220_239 := n12_
                 have NB239_220 := n13_
                 have NB221_239 := n14_
                 have NB239_221 := n15_
                 have NB222_239 := n16_
                 have NB239_222 := n17_
                 have NB223_239 := n18_
                 have NB239_223 := n19_
                 clear n0_ n1_ n2_ n3_ n4_ n5_ n6_ n7_ n8_ n9_ n10_ n11_ n12_ n13_ n14_ n15_ n16_ n17_ n18_ n19_
                 clear hb hbox hg
                 refine hK.out _ _ ⟨(blk_cell BK220.out 0).trans rfl, (blk_cell BK220.out 1).trans rfl, (blk_cell BK221.out 0).trans rfl, (blk_cell BK221.out 1).trans rfl⟩ (fun hHeld => ?_)
                 clear hK K
                 refine norm_ (a' := ?_) ?_ ?_
                 rotate_left; focus (show Act.put _ (some 9) _ = _; simp only [Act.put, z1, z2, z3, i64_w, i32_w]; rfl)
                 exact norm_ (by first | (simp only [putAll, Act.put, z1, z2, z3]; done) | (simp only [putAll, Act.put, z1, z2, z3]; rfl)) (hJ6_12 (v232, gb239) _ ⟨hHeld, (by (with_reducible repeat (first | apply Kd.V_alloc | apply Kd.V_drewN | apply Kd.V_drew)); exact Kd.V_mono HO0_1.out (fun _ hk => ⟨hk.1.1, ⟨hk.1.2.1, ⟨hk.1.2.2.1, ⟨hk.1.2.2.2.1, ⟨hk.1.2.2.2.2, hk.2⟩⟩⟩⟩⟩)), (by (with_reducible repeat (first | apply Kd.V_alloc | apply Kd.V_drewN | apply Kd.V_drew)); exact Kd.V_mono HO226.out (fun _ hk => ⟨hk.1.1, ⟨hk.1.2.1, ⟨hk.1.2.2.1, ⟨hk.1.2.2.2.1, ⟨hk.1.2.2.2.2, hk.2⟩⟩⟩⟩⟩)), (by (with_reducible repeat (first | apply Kd.V_alloc | apply Kd.V_drewN | apply Kd.V_drew)); exact Kd.V_mono HO229.out (fun _ hk => ⟨hk.1.1, ⟨hk.1.2.1, ⟨hk.1.2.2.1, ⟨hk.1.2.2.2.1, ⟨hk.1.2.2.2.2, hk.2⟩⟩⟩⟩⟩)), (by (with_reducible repeat (first | apply Kd.V_alloc | apply Kd.V_drewN | apply Kd.V_drew)); exact Kd.V_mono HO233.out (fun _ hk => ⟨hk.1.1, ⟨hk.1.2.1, ⟨hk.1.2.2.1, ⟨hk.1.2.2.2.1, ⟨hk.1.2.2.2.2, hk.2⟩⟩⟩⟩⟩)), (bk BK220.out), (bk BK221.out), (bk BK222.out), (bk BK223.out), (bk BK239.out), GW239.out, GE239.out, NB220_239.out, NB239_220.out, NB221_239.out, NB239_221.out, NB222_239.out, NB239_222.out, NB223_239.out, NB239_223.out, bl⟩)
               skip
               rintro ⟨gb238, gb239⟩ w56 ⟨hS_, h0_, h1_, h2_, h3_, h4_, h5_, h6_, h7_, h8_, h9_, h10_, h11_, h12_, h13_, h14_, h15_, h16_, h17_, h18_, h19_, h20_, h21_, h22_, h23_, h24_, h25_, h26_, h27_, h28_, h29_, h30_, h31_⟩
               have n0_ : Aside0 (Kd.V (Kd.int .u32) 97 w56 w.heap.size (fun k_ => (P0_1_ k_ ∨ w.heap.size ≤ k_) ∧ k_ ≠ gb220 ∧ k_ ≠ gb221 ∧ k_ ≠ gb222 ∧ k_ ≠ gb223 ∧ k_ ≠ gb238 ∧ k_ ≠ gb239) (.slice A0_1 l0_1.length c0_1) l0_1) := ⟨h0_⟩
               have n1_ : Aside0 (Kd.V (Kd.int .u32) 97 w56 w.heap.size (fun k_ => (P0_1_ k_ ∨ w.heap.size ≤ k_) ∧ k_ ≠ gb220 ∧ k_ ≠ gb221 ∧ k_ ≠ gb222 ∧ k_ ≠ gb223 ∧ k_ ≠ gb238 ∧ k_ ≠ gb239) (.slice Ao51 t224.length co51) t224) := ⟨h1_⟩
               have n2_ : Aside0 (Kd.V (Kd.int .u32) 97 w56 w.heap.size (fun k_ => (P0_1_ k_ ∨ w.heap.size ≤ k_) ∧ k_ ≠ gb220 ∧ k_ ≠ gb221 ∧ k_ ≠ gb222 ∧ k_ ≠ gb223 ∧ k_ ≠ gb238 ∧ k_ ≠ gb239) (.slice Ao52 t227.length co52) t227) := ⟨h2_⟩
               have n3_ : Aside0 (w56.heap[gb220]? = some (.cells #[.bool a0_0, .slice A0_1 l0_1.length c0_1] 43 (0, 0))) := ⟨h3_⟩
               have n4_ : Aside0 (w56.heap[gb221]? = some (.cells #[.bool a1_0, .slice A1_1 l1_1.length c1_1] 43 (0, 0))) := ⟨h4_⟩
               have n5_ : Aside0 (w56.heap[gb222]? = some (.cells #[.bool false, .slice none 0 0] 43 (0, 0))) := ⟨h5_⟩
               have n6_ : Aside0 (w56.heap[gb223]? = some (.cells #[.bool false, .slice none 0 0] 43 (0, 0))) := ⟨h6_⟩
               have n7_ : Aside0 (w56.heap[gb238]? = some (.cells #[.bool false, .slice none 0 0] 43 (0, 0))) := ⟨h7_⟩
               have n8_ : Aside0 (w56.heap[gb239]? = some (.cells #[.bool false, .slice none 0 0] 43 (0, 0))) := ⟨h8_⟩
               have n9_ : Aside0 (w.heap.size ≤ gb238) := ⟨h9_⟩
               have n10_ : Aside0 (w.heap.size ≤ gb238) := ⟨h10_⟩
               have n11_ : Aside0 (gb220 ≠ gb238) := ⟨h11_⟩
               have n12_ : Aside0 (gb238 ≠ gb220) := ⟨h12_⟩
               have n13_ : Aside0 (gb221 ≠ gb238) := ⟨h13_⟩
               have n14_ : Aside0 (gb238 ≠ gb221) := ⟨h14_⟩
               have n15_ : Aside0 (gb222 ≠ gb238) := ⟨h15_⟩
               have n16_ : Aside0 (gb238 ≠ gb222) := ⟨h16_⟩
               have n17_ : Aside0 (gb223 ≠ gb238) := ⟨h17_⟩
               have n18_ : Aside0 (gb238 ≠ gb223) := ⟨h18_⟩
               have n19_ : Aside0 (gb239 ≠ gb238) := ⟨h19_⟩
               have n20_ : Aside0 (gb238 ≠ gb239) := ⟨h20_⟩
               have n21_ : Aside0 (w.heap.size ≤ gb239) := ⟨h21_⟩
               have n22_ : Aside0 (w.heap.size ≤ gb239) := ⟨h22_⟩
               have n23_ : Aside0 (gb220 ≠ gb239) := ⟨h23_⟩
               have n24_ : Aside0 (gb239 ≠ gb220) := ⟨h24_⟩
               have n25_ : Aside0 (gb221 ≠ gb239) := ⟨h25_⟩
               have n26_ : Aside0 (gb239 ≠ gb221) := ⟨h26_⟩
               have n27_ : Aside0 (gb222 ≠ gb239) := ⟨h27_⟩
               have n28_ : Aside0 (gb239 ≠ gb222) := ⟨h28_⟩
               have n29_ : Aside0 (gb223 ≠ gb239) := ⟨h29_⟩
               have n30_ : Aside0 (gb239 ≠ gb223) := ⟨h30_⟩
               have n31_ : Aside0 (Below w.heap.size w w56) := ⟨h31_⟩
               clear HO0_1
               clear HO226
               clear HO229
               clear BK220
               clear BK221
               clear BK222
               clear BK223
               clear HB
               clear h0_ h1_ h2_ h3_ h4_ h5_ h6_ h7_ h8_ h9_ h10_ h11_ h12_ h13_ h14_ h15_ h16_ h17_ h18_ h19_ h20_ h21_ h22_ h23_ h24_ h25_ h26_ h27_ h28_ h29_ h30_ h31_
               have HO0_1 := n0_
               have HO226 := n1_
               have HO229 := n2_
               have BK220 := n3_
               have BK221 := n4_
               have BK222 := n5_
               have BK223 := n6_
               have BK238 := n7_
               have BK239 := n8_
               have GW238 := n9_
               have GE238 := n10_
               have NB220_238 := n11_
               have NB238_220 := n12_
               have NB221_238 := n13_
               have NB238_221 := n14_
               have NB222_238 := n15_
               have NB238_222 := n16_
               have NB223_238 := n17_
               have NB238_223 := n18_
               have NB239_238 := n19_
               have NB238_239 := n20_
               have GW239 := n21_
               have GE239 := n22_
               have NB220_239 := n23_
               have NB239_220 := n24_
               have NB221_239 := n25_
               have NB239_221 := n26_
               have NB222_239 := n27_
               have NB239_222 := n28_
               have NB223_239 := n29_
               have NB239_223 := n30_
               have HB := n31_
               clear n0_ n1_ n2_ n3_ n4_ n5_ n6_ n7_ n8_ n9_ n10_ n11_ n12_ n13_ n14_ n15_ n16_ n17_ n18_ n19_ n20_ n21_ n22_ n23_ n24_ n25_ n26_ n27_ n28_ n29_ n30_ n31_
               refine norm_ (a' := ?_) ?_ ?_
               rotate_left
               · simp only [putAll, Act.put, z1, z2, z3]
                 rfl
               refine one_ (i := 6) (N := some 24) #[true,true,true,true,true,true,true,true,true,true,false,true,true,false,false] rfl rfl (one_of HT_.out (by kernel_rfl)) (by decide) (fun K hK => ?_)
               refine goes_ Try.func68 (by kernel_rfl) rfl #[.bool (a0_0 != a1_0), .slice Ao51 t224.length co51] (by rfl) rfl rfl (by (try simp only [List.map_toArray, List.map_cons, List.map_nil]); first | done | rfl | (simp only [List.length_drop, List.length_take]; rfl)) ?_
               with_reducible refine (exact_made.calls (a0_0 != a1_0) (fun k_ => ((P0_1_ k_ ∨ w.heap.size ≤ k_) ∧ (k_ ≠ gb220 ∧ (k_ ≠ gb221 ∧ (k_ ≠ gb222 ∧ (k_ ≠ gb223 ∧ (k_ ≠ gb238 ∧ k_ ≠ gb239))))))) _ _ t224 t230 t231 _ ?side1 A4.out).mono ?_
               (case side1 => exact HO226.out)
               rintro e w57 ⟨v232, rfl, ho0, hb⟩
               refine ⟨_, rfl, ?_⟩
               have n0_ := Aside0.mk (vb HO0_1.out hb)
               have n1_ := Aside0.mk (vb HO226.out hb)
               have n2_ := Aside0.mk (vb HO229.out hb)
               have n3_ := Aside0.mk (Kd.V_lower (Kd.V_mono (ok' := fun k_ => (P0_1_ k_ ∨ w.heap.size ≤ k_) ∧ k_ ≠ gb220 ∧ k_ ≠ gb221 ∧ k_ ≠ gb222 ∧ k_ ≠ gb223 ∧ k_ ≠ gb238 ∧ k_ ≠ gb239) ho0 (fun k_ hk_ => ⟨Or.elim hk_ (fun hs_ => hs_.1) (fun hn_ => (.inr (Nat.le_trans (below_size bl) hn_))), Or.elim hk_ (fun hs_ => hs_.2.1) (fun hn_ => (Kd.freshB (g := gb220) (o := .cells #[.bool a0_0, .slice A0_1 l0_1.length c0_1] 43 (0, 0)) (bk BK220.out) k_ hn_)), Or.elim hk_ (fun hs_ => hs_.2.2.1) (fun hn_ => (Kd.freshB (g := gb221) (o := .cells #[.bool a1_0, .slice A1_1 l1_1.length c1_1] 43 (0, 0)) (bk BK221.out) k_ hn_)), Or.elim hk_ (fun hs_ => hs_.2.2.2.1) (fun hn_ => (Kd.freshB (g := gb222) (o := .cells #[.bool false, .slice none 0 0] 43 (0, 0)) (bk BK222.out) k_ hn_)), Or.elim hk_ (fun hs_ => hs_.2.2.2.2.1) (fun hn_ => (Kd.freshB (g := gb223) (o := .cells #[.bool false, .slice none 0 0] 43 (0, 0)) (bk BK223.out) k_ hn_)), Or.elim hk_ (fun hs_ => hs_.2.2.2.2.2.1) (fun hn_ => (Kd.freshB (g := gb238) (o := .cells #[.bool false, .slice none 0 0] 43 (0, 0)) (bk BK238.out) k_ hn_)), Or.elim hk_ (fun hs_ => hs_.2.2.2.2.2.2) (fun hn_ => (Kd.freshB (g := gb239) (o := .cells #[.bool false, .slice none 0 0] 43 (0, 0)) (bk BK239.out) k_ hn_))⟩)) (below_size bl))
               have n4_ := Aside0.mk (bb BK220.out hb)
               have n5_ := Aside0.mk (bb BK221.out hb)
               have n6_ := Aside0.mk (bb BK222.out hb)
               have n7_ := Aside0.mk (bb BK223.out hb)
               have n8_ := Aside0.mk (bb BK238.out hb)
               have n9_ := Aside0.mk (bb BK239.out hb)
               have n10_ := Aside0.mk (below_step bl hb)
               clear HO0_1
               clear HO226
               clear HO229
               clear BK220
               clear BK221
               clear BK222
               clear BK223
               clear BK238
               clear BK239
               clear HB
               have HO0_1 := n0_
               have HO226 := n1_
               have HO229 := n2_
               have HO233 := n3_
               have BK220 := n4_
               have BK221 := n5_
               have BK222 := n6_
               have BK223 := n7_
               have BK238 := n8_
               have BK239 := n9_
               have HB := n10_
               clear n0_ n1_ n2_ n3_ n4_ n5_ n6_ n7_ n8_ n9_ n10_
               (try clear hb)
               (try clear hb2)
               (try clear hk)
               (try clear hi)
               (try clear ho0)
               refine hK.out _ _ ⟨(blk_cell BK220.out 0).trans rfl, (blk_cell BK220.out 1).trans rfl, (blk_cell BK221.out 0).trans rfl, (blk_cell BK221.out 1).trans rfl⟩ (fun hHeld => ?_)
               clear hK K
               refine norm_ (a' := ?_) ?_ ?_
               rotate_left; focus (show Act.put _ (some 24) _ = _; simp only [Act.put, z1, z2, z3, i64_w, i32_w]; rfl)
               exact norm_ (by first | (simp only [putAll, Act.put, z1, z2, z3]; done) | (simp only [putAll, Act.put, z1, z2, z3]; rfl)) (hJ6_11_12 (v232, gb238, gb239) _ ⟨hHeld, (by (with_reducible repeat (first | apply Kd.V_alloc | apply Kd.V_drewN | apply Kd.V_drew)); exact HO0_1.out), (by (with_reducible repeat (first | apply Kd.V_alloc | apply Kd.V_drewN | apply Kd.V_drew)); exact HO226.out), (by (with_reducible repeat (first | apply Kd.V_alloc | apply Kd.V_drewN | apply Kd.V_drew)); exact HO229.out), (by (with_reducible repeat (first | apply Kd.V_alloc | apply Kd.V_drewN | apply Kd.V_drew)); exact HO233.out), (bk BK220.out), (bk BK221.out), (bk BK222.out), (bk BK223.out), (bk BK238.out), (bk BK239.out), GW238.out, GE238.out, NB220_238.out, NB238_220.out, NB221_238.out, NB238_221.out, NB222_238.out, NB238_222.out, NB223_238.out, NB238_223.out, NB239_238.out, NB238_239.out, GW239.out, GE239.out, NB220_239.out, NB239_220.out, NB221_239.out, NB239_221.out, NB222_239.out, NB239_222.out, NB223_239.out, NB239_223.out, bl⟩)
             skip
             rintro ⟨v232, gb239⟩ w56 ⟨hS_, h0_, h1_, h2_, h3_, h4_, h5_, h6_, h7_, h8_, h9_, h10_, h11_, h12_, h13_, h14_, h15_, h16_, h17_, h18_, h19_⟩
             have n0_ : Aside0 (Kd.V (Kd.int .u32) 97 w56 w.heap.size (fun k_ => (P0_1_ k_ ∨ w.heap.size ≤ k_) ∧ k_ ≠ gb220 ∧ k_ ≠ gb221 ∧ k_ ≠ gb222 ∧ k_ ≠ gb223 ∧ k_ ≠ gb239) (.slice A0_1 l0_1.length c0_1) l0_1) := ⟨h0_⟩
             have n1_ : Aside0 (Kd.V (Kd.int .u32) 97 w56 w.heap.size (fun k_ => (P0_1_ k_ ∨ w.heap.size ≤ k_) ∧ k_ ≠ gb220 ∧ k_ ≠ gb221 ∧ k_ ≠ gb222 ∧ k_ ≠ gb223 ∧ k_ ≠ gb239) (.slice Ao51 t224.length co51) t224) := ⟨h1_⟩
             have n2_ : Aside0 (Kd.V (Kd.int .u32) 97 w56 w.heap.size (fun k_ => (P0_1_ k_ ∨ w.heap.size ≤ k_) ∧ k_ ≠ gb220 ∧ k_ ≠ gb221 ∧ k_ ≠ gb222 ∧ k_ ≠ gb223 ∧ k_ ≠ gb239) (.slice Ao52 t227.length co52) t227) := ⟨h2_⟩
             have n3_ : Aside0 (Kd.V (Kd.int .u32) 97 w56 w.heap.size (fun k_ => (P0_1_ k_ ∨ w.heap.size ≤ k_) ∧ k_ ≠ gb220 ∧ k_ ≠ gb221 ∧ k_ ≠ gb222 ∧ k_ ≠ gb223 ∧ k_ ≠ gb239) v232 t231) := ⟨h3_⟩
             have n4_ : Aside0 (w56.heap[gb220]? = some (.cells #[.bool a0_0, .slice A0_1 l0_1.length c0_1] 43 (0, 0))) := ⟨h4_⟩
             have n5_ : Aside0 (w56.heap[gb221]? = some (.cells #[.bool a1_0, .slice A1_1 l1_1.length c1_1] 43 (0, 0))) := ⟨h5_⟩
             have n6_ : Aside0 (w56.heap[gb222]? = some (.cells #[.bool false, .slice none 0 0] 43 (0, 0))) := ⟨h6_⟩
             have n7_ : Aside0 (w56.heap[gb223]? = some (.cells #[.bool false, .slice none 0 0] 43 (0, 0))) := ⟨h7_⟩
             have n8_ : Aside0 (w56.heap[gb239]? = some (.cells #[.bool false, .slice none 0 0] 43 (0, 0))) := ⟨h8_⟩
             have n9_ : Aside0 (w.heap.size ≤ gb239) := ⟨h9_⟩
             have n10_ : Aside0 (w.heap.size ≤ gb239) := ⟨h10_⟩
             have n11_ : Aside0 (gb220 ≠ gb239) := ⟨h11_⟩
             have n12_ : Aside0 (gb239 ≠ gb220) := ⟨h12_⟩
             have n13_ : Aside0 (gb221 ≠ gb239) := ⟨h13_⟩
             have n14_ : Aside0 (gb239 ≠ gb221) := ⟨h14_⟩
             have n15_ : Aside0 (gb222 ≠ gb239) := ⟨h15_⟩
             have n16_ : Aside0 (gb239 ≠ gb222) := ⟨h16_⟩
             have n17_ : Aside0 (gb223 ≠ gb239) := ⟨h17_⟩
             have n18_ : Aside0 (gb239 ≠ gb223) := ⟨h18_⟩
             have n19_ : Aside0 (Below w.heap.size w w56) := ⟨h19_⟩
             clear HO0_1
             clear HO226
             clear HO229
             clear BK220
             clear BK221
             clear BK222
             clear BK223
             clear HB
             clear h0_ h1_ h2_ h3_ h4_ h5_ h6_ h7_ h8_ h9_ h10_ h11_ h12_ h13_ h14_ h15_ h16_ h17_ h18_ h19_
             have HO0_1 := n0_
             have HO226 := n1_
             have HO229 := n2_
             have HO233 := n3_
             have BK220 := n4_
             have BK221 := n5_
             have BK222 := n6_
             have BK223 := n7_
             have BK239 := n8_
             have GW239 := n9_
             have GE239 := n10_
             have NB220_239 := n11_
             have NB239_220 := n12_
             have NB221_239 := n13_
             have NB239_221 := n14_
             have NB222_239 := n15_
             have NB239_222 := n16_
             have NB223_239 := n17_
             have NB239_223 := n18_
             have HB := n19_
             clear n0_ n1_ n2_ n3_ n4_ n5_ n6_ n7_ n8_ n9_ n10_ n11_ n12_ n13_ n14_ n15_ n16_ n17_ n18_ n19_
             refine norm_ (a' := ?_) ?_ ?_
             rotate_left
             · simp only [putAll, Act.put, z1, z2, z3]
               rfl
             refine two_ (i := 10) (j := 11) (Ni := some 28) (Nj := some 8) #[true,true,true,true,true,true,true,true,true,true,true,false,true,false,false] #[true,true,true,true,true,true,true,true,true,true,false,true,true,false,false] rfl rfl rfl rfl (two_of HT_.out (by kernel_rfl)) (by decide) (by decide) (fun K hK => ?_) (fun K hK => ?_)
             · skip
               refine goes_ Try.func68 (by kernel_rfl) rfl #[.bool a0_0, .slice Ao52 t227.length co52] (by rfl) rfl rfl (by (try simp only [List.map_toArray, List.map_cons, List.map_nil]); first | done | rfl | (simp only [List.length_drop, List.length_take]; rfl)) ?_
               with_reducible refine (exact_made.calls a0_0 (fun k_ => ((P0_1_ k_ ∨ w.heap.size ≤ k_) ∧ (k_ ≠ gb220 ∧ (k_ ≠ gb221 ∧ (k_ ≠ gb222 ∧ (k_ ≠ gb223 ∧ k_ ≠ gb239)))))) _ _ t227 false t235 _ ?side1 A5.out).mono ?_
               (case side1 => exact HO229.out)
               rintro e w57 ⟨v236, rfl, ho0, hb⟩
               refine ⟨_, rfl, ?_⟩
               have n0_ := Aside0.mk (vb HO0_1.out hb)
               have n1_ := Aside0.mk (vb HO226.out hb)
               have n2_ := Aside0.mk (vb HO229.out hb)
               have n3_ := Aside0.mk (vb HO233.out hb)
               have n4_ := Aside0.mk (Kd.V_lower (Kd.V_mono (ok' := fun k_ => (P0_1_ k_ ∨ w.heap.size ≤ k_) ∧ k_ ≠ gb220 ∧ k_ ≠ gb221 ∧ k_ ≠ gb222 ∧ k_ ≠ gb223 ∧ k_ ≠ gb239) ho0 (fun k_ hk_ => ⟨Or.elim hk_ (fun hs_ => hs_.1) (fun hn_ => (.inr (Nat.le_trans (below_size bl) hn_))), Or.elim hk_ (fun hs_ => hs_.2.1) (fun hn_ => (Kd.freshB (g := gb220) (o := .cells #[.bool a0_0, .slice A0_1 l0_1.length c0_1] 43 (0, 0)) (bk BK220.out) k_ hn_)), Or.elim hk_ (fun hs_ => hs_.2.2.1) (fun hn_ => (Kd.freshB (g := gb221) (o := .cells #[.bool a1_0, .slice A1_1 l1_1.length c1_1] 43 (0, 0)) (bk BK221.out) k_ hn_)), Or.elim hk_ (fun hs_ => hs_.2.2.2.1) (fun hn_ => (Kd.freshB (g := gb222) (o := .cells #[.bool false, .slice none 0 0] 43 (0, 0)) (bk BK222.out) k_ hn_)), Or.elim hk_ (fun hs_ => hs_.2.2.2.2.1) (fun hn_ => (Kd.freshB (g := gb223) (o := .cells #[.bool false, .slice none 0 0] 43 (0, 0)) (bk BK223.out) k_ hn_)), Or.elim hk_ (fun hs_ => hs_.2.2.2.2.2) (fun hn_ => (Kd.freshB (g := gb239) (o := .cells #[.bool false, .slice none 0 0] 43 (0, 0)) (bk BK239.out) k_ hn_))⟩)) (below_size bl))
               have n5_ := Aside0.mk (bb BK220.out hb)
               have n6_ := Aside0.mk (bb BK221.out hb)
               have n7_ := Aside0.mk (bb BK222.out hb)
               have n8_ := Aside0.mk (bb BK223.out hb)
               have n9_ := Aside0.mk (bb BK239.out hb)
               have n10_ := Aside0.mk (below_step bl hb)
               clear HO0_1
               clear HO226
               clear HO229
               clear HO233
               clear BK220
               clear BK221
               clear BK222
               clear BK223
               clear BK239
               clear HB
               have HO0_1 := n0_
               have HO226 := n1_
               have HO229 := n2_
               have HO233 := n3_
               have HO237 := n4_
               have BK220 := n5_
               have BK221 := n6_
               have BK222 := n7_
               have BK223 := n8_
               have BK239 := n9_
               have HB := n10_
               clear n0_ n1_ n2_ n3_ n4_ n5_ n6_ n7_ n8_ n9_ n10_
               (try clear hb)
               (try clear hb2)
               (try clear hk)
               (try clear hi)
               (try clear ho0)
               refine hK.out _ _ ⟨(blk_cell BK220.out 0).trans rfl, (blk_cell BK220.out 1).trans rfl, (blk_cell BK221.out 0).trans rfl, (blk_cell BK221.out 1).trans rfl⟩ (fun hHeld => ?_)
               clear hK K
               refine norm_ (a' := ?_) ?_ ?_
               rotate_left; focus (show Act.put _ (some 28) _ = _; simp only [Act.put, z1, z2, z3, i64_w, i32_w]; rfl)
               exact norm_ (by first | (simp only [putAll, Act.put, z1, z2, z3]; done) | (simp only [putAll, Act.put, z1, z2, z3]; rfl)) (hJ6_10_12 (v232, v236, gb239) _ ⟨hHeld, (by (with_reducible repeat (first | apply Kd.V_alloc | apply Kd.V_drewN | apply Kd.V_drew)); exact HO0_1.out), (by (with_reducible repeat (first | apply Kd.V_alloc | apply Kd.V_drewN | apply Kd.V_drew)); exact HO226.out), (by (with_reducible repeat (first | apply Kd.V_alloc | apply Kd.V_drewN | apply Kd.V_drew)); exact HO229.out), (by (with_reducible repeat (first | apply Kd.V_alloc | apply Kd.V_drewN | apply Kd.V_drew)); exact HO233.out), (by (with_reducible repeat (first | apply Kd.V_alloc | apply Kd.V_drewN | apply Kd.V_drew)); exact HO237.out), (bk BK220.out), (bk BK221.out), (bk BK222.out), (bk BK223.out), (bk BK239.out), GW239.out, GE239.out, NB220_239.out, NB239_220.out, NB221_239.out, NB239_221.out, NB222_239.out, NB239_222.out, NB223_239.out, NB239_223.out, bl⟩)
             skip
             refine box_step ?hg (N := 8) ?hd (cs := #[.bool false, .slice none 0 0]) (t := 43) ?hr ?_; (case hd => rfl); (case hg => rfl); (case hr => first | (go_simp; done) | (go_simp; rfl))
             intro gb238 hg w57 hbox hb
             have n0_ := Aside0.mk (Kd.V_below (Kd.V_elderB (by (with_reducible repeat (first | apply Kd.V_alloc | apply Kd.V_drewN | apply Kd.V_drew)); exact HO0_1.out) gb238 (Nat.le_of_eq hg.symm)) hb)
             have n1_ := Aside0.mk (Kd.V_below (Kd.V_elderB (by (with_reducible repeat (first | apply Kd.V_alloc | apply Kd.V_drewN | apply Kd.V_drew)); exact HO226.out) gb238 (Nat.le_of_eq hg.symm)) hb)
             have n2_ := Aside0.mk (Kd.V_below (Kd.V_elderB (by (with_reducible repeat (first | apply Kd.V_alloc | apply Kd.V_drewN | apply Kd.V_drew)); exact HO229.out) gb238 (Nat.le_of_eq hg.symm)) hb)
             have n3_ := Aside0.mk (Kd.V_below (Kd.V_elderB (by (with_reducible repeat (first | apply Kd.V_alloc | apply Kd.V_drewN | apply Kd.V_drew)); exact HO233.out) gb238 (Nat.le_of_eq hg.symm)) hb)
             have n4_ := Aside0.mk (bb BK220.out hb)
             have n5_ := Aside0.mk (bb BK221.out hb)
             have n6_ := Aside0.mk (bb BK222.out hb)
             have n7_ := Aside0.mk (bb BK223.out hb)
             have n8_ := Aside0.mk (bb BK239.out hb)
             have n9_ := Aside0.mk (below_step bl hb)
             have n10_ := Aside0.mk (hbox)
             have n11_ := Aside0.mk (ge (w := w) hg)
             have n12_ := Aside0.mk (ge (w := w) hg)
             have n13_ := Aside0.mk (nl hg (bk BK220.out))
             have n14_ := Aside0.mk (ng hg (bk BK220.out))
             have n15_ := Aside0.mk (nl hg (bk BK221.out))
             have n16_ := Aside0.mk (ng hg (bk BK221.out))
             have n17_ := Aside0.mk (nl hg (bk BK222.out))
             have n18_ := Aside0.mk (ng hg (bk BK222.out))
             have n19_ := Aside0.mk (nl hg (bk BK223.out))
             have n20_ := Aside0.mk (ng hg (bk BK223.out))
             have n21_ := Aside0.mk (nl hg (bk BK239.out))
             have n22_ := Aside0.mk (ng hg (bk BK239.out))
             clear HO0_1
             clear HO226
             clear HO229
             clear HO233
             clear BK220
             clear BK221
             clear BK222
             clear BK223
             clear BK239
             clear HB
             have HO0_1 := n0_
             have HO226 := n1_
             have HO229 := n2_
             have HO233 := n3_
             have BK220 := n4_
             have BK221 := n5_
             have BK222 := n6_
             have BK223 := n7_
             have BK239 := n8_
             have HB := n9_
             have BK238 := n10_
             have GW238 := n11_
             have GE238 := n12_
             have NB220_238 := n13_
             have NB238_220 := n14_
             have NB221_238 := n15_
             have NB238_221 := n16_
             have NB222_238 := n17_
             have NB238_222 := n18_
             have NB223_238 := n19_
             have NB238_223 := n20_
             have NB239_238 := n21_
             have NB238_239 := n22_
             clear n0_ n1_ n2_ n3_ n4_ n5_ n6_ n7_ n8_ n9_ n10_ n11_ n12_ n13_ n14_ n15_ n16_ n17_ n18_ n19_ n20_ n21_ n22_
             clear hb hbox hg
             refine hK.out _ _ ⟨(blk_cell BK220.out 0).trans rfl, (blk_cell BK220.out 1).trans rfl, (blk_cell BK221.out 0).trans rfl, (blk_cell BK221.out 1).trans rfl⟩ (fun hHeld => ?_)
             clear hK K
             refine norm_ (a' := ?_) ?_ ?_
             rotate_left; focus (show Act.put _ (some 8) _ = _; simp only [Act.put, z1, z2, z3, i64_w, i32_w]; rfl)
             exact norm_ (by first | (simp only [putAll, Act.put, z1, z2, z3]; done) | (simp only [putAll, Act.put, z1, z2, z3]; rfl)) (hJ6_11_12 (v232, gb238, gb239) _ ⟨hHeld, (by (with_reducible repeat (first | apply Kd.V_alloc | apply Kd.V_drewN | apply Kd.V_drew)); exact Kd.V_mono HO0_1.out (fun _ hk => ⟨hk.1.1, ⟨hk.1.2.1, ⟨hk.1.2.2.1, ⟨hk.1.2.2.2.1, ⟨hk.1.2.2.2.2.1, ⟨hk.2, hk.1.2.2.2.2.2⟩⟩⟩⟩⟩⟩)), (by (with_reducible repeat (first | apply Kd.V_alloc | apply Kd.V_drewN | apply Kd.V_drew)); exact Kd.V_mono HO226.out (fun _ hk => ⟨hk.1.1, ⟨hk.1.2.1, ⟨hk.1.2.2.1, ⟨hk.1.2.2.2.1, ⟨hk.1.2.2.2.2.1, ⟨hk.2, hk.1.2.2.2.2.2⟩⟩⟩⟩⟩⟩)), (by (with_reducible repeat (first | apply Kd.V_alloc | apply Kd.V_drewN | apply Kd.V_drew)); exact Kd.V_mono HO229.out (fun _ hk => ⟨hk.1.1, ⟨hk.1.2.1, ⟨hk.1.2.2.1, ⟨hk.1.2.2.2.1, ⟨hk.1.2.2.2.2.1, ⟨hk.2, hk.1.2.2.2.2.2⟩⟩⟩⟩⟩⟩)), (by (with_reducible repeat (first | apply Kd.V_alloc | apply Kd.V_drewN | apply Kd.V_drew)); exact Kd.V_mono HO233.out (fun _ hk => ⟨hk.1.1, ⟨hk.1.2.1, ⟨hk.1.2.2.1, ⟨hk.1.2.2.2.1, ⟨hk.1.2.2.2.2.1, ⟨hk.2, hk.1.2.2.2.2.2⟩⟩⟩⟩⟩⟩)), (bk BK220.out), (bk BK221.out), (bk BK222.out), (bk BK223.out), (bk BK238.out), (bk BK239.out), GW238.out, GE238.out, NB220_238.out, NB238_220.out, NB221_238.out, NB238_221.out, NB222_238.out, NB238_222.out, NB223_238.out, NB238_223.out, NB239_238.out, NB238_239.out, GW239.out, GE239.out, NB220_239.out, NB239_220.out, NB221_239.out, NB239_221.out, NB222_239.out, NB239_222.out, NB223_239.out, NB239_223.out, bl⟩)
           skip
           rintro ⟨v232, gb238⟩ w56 ⟨hS_, h0_, h1_, h2_, h3_, h4_, h5_, h6_, h7_, h8_, h9_, h10_, h11_, h12_, h13_, h14_, h15_, h16_, h17_, h18_, h19_⟩
           have n0_ : Aside0 (Kd.V (Kd.int .u32) 97 w56 w.heap.size (fun k_ => (P0_1_ k_ ∨ w.heap.size ≤ k_) ∧ k_ ≠ gb220 ∧ k_ ≠ gb221 ∧ k_ ≠ gb222 ∧ k_ ≠ gb223 ∧ k_ ≠ gb238) (.slice A0_1 l0_1.length c0_1) l0_1) := ⟨h0_⟩
           have n1_ : Aside0 (Kd.V (Kd.int .u32) 97 w56 w.heap.size (fun k_ => (P0_1_ k_ ∨ w.heap.size ≤ k_) ∧ k_ ≠ gb220 ∧ k_ ≠ gb221 ∧ k_ ≠ gb222 ∧ k_ ≠ gb223 ∧ k_ ≠ gb238) (.slice Ao51 t224.length co51) t224) := ⟨h1_⟩
           have n2_ : Aside0 (Kd.V (Kd.int .u32) 97 w56 w.heap.size (fun k_ => (P0_1_ k_ ∨ w.heap.size ≤ k_) ∧ k_ ≠ gb220 ∧ k_ ≠ gb221 ∧ k_ ≠ gb222 ∧ k_ ≠ gb223 ∧ k_ ≠ gb238) (.slice Ao52 t227.length co52) t227) := ⟨h2_⟩
           have n3_ : Aside0 (Kd.V (Kd.int .u32) 97 w56 w.heap.size (fun k_ => (P0_1_ k_ ∨ w.heap.size ≤ k_) ∧ k_ ≠ gb220 ∧ k_ ≠ gb221 ∧ k_ ≠ gb222 ∧ k_ ≠ gb223 ∧ k_ ≠ gb238) v232 t231) := ⟨h3_⟩
           have n4_ : Aside0 (w56.heap[gb220]? = some (.cells #[.bool a0_0, .slice A0_1 l0_1.length c0_1] 43 (0, 0))) := ⟨h4_⟩
           have n5_ : Aside0 (w56.heap[gb221]? = some (.cells #[.bool a1_0, .slice A1_1 l1_1.length c1_1] 43 (0, 0))) := ⟨h5_⟩
           have n6_ : Aside0 (w56.heap[gb222]? = some (.cells #[.bool false, .slice none 0 0] 43 (0, 0))) := ⟨h6_⟩
           have n7_ : Aside0 (w56.heap[gb223]? = some (.cells #[.bool false, .slice none 0 0] 43 (0, 0))) := ⟨h7_⟩
           have n8_ : Aside0 (w56.heap[gb238]? = some (.cells #[.bool false, .slice none 0 0] 43 (0, 0))) := ⟨h8_⟩
           have n9_ : Aside0 (w.heap.size ≤ gb238) := ⟨h9_⟩
           have n10_ : Aside0 (w.heap.size ≤ gb238) := ⟨h10_⟩
           have n11_ : Aside0 (gb220 ≠ gb238) := ⟨h11_⟩
           have n12_ : Aside0 (gb238 ≠ gb220) := ⟨h12_⟩
           have n13_ : Aside0 (gb221 ≠ gb238) := ⟨h13_⟩
           have n14_ : Aside0 (gb238 ≠ gb221) := ⟨h14_⟩
           have n15_ : Aside0 (gb222 ≠ gb238) := ⟨h15_⟩
           have n16_ : Aside0 (gb238 ≠ gb222) := ⟨h16_⟩
           have n17_ : Aside0 (gb223 ≠ gb238) := ⟨h17_⟩
           have n18_ : Aside0 (gb238 ≠ gb223) := ⟨h18_⟩
           have n19_ : Aside0 (Below w.heap.size w w56) := ⟨h19_⟩
           clear HO0_1
           clear HO226
           clear HO229
           clear BK220
           clear BK221
           clear BK222
           clear BK223
           clear HB
           clear h0_ h1_ h2_ h3_ h4_ h5_ h6_ h7_ h8_ h9_ h10_ h11_ h12_ h13_ h14_ h15_ h16_ h17_ h18_ h19_
           have HO0_1 := n0_
           have HO226 := n1_
           have HO229 := n2_
           have HO233 := n3_
           have BK220 := n4_
           have BK221 := n5_
           have BK222 := n6_
           have BK223 := n7_
           have BK238 := n8_
           have GW238 := n9_
           have GE238 := n10_
           have NB220_238 := n11_
           have NB238_220 := n12_
           have NB221_238 := n13_
           have NB238_221 := n14_
           have NB222_238 := n15_
           have NB238_222 := n16_
           have NB223_238 := n17_
           have NB238_223 := n18_
           have HB := n19_
           clear n0_ n1_ n2_ n3_ n4_ n5_ n6_ n7_ n8_ n9_ n10_ n11_ n12_ n13_ n14_ n15_ n16_ n17_ n18_ n19_
           refine norm_ (a' := ?_) ?_ ?_
           rotate_left
           · simp only [putAll, Act.put, z1, z2, z3]
             rfl
           refine two_ (i := 10) (j := 12) (Ni := some 28) (Nj := some 9) (zb 12 3) #[true,true,true,true,true,true,true,true,true,true,false,true,true,false,false] rfl rfl rfl rfl (two_of HT_.out (by kernel_rfl)) (by decide) (by decide) (fun K hK => ?_) (fun K hK => ?_)
           · skip
             refine goes_ Try.func68 (by kernel_rfl) rfl #[.bool a0_0, .slice Ao52 t227.length co52] (by rfl) rfl rfl (by (try simp only [List.map_toArray, List.map_cons, List.map_nil]); first | done | rfl | (simp only [List.length_drop, List.length_take]; rfl)) ?_
             with_reducible refine (exact_made.calls a0_0 (fun k_ => ((P0_1_ k_ ∨ w.heap.size ≤ k_) ∧ (k_ ≠ gb220 ∧ (k_ ≠ gb221 ∧ (k_ ≠ gb222 ∧ (k_ ≠ gb223 ∧ k_ ≠ gb238)))))) _ _ t227 false t235 _ ?side1 A5.out).mono ?_
             (case side1 => exact HO229.out)
             rintro e w57 ⟨v236, rfl, ho0, hb⟩
             refine ⟨_, rfl, ?_⟩
             have n0_ := Aside0.mk (vb HO0_1.out hb)
             have n1_ := Aside0.mk (vb HO226.out hb)
             have n2_ := Aside0.mk (vb HO229.out hb)
             have n3_ := Aside0.mk (vb HO233.out hb)
             have n4_ := Aside0.mk (Kd.V_lower (Kd.V_mono (ok' := fun k_ => (P0_1_ k_ ∨ w.heap.size ≤ k_) ∧ k_ ≠ gb220 ∧ k_ ≠ gb221 ∧ k_ ≠ gb222 ∧ k_ ≠ gb223 ∧ k_ ≠ gb238) ho0 (fun k_ hk_ => ⟨Or.elim hk_ (fun hs_ => hs_.1) (fun hn_ => (.inr (Nat.le_trans (below_size bl) hn_))), Or.elim hk_ (fun hs_ => hs_.2.1) (fun hn_ => (Kd.freshB (g := gb220) (o := .cells #[.bool a0_0, .slice A0_1 l0_1.length c0_1] 43 (0, 0)) (bk BK220.out) k_ hn_)), Or.elim hk_ (fun hs_ => hs_.2.2.1) (fun hn_ => (Kd.freshB (g := gb221) (o := .cells #[.bool a1_0, .slice A1_1 l1_1.length c1_1] 43 (0, 0)) (bk BK221.out) k_ hn_)), Or.elim hk_ (fun hs_ => hs_.2.2.2.1) (fun hn_ => (Kd.freshB (g := gb222) (o := .cells #[.bool false, .slice none 0 0] 43 (0, 0)) (bk BK222.out) k_ hn_)), Or.elim hk_ (fun hs_ => hs_.2.2.2.2.1) (fun hn_ => (Kd.freshB (g := gb223) (o := .cells #[.bool false, .slice none 0 0] 43 (0, 0)) (bk BK223.out) k_ hn_)), Or.elim hk_ (fun hs_ => hs_.2.2.2.2.2) (fun hn_ => (Kd.freshB (g := gb238) (o := .cells #[.bool false, .slice none 0 0] 43 (0, 0)) (bk BK238.out) k_ hn_))⟩)) (below_size bl))
             have n5_ := Aside0.mk (bb BK220.out hb)
             have n6_ := Aside0.mk (bb BK221.out hb)
             have n7_ := Aside0.mk (bb BK222.out hb)
             have n8_ := Aside0.mk (bb BK223.out hb)
             have n9_ := Aside0.mk (bb BK238.out hb)
             have n10_ := Aside0.mk (below_step bl hb)
             clear HO0_1
             clear HO226
             clear HO229
             clear HO233
             clear BK220
             clear BK221
             clear BK222
             clear BK223
             clear BK238
             clear HB
             have HO0_1 := n0_
             have HO226 := n1_
             have HO229 := n2_
             have HO233 := n3_
             have HO237 := n4_
             have BK220 := n5_
             have BK221 := n6_
             have BK222 := n7_
             have BK223 := n8_
             have BK238 := n9_
             have HB := n10_
             clear n0_ n1_ n2_ n3_ n4_ n5_ n6_ n7_ n8_ n9_ n10_
             (try clear hb)
             (try clear hb2)
             (try clear hk)
             (try clear hi)
             (try clear ho0)
             refine hK.out _ _ ⟨(blk_cell BK220.out 0).trans rfl, (blk_cell BK220.out 1).trans rfl, (blk_cell BK221.out 0).trans rfl, (blk_cell BK221.out 1).trans rfl⟩ (fun hHeld => ?_)
             clear hK K
             refine norm_ (a' := ?_) ?_ ?_
             rotate_left; focus (show Act.put _ (some 28) _ = _; simp only [Act.put, z1, z2, z3, i64_w, i32_w]; rfl)
             exact norm_ (by first | (simp only [putAll, Act.put, z1, z2, z3]; done) | (simp only [putAll, Act.put, z1, z2, z3]; rfl)) (hJ6_10_11 (v232, v236, gb238) _ ⟨hHeld, (by (with_reducible repeat (first | apply Kd.V_alloc | apply Kd.V_drewN | apply Kd.V_drew)); exact HO0_1.out), (by (with_reducible repeat (first | apply Kd.V_alloc | apply Kd.V_drewN | apply Kd.V_drew)); exact HO226.out), (by (with_reducible repeat (first | apply Kd.V_alloc | apply Kd.V_drewN | apply Kd.V_drew)); exact HO229.out), (by (with_reducible repeat (first | apply Kd.V_alloc | apply Kd.V_drewN | apply Kd.V_drew)); exact HO233.out), (by (with_reducible repeat (first | apply Kd.V_alloc | apply Kd.V_drewN | apply Kd.V_drew)); exact HO237.out), (bk BK220.out), (bk BK221.out), (bk BK222.out), (bk BK223.out), (bk BK238.out), GW238.out, GE238.out, NB220_238.out, NB238_220.out, NB221_238.out, NB238_221.out, NB222_238.out, NB238_222.out, NB223_238.out, NB238_223.out, bl⟩)
           skip
           refine box_step ?hg (N := 9) ?hd (cs := #[.bool false, .slice none 0 0]) (t := 43) ?hr ?_; (case hd => rfl); (case hg => rfl); (case hr => first | (go_simp; done) | (go_simp; rfl))
           intro gb239 hg w57 hbox hb
           have n0_ := Aside0.mk (Kd.V_below (Kd.V_elderB (by (with_reducible repeat (first | apply Kd.V_alloc | apply Kd.V_drewN | apply Kd.V_drew)); exact HO0_1.out) gb239 (Nat.le_of_eq hg.symm)) hb)
           have n1_ := Aside0.mk (Kd.V_below (Kd.V_elderB (by (with_reducible repeat (first | apply Kd.V_alloc | apply Kd.V_drewN | apply Kd.V_drew)); exact HO226.out) gb239 (Nat.le_of_eq hg.symm)) hb)
           have n2_ := Aside0.mk (Kd.V_below (Kd.V_elderB (by (with_reducible repeat (first | apply Kd.V_alloc | apply Kd.V_drewN | apply Kd.V_drew)); exact HO229.out) gb239 (Nat.le_of_eq hg.symm)) hb)
           have n3_ := Aside0.mk (Kd.V_below (Kd.V_elderB (by (with_reducible repeat (first | apply Kd.V_alloc | apply Kd.V_drewN | apply Kd.V_drew)); exact HO233.out) gb239 (Nat.le_of_eq hg.symm)) hb)
           have n4_ := Aside0.mk (bb BK220.out hb)
           have n5_ := Aside0.mk (bb BK221.out hb)
           have n6_ := Aside0.mk (bb BK222.out hb)
           have n7_ := Aside0.mk (bb BK223.out hb)
           have n8_ := Aside0.mk (bb BK238.out hb)
           have n9_ := Aside0.mk (below_step bl hb)
           have n10_ := Aside0.mk (hbox)
           have n11_ := Aside0.mk (ge (w := w) hg)
           have n12_ := Aside0.mk (ge (w := w) hg)
           have n13_ := Aside0.mk (nl hg (bk BK220.out))
           have n14_ := Aside0.mk (ng hg (bk BK220.out))
           have n15_ := Aside0.mk (nl hg (bk BK221.out))
           have n16_ := Aside0.mk (ng hg (bk BK221.out))
           have n17_ := Aside0.mk (nl hg (bk BK222.out))
           have n18_ := Aside0.mk (ng hg (bk BK222.out))
           have n19_ := Aside0.mk (nl hg (bk BK223.out))
           have n20_ := Aside0.mk (ng hg (bk BK223.out))
           have n21_ := Aside0.mk (nl hg (bk BK238.out))
           have n22_ := Aside0.mk (ng hg (bk BK238.out))
           clear HO0_1
           clear HO226
           clear HO229
           clear HO233
           clear BK220
           clear BK221
           clear BK222
           clear BK223
           clear BK238
           clear HB
           have HO0_1 := n0_
           have HO226 := n1_
           have HO229 := n2_
           have HO233 := n3_
           have BK220 := n4_
           have BK221 := n5_
           have BK222 := n6_
           have BK223 := n7_
           have BK238 := n8_
           have HB := n9_
           have BK239 := n10_
           have GW239 := n11_
           have GE239 := n12_
           have NB220_239 := n13_
           have NB239_220 := n14_
           have NB221_239 := n15_
           have NB239_221 := n16_
           have NB222_239 := n17_
           have NB239_222 := n18_
           have NB223_239 := n19_
           have NB239_223 := n20_
           have NB238_239 := n21_
           have NB239_238 := n22_
           clear n0_ n1_ n2_ n3_ n4_ n5_ n6_ n7_ n8_ n9_ n10_ n11_ n12_ n13_ n14_ n15_ n16_ n17_ n18_ n19_ n20_ n21_ n22_
           clear hb hbox hg
           refine hK.out _ _ ⟨(blk_cell BK220.out 0).trans rfl, (blk_cell BK220.out 1).trans rfl, (blk_cell BK221.out 0).trans rfl, (blk_cell BK221.out 1).trans rfl⟩ (fun hHeld => ?_)
           clear hK K
           refine norm_ (a' := ?_) ?_ ?_
           rotate_left; focus (show Act.put _ (some 9) _ = _; simp only [Act.put, z1, z2, z3, i64_w, i32_w]; rfl)
           exact norm_ (by first | (simp only [putAll, Act.put, z1, z2, z3]; done) | (simp only [putAll, Act.put, z1, z2, z3]; rfl)) (hJ6_11_12 (v232, gb238, gb239) _ ⟨hHeld, (by (with_reducible repeat (first | apply Kd.V_alloc | apply Kd.V_drewN | apply Kd.V_drew)); exact Kd.V_mono HO0_1.out (fun _ hk => ⟨hk.1.1, ⟨hk.1.2.1, ⟨hk.1.2.2.1, ⟨hk.1.2.2.2.1, ⟨hk.1.2.2.2.2.1, ⟨hk.1.2.2.2.2.2, hk.2⟩⟩⟩⟩⟩⟩)), (by (with_reducible repeat (first | apply Kd.V_alloc | apply Kd.V_drewN | apply Kd.V_drew)); exact Kd.V_mono HO226.out (fun _ hk => ⟨hk.1.1, ⟨hk.1.2.1, ⟨hk.1.2.2.1, ⟨hk.1.2.2.2.1, ⟨hk.1.2.2.2.2.1, ⟨hk.1.2.2.2.2.2, hk.2⟩⟩⟩⟩⟩⟩)), (by (with_reducible repeat (first | apply Kd.V_alloc | apply Kd.V_drewN | apply Kd.V_drew)); exact Kd.V_mono HO229.out (fun _ hk => ⟨hk.1.1, ⟨hk.1.2.1, ⟨hk.1.2.2.1, ⟨hk.1.2.2.2.1, ⟨hk.1.2.2.2.2.1, ⟨hk.1.2.2.2.2.2, hk.2⟩⟩⟩⟩⟩⟩)), (by (with_reducible repeat (first | apply Kd.V_alloc | apply Kd.V_drewN | apply Kd.V_drew)); exact Kd.V_mono HO233.out (fun _ hk => ⟨hk.1.1, ⟨hk.1.2.1, ⟨hk.1.2.2.1, ⟨hk.1.2.2.2.1, ⟨hk.1.2.2.2.2.1, ⟨hk.1.2.2.2.2.2, hk.2⟩⟩⟩⟩⟩⟩)), (bk BK220.out), (bk BK221.out), (bk BK222.out), (bk BK223.out), (bk BK238.out), (bk BK239.out), GW238.out, GE238.out, NB220_238.out, NB238_220.out, NB221_238.out, NB238_221.out, NB222_238.out, NB238_222.out, NB223_238.out, NB238_223.out, NB239_238.out, NB238_239.out, GW239.out, GE239.out, NB220_239.out, NB239_220.out, NB221_239.out, NB239_221.out, NB222_239.out, NB239_222.out, NB223_239.out, NB239_223.out, bl⟩)
         skip
         rintro ⟨v232, v236⟩ w56 ⟨hS_, h0_, h1_, h2_, h3_, h4_, h5_, h6_, h7_, h8_, h9_⟩
         have n0_ : Aside0 (Kd.V (Kd.int .u32) 97 w56 w.heap.size (fun k_ => (P0_1_ k_ ∨ w.heap.size ≤ k_) ∧ k_ ≠ gb220 ∧ k_ ≠ gb221 ∧ k_ ≠ gb222 ∧ k_ ≠ gb223) (.slice A0_1 l0_1.length c0_1) l0_1) := ⟨h0_⟩
         have n1_ : Aside0 (Kd.V (Kd.int .u32) 97 w56 w.heap.size (fun k_ => (P0_1_ k_ ∨ w.heap.size ≤ k_) ∧ k_ ≠ gb220 ∧ k_ ≠ gb221 ∧ k_ ≠ gb222 ∧ k_ ≠ gb223) (.slice Ao51 t224.length co51) t224) := ⟨h1_⟩
         have n2_ : Aside0 (Kd.V (Kd.int .u32) 97 w56 w.heap.size (fun k_ => (P0_1_ k_ ∨ w.heap.size ≤ k_) ∧ k_ ≠ gb220 ∧ k_ ≠ gb221 ∧ k_ ≠ gb222 ∧ k_ ≠ gb223) (.slice Ao52 t227.length co52) t227) := ⟨h2_⟩
         have n3_ : Aside0 (Kd.V (Kd.int .u32) 97 w56 w.heap.size (fun k_ => (P0_1_ k_ ∨ w.heap.size ≤ k_) ∧ k_ ≠ gb220 ∧ k_ ≠ gb221 ∧ k_ ≠ gb222 ∧ k_ ≠ gb223) v232 t231) := ⟨h3_⟩
         have n4_ : Aside0 (Kd.V (Kd.int .u32) 97 w56 w.heap.size (fun k_ => (P0_1_ k_ ∨ w.heap.size ≤ k_) ∧ k_ ≠ gb220 ∧ k_ ≠ gb221 ∧ k_ ≠ gb222 ∧ k_ ≠ gb223) v236 t235) := ⟨h4_⟩
         have n5_ : Aside0 (w56.heap[gb220]? = some (.cells #[.bool a0_0, .slice A0_1 l0_1.length c0_1] 43 (0, 0))) := ⟨h5_⟩
         have n6_ : Aside0 (w56.heap[gb221]? = some (.cells #[.bool a1_0, .slice A1_1 l1_1.length c1_1] 43 (0, 0))) := ⟨h6_⟩
         have n7_ : Aside0 (w56.heap[gb222]? = some (.cells #[.bool false, .slice none 0 0] 43 (0, 0))) := ⟨h7_⟩
         have n8_ : Aside0 (w56.heap[gb223]? = some (.cells #[.bool false, .slice none 0 0] 43 (0, 0))) := ⟨h8_⟩
         have n9_ : Aside0 (Below w.heap.size w w56) := ⟨h9_⟩
         clear HO0_1
         clear HO226
         clear HO229
         clear BK220
         clear BK221
         clear BK222
         clear BK223
         clear HB
         clear h0_ h1_ h2_ h3_ h4_ h5_ h6_ h7_ h8_ h9_
         have HO0_1 := n0_
         have HO226 := n1_
         have HO229 := n2_
         have HO233 := n3_
         have HO237 := n4_
         have BK220 := n5_
         have BK221 := n6_
         have BK222 := n7_
         have BK223 := n8_
         have HB := n9_
         clear n0_ n1_ n2_ n3_ n4_ n5_ n6_ n7_ n8_ n9_
         refine norm_ (a' := ?_) ?_ ?_
         rotate_left
         · simp only [putAll, Act.put, z1, z2, z3]
           rfl
         refine two_ (i := 11) (j := 12) (Ni := some 8) (Nj := some 9) (zb 12 3) #[true,true,true,true,true,true,true,true,true,true,true,false,true,false,false] rfl rfl rfl rfl (two_of HT_.out (by kernel_rfl)) (by decide) (by decide) (fun K hK => ?_) (fun K hK => ?_)
         · skip
           refine box_step ?hg (N := 8) ?hd (cs := #[.bool false, .slice none 0 0]) (t := 43) ?hr ?_; (case hd => rfl); (case hg => rfl); (case hr => first | (go_simp; done) | (go_simp; rfl))
           intro gb238 hg w57 hbox hb
           have n0_ := Aside0.mk (Kd.V_below (Kd.V_elderB (by (with_reducible repeat (first | apply Kd.V_alloc | apply Kd.V_drewN | apply Kd.V_drew)); exact HO0_1.out) gb238 (Nat.le_of_eq hg.symm)) hb)
           have n1_ := Aside0.mk (Kd.V_below (Kd.V_elderB (by (with_reducible repeat (first | apply Kd.V_alloc | apply Kd.V_drewN | apply Kd.V_drew)); exact HO226.out) gb238 (Nat.le_of_eq hg.symm)) hb)
           have n2_ := Aside0.mk (Kd.V_below (Kd.V_elderB (by (with_reducible repeat (first | apply Kd.V_alloc | apply Kd.V_drewN | apply Kd.V_drew)); exact HO229.out) gb238 (Nat.le_of_eq hg.symm)) hb)
           have n3_ := Aside0.mk (Kd.V_below (Kd.V_elderB (by (with_reducible repeat (first | apply Kd.V_alloc | apply Kd.V_drewN | apply Kd.V_drew)); exact HO233.out) gb238 (Nat.le_of_eq hg.symm)) hb)
           have n4_ := Aside0.mk (Kd.V_below (Kd.V_elderB (by (with_reducible repeat (first | apply Kd.V_alloc | apply Kd.V_drewN | apply Kd.V_drew)); exact HO237.out) gb238 (Nat.le_of_eq hg.symm)) hb)
           have n5_ := Aside0.mk (bb BK220.out hb)
           have n6_ := Aside0.mk (bb BK221.out hb)
           have n7_ := Aside0.mk (bb BK222.out hb)
           have n8_ := Aside0.mk (bb BK223.out hb)
           have n9_ := Aside0.mk (below_step bl hb)
           have n10_ := Aside0.mk (hbox)
           have n11_ := Aside0.mk (ge (w := w) hg)
           have n12_ := Aside0.mk (ge (w := w) hg)
           have n13_ := Aside0.mk (nl hg (bk BK220.out))
           have n14_ := Aside0.mk (ng hg (bk BK220.out))
           have n15_ := Aside0.mk (nl hg (bk BK221.out))
           have n16_ := Aside0.mk (ng hg (bk BK221.out))
           have n17_ := Aside0.mk (nl hg (bk BK222.out))
           have n18_ := Aside0.mk (ng hg (bk BK222.out))
           have n19_ := Aside0.mk (nl hg (bk BK223.out))
           have n20_ := Aside0.mk (ng hg (bk BK223.out))
           clear HO0_1
           clear HO226
           clear HO229
           clear HO233
           clear HO237
           clear BK220
           clear BK221
           clear BK222
           clear BK223
           clear HB
           have HO0_1 := n0_
           have HO226 := n1_
           have HO229 := n2_
           have HO233 := n3_
           have HO237 := n4_
           have BK220 := n5_
           have BK221 := n6_
           have BK222 := n7_
           have BK223 := n8_
           have HB := n9_
           have BK238 := n10_
           have GW238 := n11_
           have GE238 := n12_
           have NB220_238 := n13_
           have NB238_220 := n14_
           have NB221_238 := n15_
           have NB238_221 := n16_
           have NB222_238 := n17_
           have NB238_222 := n18_
           have NB223_238 := n19_
           have NB238_223 := n20_
           clear n0_ n1_ n2_ n3_ n4_ n5_ n6_ n7_ n8_ n9_ n10_ n11_ n12_ n13_ n14_ n15_ n16_ n17_ n18_ n19_ n20_
           clear hb hbox hg
           refine hK.out _ _ ⟨(blk_cell BK220.out 0).trans rfl, (blk_cell BK220.out 1).trans rfl, (blk_cell BK221.out 0).trans rfl, (blk_cell BK221.out 1).trans rfl⟩ (fun hHeld => ?_)
           clear hK K
           refine norm_ (a' := ?_) ?_ ?_
           rotate_left; focus (show Act.put _ (some 8) _ = _; simp only [Act.put, z1, z2, z3, i64_w, i32_w]; rfl)
           exact norm_ (by first | (simp only [putAll, Act.put, z1, z2, z3]; done) | (simp only [putAll, Act.put, z1, z2, z3]; rfl)) (hJ6_10_11 (v232, v236, gb238) _ ⟨hHeld, (by (with_reducible repeat (first | apply Kd.V_alloc | apply Kd.V_drewN | apply Kd.V_drew)); exact Kd.V_mono HO0_1.out (fun _ hk => ⟨hk.1.1, ⟨hk.1.2.1, ⟨hk.1.2.2.1, ⟨hk.1.2.2.2.1, ⟨hk.1.2.2.2.2, hk.2⟩⟩⟩⟩⟩)), (by (with_reducible repeat (first | apply Kd.V_alloc | apply Kd.V_drewN | apply Kd.V_drew)); exact Kd.V_mono HO226.out (fun _ hk => ⟨hk.1.1, ⟨hk.1.2.1, ⟨hk.1.2.2.1, ⟨hk.1.2.2.2.1, ⟨hk.1.2.2.2.2, hk.2⟩⟩⟩⟩⟩)), (by (with_reducible repeat (first | apply Kd.V_alloc | apply Kd.V_drewN | apply Kd.V_drew)); exact Kd.V_mono HO229.out (fun _ hk => ⟨hk.1.1, ⟨hk.1.2.1, ⟨hk.1.2.2.1, ⟨hk.1.2.2.2.1, ⟨hk.1.2.2.2.2, hk.2⟩⟩⟩⟩⟩)), (by (with_reducible repeat (first | apply Kd.V_alloc | apply Kd.V_drewN | apply Kd.V_drew)); exact Kd.V_mono HO233.out (fun _ hk => ⟨hk.1.1, ⟨hk.1.2.1, ⟨hk.1.2.2.1, ⟨hk.1.2.2.2.1, ⟨hk.1.2.2.2.2, hk.2⟩⟩⟩⟩⟩)), (by (with_reducible repeat (first | apply Kd.V_alloc | apply Kd.V_drewN | apply Kd.V_drew)); exact Kd.V_mono HO237.out (fun _ hk => ⟨hk.1.1, ⟨hk.1.2.1, ⟨hk.1.2.2.1, ⟨hk.1.2.2.2.1, ⟨hk.1.2.2.2.2, hk.2⟩⟩⟩⟩⟩)), (bk BK220.out), (bk BK221.out), (bk BK222.out), (bk BK223.out), (bk BK238.out), GW238.out, GE238.out, NB220_238.out, NB238_220.out, NB221_238.out, NB238_221.out, NB222_238.out, NB238_222.out, NB223_238.out, NB238_223.out, bl⟩)
         skip
         refine box_step ?hg (N := 9) ?hd (cs := #[.bool false, .slice none 0 0]) (t := 43) ?hr ?_; (case hd => rfl); (case hg => rfl); (case hr => first | (go_simp; done) | (go_simp; rfl))
         intro gb239 hg w57 hbox hb
         have n0_ := Aside0.mk (Kd.V_below (Kd.V_elderB (by (with_reducible repeat (first | apply Kd.V_alloc | apply Kd.V_drewN | apply Kd.V_drew)); exact HO0_1.out) gb239 (Nat.le_of_eq hg.symm)) hb)
         have n1_ := Aside0.mk (Kd.V_below (Kd.V_elderB (by (with_reducible repeat (first | apply Kd.V_alloc | apply Kd.V_drewN | apply Kd.V_drew)); exact HO226.out) gb239 (Nat.le_of_eq hg.symm)) hb)
         have n2_ := Aside0.mk (Kd.V_below (Kd.V_elderB (by (with_reducible repeat (first | apply Kd.V_alloc | apply Kd.V_drewN | apply Kd.V_drew)); exact HO229.out) gb239 (Nat.le_of_eq hg.symm)) hb)
         have n3_ := Aside0.mk (Kd.V_below (Kd.V_elderB (by (with_reducible repeat (first | apply Kd.V_alloc | apply Kd.V_drewN | apply Kd.V_drew)); exact HO233.out) gb239 (Nat.le_of_eq hg.symm)) hb)
         have n4_ := Aside0.mk (Kd.V_below (Kd.V_elderB (by (with_reducible repeat (first | apply Kd.V_alloc | apply Kd.V_drewN | apply Kd.V_drew)); exact HO237.out) gb239 (Nat.le_of_eq hg.symm)) hb)
         have n5_ := Aside0.mk (bb BK220.out hb)
         have n6_ := Aside0.mk (bb BK221.out hb)
         have n7_ := Aside0.mk (bb BK222.out hb)
         have n8_ := Aside0.mk (bb BK223.out hb)
         have n9_ := Aside0.mk (below_step bl hb)
         have n10_ := Aside0.mk (hbox)
         have n11_ := Aside0.mk (ge (w := w) hg)
         have n12_ := Aside0.mk (ge (w := w) hg)
         have n13_ := Aside0.mk (nl hg (bk BK220.out))
         have n14_ := Aside0.mk (ng hg (bk BK220.out))
         have n15_ := Aside0.mk (nl hg (bk BK221.out))
         have n16_ := Aside0.mk (ng hg (bk BK221.out))
         have n17_ := Aside0.mk (nl hg (bk BK222.out))
         have n18_ := Aside0.mk (ng hg (bk BK222.out))
         have n19_ := Aside0.mk (nl hg (bk BK223.out))
         have n20_ := Aside0.mk (ng hg (bk BK223.out))
         clear HO0_1
         clear HO226
         clear HO229
         clear HO233
         clear HO237
         clear BK220
         clear BK221
         clear BK222
         clear BK223
         clear HB
         have HO0_1 := n0_
         have HO226 := n1_
         have HO229 := n2_
         have HO233 := n3_
         have HO237 := n4_
         have BK220 := n5_
         have BK221 := n6_
         have BK222 := n7_
         have BK223 := n8_
         have HB := n9_
         have BK239 := n10_
         have GW239 := n11_
         have GE239 := n12_
         have NB220_239 := n13_
         have NB239_220 := n14_
         have NB221_239 := n15_
         have NB239_221 := n16_
         have NB222_239 := n17_
         have NB239_222 := n18_
         have NB223_239 := n19_
         have NB239_223 := n20_
         clear n0_ n1_ n2_ n3_ n4_ n5_ n6_ n7_ n8_ n9_ n10_ n11_ n12_ n13_ n14_ n15_ n16_ n17_ n18_ n19_ n20_
         clear hb hbox hg
         refine hK.out _ _ ⟨(blk_cell BK220.out 0).trans rfl, (blk_cell BK220.out 1).trans rfl, (blk_cell BK221.out 0).trans rfl, (blk_cell BK221.out 1).trans rfl⟩ (fun hHeld => ?_)
         clear hK K
         refine norm_ (a' := ?_) ?_ ?_
         rotate_left; focus (show Act.put _ (some 9) _ = _; simp only [Act.put, z1, z2, z3, i64_w, i32_w]; rfl)
         exact norm_ (by first | (simp only [putAll, Act.put, z1, z2, z3]; done) | (simp only [putAll, Act.put, z1, z2, z3]; rfl)) (hJ6_10_12 (v232, v236, gb239) _ ⟨hHeld, (by (with_reducible repeat (first | apply Kd.V_alloc | apply Kd.V_drewN | apply Kd.V_drew)); exact Kd.V_mono HO0_1.out (fun _ hk => ⟨hk.1.1, ⟨hk.1.2.1, ⟨hk.1.2.2.1, ⟨hk.1.2.2.2.1, ⟨hk.1.2.2.2.2, hk.2⟩⟩⟩⟩⟩)), (by (with_reducible repeat (first | apply Kd.V_alloc | apply Kd.V_drewN | apply Kd.V_drew)); exact Kd.V_mono HO226.out (fun _ hk => ⟨hk.1.1, ⟨hk.1.2.1, ⟨hk.1.2.2.1, ⟨hk.1.2.2.2.1, ⟨hk.1.2.2.2.2, hk.2⟩⟩⟩⟩⟩)), (by (with_reducible repeat (first | apply Kd.V_alloc | apply Kd.V_drewN | apply Kd.V_drew)); exact Kd.V_mono HO229.out (fun _ hk => ⟨hk.1.1, ⟨hk.1.2.1, ⟨hk.1.2.2.1, ⟨hk.1.2.2.2.1, ⟨hk.1.2.2.2.2, hk.2⟩⟩⟩⟩⟩)), (by (with_reducible repeat (first | apply Kd.V_alloc | apply Kd.V_drewN | apply Kd.V_drew)); exact Kd.V_mono HO233.out (fun _ hk => ⟨hk.1.1, ⟨hk.1.2.1, ⟨hk.1.2.2.1, ⟨hk.1.2.2.2.1, ⟨hk.1.2.2.2.2, hk.2⟩⟩⟩⟩⟩)), (by (with_reducible repeat (first | apply Kd.V_alloc | apply Kd.V_drewN | apply Kd.V_drew)); exact Kd.V_mono HO237.out (fun _ hk => ⟨hk.1.1, ⟨hk.1.2.1, ⟨hk.1.2.2.1, ⟨hk.1.2.2.2.1, ⟨hk.1.2.2.2.2, hk.2⟩⟩⟩⟩⟩)), (bk BK220.out), (bk BK221.out), (bk BK222.out), (bk BK223.out), (bk BK239.out), GW239.out, GE239.out, NB220_239.out, NB239_220.out, NB221_239.out, NB239_221.out, NB222_239.out, NB239_222.out, NB223_239.out, NB239_223.out, bl⟩)
       skip
       rintro ⟨v232, gb238, gb239⟩ w57 ⟨hS_, h0_, h1_, h2_, h3_, h4_, h5_, h6_, h7_, h8_, h9_, h10_, h11_, h12_, h13_, h14_, h15_, h16_, h17_, h18_, h19_, h20_, h21_, h22_, h23_, h24_, h25_, h26_, h27_, h28_, h29_, h30_, h31_, h32_⟩
       have n0_ : Aside0 (Kd.V (Kd.int .u32) 97 w57 w.heap.size (fun k_ => (P0_1_ k_ ∨ w.heap.size ≤ k_) ∧ k_ ≠ gb220 ∧ k_ ≠ gb221 ∧ k_ ≠ gb222 ∧ k_ ≠ gb223 ∧ k_ ≠ gb238 ∧ k_ ≠ gb239) (.slice A0_1 l0_1.length c0_1) l0_1) := ⟨h0_⟩
       have n1_ : Aside0 (Kd.V (Kd.int .u32) 97 w57 w.heap.size (fun k_ => (P0_1_ k_ ∨ w.heap.size ≤ k_) ∧ k_ ≠ gb220 ∧ k_ ≠ gb221 ∧ k_ ≠ gb222 ∧ k_ ≠ gb223 ∧ k_ ≠ gb238 ∧ k_ ≠ gb239) (.slice Ao51 t224.length co51) t224) := ⟨h1_⟩
       have n2_ : Aside0 (Kd.V (Kd.int .u32) 97 w57 w.heap.size (fun k_ => (P0_1_ k_ ∨ w.heap.size ≤ k_) ∧ k_ ≠ gb220 ∧ k_ ≠ gb221 ∧ k_ ≠ gb222 ∧ k_ ≠ gb223 ∧ k_ ≠ gb238 ∧ k_ ≠ gb239) (.slice Ao52 t227.length co52) t227) := ⟨h2_⟩
       have n3_ : Aside0 (Kd.V (Kd.int .u32) 97 w57 w.heap.size (fun k_ => (P0_1_ k_ ∨ w.heap.size ≤ k_) ∧ k_ ≠ gb220 ∧ k_ ≠ gb221 ∧ k_ ≠ gb222 ∧ k_ ≠ gb223 ∧ k_ ≠ gb238 ∧ k_ ≠ gb239) v232 t231) := ⟨h3_⟩
       have n4_ : Aside0 (w57.heap[gb220]? = some (.cells #[.bool a0_0, .slice A0_1 l0_1.length c0_1] 43 (0, 0))) := ⟨h4_⟩
       have n5_ : Aside0 (w57.heap[gb221]? = some (.cells #[.bool a1_0, .slice A1_1 l1_1.length c1_1] 43 (0, 0))) := ⟨h5_⟩
       have n6_ : Aside0 (w57.heap[gb222]? = some (.cells #[.bool false, .slice none 0 0] 43 (0, 0))) := ⟨h6_⟩
       have n7_ : Aside0 (w57.heap[gb223]? = some (.cells #[.bool false, .slice none 0 0] 43 (0, 0))) := ⟨h7_⟩
       have n8_ : Aside0 (w57.heap[gb238]? = some (.cells #[.bool false, .slice none 0 0] 43 (0, 0))) := ⟨h8_⟩
       have n9_ : Aside0 (w57.heap[gb239]? = some (.cells #[.bool false, .slice none 0 0] 43 (0, 0))) := ⟨h9_⟩
       have n10_ : Aside0 (w.heap.size ≤ gb238) := ⟨h10_⟩
       have n11_ : Aside0 (w.heap.size ≤ gb238) := ⟨h11_⟩
       have n12_ : Aside0 (gb220 ≠ gb238) := ⟨h12_⟩
       have n13_ : Aside0 (gb238 ≠ gb220) := ⟨h13_⟩
       have n14_ : Aside0 (gb221 ≠ gb238) := ⟨h14_⟩
       have n15_ : Aside0 (gb238 ≠ gb221) := ⟨h15_⟩
       have n16_ : Aside0 (gb222 ≠ gb238) := ⟨h16_⟩
       have n17_ : Aside0 (gb238 ≠ gb222) := ⟨h17_⟩
       have n18_ : Aside0 (gb223 ≠ gb238) := ⟨h18_⟩
       have n19_ : Aside0 (gb238 ≠ gb223) := ⟨h19_⟩
       have n20_ : Aside0 (gb239 ≠ gb238) := ⟨h20_⟩
       have n21_ : Aside0 (gb238 ≠ gb239) := ⟨h21_⟩
       have n22_ : Aside0 (w.heap.size ≤ gb239) := ⟨h22_⟩
       have n23_ : Aside0 (w.heap.size ≤ gb239) := ⟨h23_⟩
       have n24_ : Aside0 (gb220 ≠ gb239) := ⟨h24_⟩
       have n25_ : Aside0 (gb239 ≠ gb220) := ⟨h25_⟩
       have n26_ : Aside0 (gb221 ≠ gb239) := ⟨h26_⟩
       have n27_ : Aside0 (gb239 ≠ gb221) := ⟨h27_⟩
       have n28_ : Aside0 (gb222 ≠ gb239) := ⟨h28_⟩
       have n29_ : Aside0 (gb239 ≠ gb222) := ⟨h29_⟩
       have n30_ : Aside0 (gb223 ≠ gb239) := ⟨h30_⟩
       have n31_ : Aside0 (gb239 ≠ gb223) := ⟨h31_⟩
       have n32_ : Aside0 (Below w.heap.size w w57) := ⟨h32_⟩
       clear HO0_1
       clear HO226
       clear HO229
       clear BK220
       clear BK221
       clear BK222
       clear BK223
       clear HB
       clear h0_ h1_ h2_ h3_ h4_ h5_ h6_ h7_ h8_ h9_ h10_ h11_ h12_ h13_ h14_ h15_ h16_ h17_ h18_ h19_ h20_ h21_ h22_ h23_ h24_ h25_ h26_ h27_ h28_ h29_ h30_ h31_ h32_
       have HO0_1 := n0_
       have HO226 := n1_
       have HO229 := n2_
       have HO233 := n3_
       have BK220 := n4_
       have BK221 := n5_
       have BK222 := n6_
       have BK223 := n7_
       have BK238 := n8_
       have BK239 := n9_
       have GW238 := n10_
       have GE238 := n11_
       have NB220_238 := n12_
       have NB238_220 := n13_
       have NB221_238 := n14_
       have NB238_221 := n15_
       have NB222_238 := n16_
       have NB238_222 := n17_
       have NB223_238 := n18_
       have NB238_223 := n19_
       have NB239_238 := n20_
       have NB238_239 := n21_
       have GW239 := n22_
       have GE239 := n23_
       have NB220_239 := n24_
       have NB239_220 := n25_
       have NB221_239 := n26_
       have NB239_221 := n27_
       have NB222_239 := n28_
       have NB239_222 := n29_
       have NB223_239 := n30_
       have NB239_223 := n31_
       have HB := n32_
       clear n0_ n1_ n2_ n3_ n4_ n5_ n6_ n7_ n8_ n9_ n10_ n11_ n12_ n13_ n14_ n15_ n16_ n17_ n18_ n19_ n20_ n21_ n22_ n23_ n24_ n25_ n26_ n27_ n28_ n29_ n30_ n31_ n32_
       refine norm_ (a' := ?_) ?_ ?_
       rotate_left
       · simp only [putAll, Act.put, z1, z2, z3]
         rfl
       refine one_ (i := 10) (N := some 28) (zb 13 2) rfl rfl (one_of HT_.out (by kernel_rfl)) (by decide) (fun K hK => ?_)
       refine goes_ Try.func68 (by kernel_rfl) rfl #[.bool a0_0, .slice Ao52 t227.length co52] (by rfl) rfl rfl (by (try simp only [List.map_toArray, List.map_cons, List.map_nil]); first | done | rfl | (simp only [List.length_drop, List.length_take]; rfl)) ?_
       with_reducible refine (exact_made.calls a0_0 (fun k_ => ((P0_1_ k_ ∨ w.heap.size ≤ k_) ∧ (k_ ≠ gb220 ∧ (k_ ≠ gb221 ∧ (k_ ≠ gb222 ∧ (k_ ≠ gb223 ∧ (k_ ≠ gb238 ∧ k_ ≠ gb239))))))) _ _ t227 false t235 _ ?side1 A5.out).mono ?_
       (case side1 => exact HO229.out)
       rintro e w58 ⟨v236, rfl, ho0, hb⟩
       refine ⟨_, rfl, ?_⟩
       have n0_ := Aside0.mk (vb HO0_1.out hb)
       have n1_ := Aside0.mk (vb HO226.out hb)
       have n2_ := Aside0.mk (vb HO229.out hb)
       have n3_ := Aside0.mk (vb HO233.out hb)
       have n4_ := Aside0.mk (Kd.V_lower (Kd.V_mono (ok' := fun k_ => (P0_1_ k_ ∨ w.heap.size ≤ k_) ∧ k_ ≠ gb220 ∧ k_ ≠ gb221 ∧ k_ ≠ gb222 ∧ k_ ≠ gb223 ∧ k_ ≠ gb238 ∧ k_ ≠ gb239) ho0 (fun k_ hk_ => ⟨Or.elim hk_ (fun hs_ => hs_.1) (fun hn_ => (.inr (Nat.le_trans (below_size bl) hn_))), Or.elim hk_ (fun hs_ => hs_.2.1) (fun hn_ => (Kd.freshB (g := gb220) (o := .cells #[.bool a0_0, .slice A0_1 l0_1.length c0_1] 43 (0, 0)) (bk BK220.out) k_ hn_)), Or.elim hk_ (fun hs_ => hs_.2.2.1) (fun hn_ => (Kd.freshB (g := gb221) (o := .cells #[.bool a1_0, .slice A1_1 l1_1.length c1_1] 43 (0, 0)) (bk BK221.out) k_ hn_)), Or.elim hk_ (fun hs_ => hs_.2.2.2.1) (fun hn_ => (Kd.freshB (g := gb222) (o := .cells #[.bool false, .slice none 0 0] 43 (0, 0)) (bk BK222.out) k_ hn_)), Or.elim hk_ (fun hs_ => hs_.2.2.2.2.1) (fun hn_ => (Kd.freshB (g := gb223) (o := .cells #[.bool false, .slice none 0 0] 43 (0, 0)) (bk BK223.out) k_ hn_)), Or.elim hk_ (fun hs_ => hs_.2.2.2.2.2.1) (fun hn_ => (Kd.freshB (g := gb238) (o := .cells #[.bool false, .slice none 0 0] 43 (0, 0)) (bk BK238.out) k_ hn_)), Or.elim hk_ (fun hs_ => hs_.2.2.2.2.2.2) (fun hn_ => (Kd.freshB (g := gb239) (o := .cells #[.bool false, .slice none 0 0] 43 (0, 0)) (bk BK239.out) k_ hn_))⟩)) (below_size bl))
       have n5_ := Aside0.mk (bb BK220.out hb)
       have n6_ := Aside0.mk (bb BK221.out hb)
       have n7_ := Aside0.mk (bb BK222.out hb)
       have n8_ := Aside0.mk (bb BK223.out hb)
       have n9_ := Aside0.mk (bb BK238.out hb)
       have n10_ := Aside0.mk (bb BK239.out hb)
       have n11_ := Aside0.mk (below_step bl hb)
       clear HO0_1
       clear HO226
       clear HO229
       clear HO233
       clear BK220
       clear BK221
       clear BK222
       clear BK223
       clear BK238
       clear BK239
       clear HB
       have HO0_1 := n0_
       have HO226 := n1_
       have HO229 := n2_
       have HO233 := n3_
       have HO237 := n4_
       have BK220 := n5_
       have BK221 := n6_
       have BK222 := n7_
       have BK223 := n8_
       have BK238 := n9_
       have BK239 := n10_
       have HB := n11_
       clear n0_ n1_ n2_ n3_ n4_ n5_ n6_ n7_ n8_ n9_ n10_ n11_
       (try clear hb)
       (try clear hb2)
       (try clear hk)
       (try clear hi)
       (try clear ho0)
       refine hK.out _ _ ⟨(blk_cell BK220.out 0).trans rfl, (blk_cell BK220.out 1).trans rfl, (blk_cell BK221.out 0).trans rfl, (blk_cell BK221.out 1).trans rfl⟩ (fun hHeld => ?_)
       clear hK K
       refine norm_ (a' := ?_) ?_ ?_
       rotate_left; focus (show Act.put _ (some 28) _ = _; simp only [Act.put, z1, z2, z3, i64_w, i32_w]; rfl)
       exact norm_ (by first | (simp only [putAll, Act.put, z1, z2, z3]; done) | (simp only [putAll, Act.put, z1, z2, z3]; rfl)) (hJ6_10_11_12 (v232, v236, gb238, gb239) _ ⟨hHeld, (by (with_reducible repeat (first | apply Kd.V_alloc | apply Kd.V_drewN | apply Kd.V_drew)); exact HO0_1.out), (by (with_reducible repeat (first | apply Kd.V_alloc | apply Kd.V_drewN | apply Kd.V_drew)); exact HO226.out), (by (with_reducible repeat (first | apply Kd.V_alloc | apply Kd.V_drewN | apply Kd.V_drew)); exact HO229.out), (by (with_reducible repeat (first | apply Kd.V_alloc | apply Kd.V_drewN | apply Kd.V_drew)); exact HO233.out), (by (with_reducible repeat (first | apply Kd.V_alloc | apply Kd.V_drewN | apply Kd.V_drew)); exact HO237.out), (bk BK220.out), (bk BK221.out), (bk BK222.out), (bk BK223.out), (bk BK238.out), (bk BK239.out), GW238.out, GE238.out, NB220_238.out, NB238_220.out, NB221_238.out, NB238_221.out, NB222_238.out, NB238_222.out, NB223_238.out, NB238_223.out, NB239_238.out, NB238_239.out, GW239.out, GE239.out, NB220_239.out, NB239_220.out, NB221_239.out, NB239_221.out, NB222_239.out, NB239_222.out, NB223_239.out, NB239_223.out, bl⟩)
     skip
     rintro ⟨v232, v236, gb239⟩ w57 ⟨hS_, h0_, h1_, h2_, h3_, h4_, h5_, h6_, h7_, h8_, h9_, h10_, h11_, h12_, h13_, h14_, h15_, h16_, h17_, h18_, h19_, h20_⟩
     have n0_ : Aside0 (Kd.V (Kd.int .u32) 97 w57 w.heap.size (fun k_ => (P0_1_ k_ ∨ w.heap.size ≤ k_) ∧ k_ ≠ gb220 ∧ k_ ≠ gb221 ∧ k_ ≠ gb222 ∧ k_ ≠ gb223 ∧ k_ ≠ gb239) (.slice A0_1 l0_1.length c0_1) l0_1) := ⟨h0_⟩
     have n1_ : Aside0 (Kd.V (Kd.int .u32) 97 w57 w.heap.size (fun k_ => (P0_1_ k_ ∨ w.heap.size ≤ k_) ∧ k_ ≠ gb220 ∧ k_ ≠ gb221 ∧ k_ ≠ gb222 ∧ k_ ≠ gb223 ∧ k_ ≠ gb239) (.slice Ao51 t224.length co51) t224) := ⟨h1_⟩
     have n2_ : Aside0 (Kd.V (Kd.int .u32) 97 w57 w.heap.size (fun k_ => (P0_1_ k_ ∨ w.heap.size ≤ k_) ∧ k_ ≠ gb220 ∧ k_ ≠ gb221 ∧ k_ ≠ gb222 ∧ k_ ≠ gb223 ∧ k_ ≠ gb239) (.slice Ao52 t227.length co52) t227) := ⟨h2_⟩
     have n3_ : Aside0 (Kd.V (Kd.int .u32) 97 w57 w.heap.size (fun k_ => (P0_1_ k_ ∨ w.heap.size ≤ k_) ∧ k_ ≠ gb220 ∧ k_ ≠ gb221 ∧ k_ ≠ gb222 ∧ k_ ≠ gb223 ∧ k_ ≠ gb239) v232 t231) := ⟨h3_⟩
     have n4_ : Aside0 (Kd.V (Kd.int .u32) 97 w57 w.heap.size (fun k_ => (P0_1_ k_ ∨ w.heap.size ≤ k_) ∧ k_ ≠ gb220 ∧ k_ ≠ gb221 ∧ k_ ≠ gb222 ∧ k_ ≠ gb223 ∧ k_ ≠ gb239) v236 t235) := ⟨h4_⟩
     have n5_ : Aside0 (w57.heap[gb220]? = some (.cells #[.bool a0_0, .slice A0_1 l0_1.length c0_1] 43 (0, 0))) := ⟨h5_⟩
     have n6_ : Aside0 (w57.heap[gb221]? = some (.cells #[.bool a1_0, .slice A1_1 l1_1.length c1_1] 43 (0, 0))) := ⟨h6_⟩
     have n7_ : Aside0 (w57.heap[gb222]? = some (.cells #[.bool false, .slice none 0 0] 43 (0, 0))) := ⟨h7_⟩
     have n8_ : Aside0 (w57.heap[gb223]? = some (.cells #[.bool false, .slice none 0 0] 43 (0, 0))) := ⟨h8_⟩
     have n9_ : Aside0 (w57.heap[gb239]? = some (.cells #[.bool false, .slice none 0 0] 43 (0, 0))) := ⟨h9_⟩
     have n10_ : Aside0 (w.heap.size ≤ gb239) := ⟨h10_⟩
     have n11_ : Aside0 (w.heap.size ≤ gb239) := ⟨h11_⟩
     have n12_ : Aside0 (gb220 ≠ gb239) := ⟨h12_⟩
     have n13_ : Aside0 (gb239 ≠ gb220) := ⟨h13_⟩
     have n14_ : Aside0 (gb221 ≠ gb239) := ⟨h14_⟩
     have n15_ : Aside0 (gb239 ≠ gb221) := ⟨h15_⟩
     have n16_ : Aside0 (gb222 ≠ gb239) := ⟨h16_⟩
     have n17_ : Aside0 (gb239 ≠ gb222) := ⟨h17_⟩
     have n18_ : Aside0 (gb223 ≠ gb239) := ⟨h18_⟩
     have n19_ : Aside0 (gb239 ≠ gb223) := ⟨h19_⟩
     have n20_ : Aside0 (Below w.heap.size w w57) := ⟨h20_⟩
     clear HO0_1
     clear HO226
     clear HO229
     clear BK220
     clear BK221
     clear BK222
     clear BK223
     clear HB
     clear h0_ h1_ h2_ h3_ h4_ h5_ h6_ h7_ h8_ h9_ h10_ h11_ h12_ h13_ h14_ h15_ h16_ h17_ h18_ h19_ h20_
     have HO0_1 := n0_
     have HO226 := n1_
     have HO229 := n2_
     have HO233 := n3_
     have HO237 := n4_
     have BK220 := n5_
     have BK221 := n6_
     have BK222 := n7_
     have BK223 := n8_
     have BK239 := n9_
     have GW239 := n10_
     have GE239 := n11_
     have NB220_239 := n12_
     have NB239_220 := n13_
     have NB221_239 := n14_
     have NB239_221 := n15_
     have NB222_239 := n16_
     have NB239_222 := n17_
     have NB223_239 := n18_
     have NB239_223 := n19_
     have HB := n20_
     clear n0_ n1_ n2_ n3_ n4_ n5_ n6_ n7_ n8_ n9_ n10_ n11_ n12_ n13_ n14_ n15_ n16_ n17_ n18_ n19_ n20_
     refine norm_ (a' := ?_) ?_ ?_
     rotate_left
     · simp only [putAll, Act.put, z1, z2, z3]
       rfl
     refine one_ (i := 11) (N := some 8) (zb 13 2) rfl rfl (one_of HT_.out (by kernel_rfl)) (by decide) (fun K hK => ?_)
     refine box_step ?hg (N := 8) ?hd (cs := #[.bool false, .slice none 0 0]) (t := 43) ?hr ?_; (case hd => rfl); (case hg => rfl); (case hr => first | (go_simp; done) | (go_simp; rfl))
     intro gb238 hg w58 hbox hb
     have n0_ := Aside0.mk (Kd.V_below (Kd.V_elderB (by (with_reducible repeat (first | apply Kd.V_alloc | apply Kd.V_drewN | apply Kd.V_drew)); exact HO0_1.out) gb238 (Nat.le_of_eq hg.symm)) hb)
     have n1_ := Aside0.mk (Kd.V_below (Kd.V_elderB (by (with_reducible repeat (first | apply Kd.V_alloc | apply Kd.V_drewN | apply Kd.V_drew)); exact HO226.out) gb238 (Nat.le_of_eq hg.symm)) hb)
     have n2_ := Aside0.mk (Kd.V_below (Kd.V_elderB (by (with_reducible repeat (first | apply Kd.V_alloc | apply Kd.V_drewN | apply Kd.V_drew)); exact HO229.out) gb238 (Nat.le_of_eq hg.symm)) hb)
     have n3_ := Aside0.mk (Kd.V_below (Kd.V_elderB (by (with_reducible repeat (first | apply Kd.V_alloc | apply Kd.V_drewN | apply Kd.V_drew)); exact HO233.out) gb238 (Nat.le_of_eq hg.symm)) hb)
     have n4_ := Aside0.mk (Kd.V_below (Kd.V_elderB (by (with_reducible repeat (first | apply Kd.V_alloc | apply Kd.V_drewN | apply Kd.V_drew)); exact HO237.out) gb238 (Nat.le_of_eq hg.symm)) hb)
     have n5_ := Aside0.mk (bb BK220.out hb)
     have n6_ := Aside0.mk (bb BK221.out hb)
     have n7_ := Aside0.mk (bb BK222.out hb)
     have n8_ := Aside0.mk (bb BK223.out hb)
     have n9_ := Aside0.mk (bb BK239.out hb)
     have n10_ := Aside0.mk (below_step bl hb)
     have n11_ := Aside0.mk (hbox)
     have n12_ := Aside0.mk (ge (w := w) hg)
     have n13_ := Aside0.mk (ge (w := w) hg)
     have n14_ := Aside0.mk (nl hg (bk BK220.out))
     have n15_ := Aside0.mk (ng hg (bk BK220.out))
     have n16_ := Aside0.mk (nl hg (bk BK221.out))
     have n17_ := Aside0.mk (ng hg (bk BK221.out))
     have n18_ := Aside0.mk (nl hg (bk BK222.out))
     have n19_ := Aside0.mk (ng hg (bk BK222.out))
     have n20_ := Aside0.mk (nl hg (bk BK223.out))
     have n21_ := Aside0.mk (ng hg (bk BK223.out))
     have n22_ := Aside0.mk (nl hg (bk BK239.out))
     have n23_ := Aside0.mk (ng hg (bk BK239.out))
     clear HO0_1
     clear HO226
     clear HO229
     clear HO233
     clear HO237
     clear BK220
     clear BK221
     clear BK222
     clear BK223
     clear BK239
     clear HB
     have HO0_1 := n0_
     have HO226 := n1_
     have HO229 := n2_
     have HO233 := n3_
     have HO237 := n4_
     have BK220 := n5_
     have BK221 := n6_
     have BK222 := n7_
     have BK223 := n8_
     have BK239 := n9_
     have HB := n10_
     have BK238 := n11_
     have GW238 := n12_
     have GE238 := n13_
     have NB220_238 := n14_
     have NB238_220 := n15_
     have NB221_238 := n16_
     have NB238_221 := n17_
     have NB222_238 := n18_
     have NB238_222 := n19_
     have NB223_238 := n20_
     have NB238_223 := n21_
     have NB239_238 := n22_
     have NB238_239 := n23_
     clear n0_ n1_ n2_ n3_ n4_ n5_ n6_ n7_ n8_ n9_ n10_ n11_ n12_ n13_ n14_ n15_ n16_ n17_ n18_ n19_ n20_ n21_ n22_ n23_
     clear hb hbox hg
     refine hK.out _ _ ⟨(blk_cell BK220.out 0).trans rfl, (blk_cell BK220.out 1).trans rfl, (blk_cell BK221.out 0).trans rfl, (blk_cell BK221.out 1).trans rfl⟩ (fun hHeld => ?_)
     clear hK K
     refine norm_ (a' := ?_) ?_ ?_
     rotate_left; focus (show Act.put _ (some 8) _ = _; simp only [Act.put, z1, z2, z3, i64_w, i32_w]; rfl)
     exact norm_ (by first | (simp only [putAll, Act.put, z1, z2, z3]; done) | (simp only [putAll, Act.put, z1, z2, z3]; rfl)) (hJ6_10_11_12 (v232, v236, gb238, gb239) _ ⟨hHeld, (by (with_reducible repeat (first | apply Kd.V_alloc | apply Kd.V_drewN | apply Kd.V_drew)); exact Kd.V_mono HO0_1.out (fun _ hk => ⟨hk.1.1, ⟨hk.1.2.1, ⟨hk.1.2.2.1, ⟨hk.1.2.2.2.1, ⟨hk.1.2.2.2.2.1, ⟨hk.2, hk.1.2.2.2.2.2⟩⟩⟩⟩⟩⟩)), (by (with_reducible repeat (first | apply Kd.V_alloc | apply Kd.V_drewN | apply Kd.V_drew)); exact Kd.V_mono HO226.out (fun _ hk => ⟨hk.1.1, ⟨hk.1.2.1, ⟨hk.1.2.2.1, ⟨hk.1.2.2.2.1, ⟨hk.1.2.2.2.2.1, ⟨hk.2, hk.1.2.2.2.2.2⟩⟩⟩⟩⟩⟩)), (by (with_reducible repeat (first | apply Kd.V_alloc | apply Kd.V_drewN | apply Kd.V_drew)); exact Kd.V_mono HO229.out (fun _ hk => ⟨hk.1.1, ⟨hk.1.2.1, ⟨hk.1.2.2.1, ⟨hk.1.2.2.2.1, ⟨hk.1.2.2.2.2.1, ⟨hk.2, hk.1.2.2.2.2.2⟩⟩⟩⟩⟩⟩)), (by (with_reducible repeat (first | apply Kd.V_alloc | apply Kd.V_drewN | apply Kd.V_drew)); exact Kd.V_mono HO233.out (fun _ hk => ⟨hk.1.1, ⟨hk.1.2.1, ⟨hk.1.2.2.1, ⟨hk.1.2.2.2.1, ⟨hk.1.2.2.2.2.1, ⟨hk.2, hk.1.2.2.2.2.2⟩⟩⟩⟩⟩⟩)), (by (with_reducible repeat (first | apply Kd.V_alloc | apply Kd.V_drewN | apply Kd.V_drew)); exact Kd.V_mono HO237.out (fun _ hk => ⟨hk.1.1, ⟨hk.1.2.1, ⟨hk.1.2.2.1, ⟨hk.1.2.2.2.1, ⟨hk.1.2.2.2.2.1, ⟨hk.2, hk.1.2.2.2.2.2⟩⟩⟩⟩⟩⟩)), (bk BK220.out), (bk BK221.out), (bk BK222.out), (bk BK223.out), (bk BK238.out), (bk BK239.out), GW238.out, GE238.out, NB220_238.out, NB238_220.out, NB221_238.out, NB238_221.out, NB222_238.out, NB238_222.out, NB223_238.out, NB238_223.out, NB239_238.out, NB238_239.out, GW239.out, GE239.out, NB220_239.out, NB239_220.out, NB221_239.out, NB239_221.out, NB222_239.out, NB239_222.out, NB223_239.out, NB239_223.out, bl⟩)
   skip
   rintro ⟨v232, v236, gb238⟩ w57 ⟨hS_, h0_, h1_, h2_, h3_, h4_, h5_, h6_, h7_, h8_, h9_, h10_, h11_, h12_, h13_, h14_, h15_, h16_, h17_, h18_, h19_, h20_⟩
   have n0_ : Aside0 (Kd.V (Kd.int .u32) 97 w57 w.heap.size (fun k_ => (P0_1_ k_ ∨ w.heap.size ≤ k_) ∧ k_ ≠ gb220 ∧ k_ ≠ gb221 ∧ k_ ≠ gb222 ∧ k_ ≠ gb223 ∧ k_ ≠ gb238) (.slice A0_1 l0_1.length c0_1) l0_1) := ⟨h0_⟩
   have n1_ : Aside0 (Kd.V (Kd.int .u32) 97 w57 w.heap.size (fun k_ => (P0_1_ k_ ∨ w.heap.size ≤ k_) ∧ k_ ≠ gb220 ∧ k_ ≠ gb221 ∧ k_ ≠ gb222 ∧ k_ ≠ gb223 ∧ k_ ≠ gb238) (.slice Ao51 t224.length co51) t224) := ⟨h1_⟩
   have n2_ : Aside0 (Kd.V (Kd.int .u32) 97 w57 w.heap.size (fun k_ => (P0_1_ k_ ∨ w.heap.size ≤ k_) ∧ k_ ≠ gb220 ∧ k_ ≠ gb221 ∧ k_ ≠ gb222 ∧ k_ ≠ gb223 ∧ k_ ≠ gb238) (.slice Ao52 t227.length co52) t227) := ⟨h2_⟩
   have n3_ : Aside0 (Kd.V (Kd.int .u32) 97 w57 w.heap.size (fun k_ => (P0_1_ k_ ∨ w.heap.size ≤ k_) ∧ k_ ≠ gb220 ∧ k_ ≠ gb221 ∧ k_ ≠ gb222 ∧ k_ ≠ gb223 ∧ k_ ≠ gb238) v232 t231) := ⟨h3_⟩
   have n4_ : Aside0 (Kd.V (Kd.int .u32) 97 w57 w.heap.size (fun k_ => (P0_1_ k_ ∨ w.heap.size ≤ k_) ∧ k_ ≠ gb220 ∧ k_ ≠ gb221 ∧ k_ ≠ gb222 ∧ k_ ≠ gb223 ∧ k_ ≠ gb238) v236 t235) := ⟨h4_⟩
   have n5_ : Aside0 (w57.heap[gb220]? = some (.cells #[.bool a0_0, .slice A0_1 l0_1.length c0_1] 43 (0, 0))) := ⟨h5_⟩
   have n6_ : Aside0 (w57.heap[gb221]? = some (.cells #[.bool a1_0, .slice A1_1 l1_1.length c1_1] 43 (0, 0))) := ⟨h6_⟩
   have n7_ : Aside0 (w57.heap[gb222]? = some (.cells #[.bool false, .slice none 0 0] 43 (0, 0))) := ⟨h7_⟩
   have n8_ : Aside0 (w57.heap[gb223]? = some (.cells #[.bool false, .slice none 0 0] 43 (0, 0))) := ⟨h8_⟩
   have n9_ : Aside0 (w57.heap[gb238]? = some (.cells #[.bool false, .slice none 0 0] 43 (0, 0))) := ⟨h9_⟩
   have n10_ : Aside0 (w.heap.size ≤ gb238) := ⟨h10_⟩
   have n11_ : Aside0 (w.heap.size ≤ gb238) := ⟨h11_⟩
   have n12_ : Aside0 (gb220 ≠ gb238) := ⟨h12_⟩
   have n13_ : Aside0 (gb238 ≠ gb220) := ⟨h13_⟩
   have n14_ : Aside0 (gb221 ≠ gb238) := ⟨h14_⟩
   have n15_ : Aside0 (gb238 ≠ gb221) := ⟨h15_⟩
   have n16_ : Aside0 (gb222 ≠ gb238) := ⟨h16_⟩
   have n17_ : Aside0 (gb238 ≠ gb222) := ⟨h17_⟩
   have n18_ : Aside0 (gb223 ≠ gb238) := ⟨h18_⟩
   have n19_ : Aside0 (gb238 ≠ gb223) := ⟨h19_⟩
   have n20_ : Aside0 (Below w.heap.size w w57) := ⟨h20_⟩
   clear HO0_1
   clear HO226
   clear HO229
   clear BK220
   clear BK221
   clear BK222
   clear BK223
   clear HB
   clear h0_ h1_ h2_ h3_ h4_ h5_ h6_ h7_ h8_ h9_ h10_ h11_ h12_ h13_ h14_ h15_ h16_ h17_ h18_ h19_ h20_
   have HO0_1 := n0_
   have HO226 := n1_
   have HO229 := n2_
   have HO233 := n3_
   have HO237 := n4_
   have BK220 := n5_
   have BK221 := n6_
   have BK222 := n7_
   have BK223 := n8_
   have BK238 := n9_
   have GW238 := n10_
   have GE238 := n11_
   have NB220_238 := n12_
   have NB238_220 := n13_
   have NB221_238 := n14_
   have NB238_221 := n15_
   have NB222_238 := n16_
   have NB238_222 := n17_
   have NB223_238 := n18_
   have NB238_223 := n19_
   have HB := n20_
   clear n0_ n1_ n2_ n3_ n4_ n5_ n6_ n7_ n8_ n9_ n10_ n11_ n12_ n13_ n14_ n15_ n16_ n17_ n18_ n19_ n20_
   refine norm_ (a' := ?_) ?_ ?_
   rotate_left
   · simp only [putAll, Act.put, z1, z2, z3]
     rfl
   refine one_ (i := 12) (N := some 9) (zb 13 2) rfl rfl (one_of HT_.out (by kernel_rfl)) (by decide) (fun K hK => ?_)
   refine box_step ?hg (N := 9) ?hd (cs := #[.bool false, .slice none 0 0]) (t := 43) ?hr ?_; (case hd => rfl); (case hg => rfl); (case hr => first | (go_simp; done) | (go_simp; rfl))
   intro gb239 hg w58 hbox hb
   have n0_ := Aside0.mk (Kd.V_below (Kd.V_elderB (by (with_reducible repeat (first | apply Kd.V_alloc | apply Kd.V_drewN | apply Kd.V_drew)); exact HO0_1.out) gb239 (Nat.le_of_eq hg.symm)) hb)
   have n1_ := Aside0.mk (Kd.V_below (Kd.V_elderB (by (with_reducible repeat (first | apply Kd.V_alloc | apply Kd.V_drewN | apply Kd.V_drew)); exact HO226.out) gb239 (Nat.le_of_eq hg.symm)) hb)
   have n2_ := Aside0.mk (Kd.V_below (Kd.V_elderB (by (with_reducible repeat (first | apply Kd.V_alloc | apply Kd.V_drewN | apply Kd.V_drew)); exact HO229.out) gb239 (Nat.le_of_eq hg.symm)) hb)
   have n3_ := Aside0.mk (Kd.V_below (Kd.V_elderB (by (with_reducible repeat (first | apply Kd.V_alloc | apply Kd.V_drewN | apply Kd.V_drew)); exact HO233.out) gb239 (Nat.le_of_eq hg.symm)) hb)
   have n4_ := Aside0.mk (Kd.V_below (Kd.V_elderB (by (with_reducible repeat (first | apply Kd.V_alloc | apply Kd.V_drewN | apply Kd.V_drew)); exact HO237.out) gb239 (Nat.le_of_eq hg.symm)) hb)
   have n5_ := Aside0.mk (bb BK220.out hb)
   have n6_ := Aside0.mk (bb BK221.out hb)
   have n7_ := Aside0.mk (bb BK222.out hb)
   have n8_ := Aside0.mk (bb BK223.out hb)
   have n9_ := Aside0.mk (bb BK238.out hb)
   have n10_ := Aside0.mk (below_step bl hb)
   have n11_ := Aside0.mk (hbox)
   have n12_ := Aside0.mk (ge (w := w) hg)
   have n13_ := Aside0.mk (ge (w := w) hg)
   have n14_ := Aside0.mk (nl hg (bk BK220.out))
   have n15_ := Aside0.mk (ng hg (bk BK220.out))
   have n16_ := Aside0.mk (nl hg (bk BK221.out))
   have n17_ := Aside0.mk (ng hg (bk BK221.out))
   have n18_ := Aside0.mk (nl hg (bk BK222.out))
   have n19_ := Aside0.mk (ng hg (bk BK222.out))
   have n20_ := Aside0.mk (nl hg (bk BK223.out))
   have n21_ := Aside0.mk (ng hg (bk BK223.out))
   have n22_ := Aside0.mk (nl hg (bk BK238.out))
   have n23_ := Aside0.mk (ng hg (bk BK238.out))
   clear HO0_1
   clear HO226
   clear HO229
   clear HO233
   clear HO237
   clear BK220
   clear BK221
   clear BK222
   clear BK223
   clear BK238
   clear HB
   have HO0_1 := n0_
   have HO226 := n1_
   have HO229 := n2_
   have HO233 := n3_
   have HO237 := n4_
   have BK220 := n5_
   have BK221 := n6_
   have BK222 := n7_
   have BK223 := n8_
   have BK238 := n9_
   have HB := n10_
   have BK239 := n11_
   have GW239 := n12_
   have GE239 := n13_
   have NB220_239 := n14_
   have NB239_220 := n15_
   have NB221_239 := n16_
   have NB239_221 := n17_
   have NB222_239 := n18_
   have NB239_222 := n19_
   have NB223_239 := n20_
   have NB239_223 := n21_
   have NB238_239 := n22_
   have NB239_238 := n23_
   clear n0_ n1_ n2_ n3_ n4_ n5_ n6_ n7_ n8_ n9_ n10_ n11_ n12_ n13_ n14_ n15_ n16_ n17_ n18_ n19_ n20_ n21_ n22_ n23_
   clear hb hbox hg
   refine hK.out _ _ ⟨(blk_cell BK220.out 0).trans rfl, (blk_cell BK220.out 1).trans rfl, (blk_cell BK221.out 0).trans rfl, (blk_cell BK221.out 1).trans rfl⟩ (fun hHeld => ?_)
   clear hK K
   refine norm_ (a' := ?_) ?_ ?_
   rotate_left; focus (show Act.put _ (some 9) _ = _; simp only [Act.put, z1, z2, z3, i64_w, i32_w]; rfl)
   exact norm_ (by first | (simp only [putAll, Act.put, z1, z2, z3]; done) | (simp only [putAll, Act.put, z1, z2, z3]; rfl)) (hJ6_10_11_12 (v232, v236, gb238, gb239) _ ⟨hHeld, (by (with_reducible repeat (first | apply Kd.V_alloc | apply Kd.V_drewN | apply Kd.V_drew)); exact Kd.V_mono HO0_1.out (fun _ hk => ⟨hk.1.1, ⟨hk.1.2.1, ⟨hk.1.2.2.1, ⟨hk.1.2.2.2.1, ⟨hk.1.2.2.2.2.1, ⟨hk.1.2.2.2.2.2, hk.2⟩⟩⟩⟩⟩⟩)), (by (with_reducible repeat (first | apply Kd.V_alloc | apply Kd.V_drewN | apply Kd.V_drew)); exact Kd.V_mono HO226.out (fun _ hk => ⟨hk.1.1, ⟨hk.1.2.1, ⟨hk.1.2.2.1, ⟨hk.1.2.2.2.1, ⟨hk.1.2.2.2.2.1, ⟨hk.1.2.2.2.2.2, hk.2⟩⟩⟩⟩⟩⟩)), (by (with_reducible repeat (first | apply Kd.V_alloc | apply Kd.V_drewN | apply Kd.V_drew)); exact Kd.V_mono HO229.out (fun _ hk => ⟨hk.1.1, ⟨hk.1.2.1, ⟨hk.1.2.2.1, ⟨hk.1.2.2.2.1, ⟨hk.1.2.2.2.2.1, ⟨hk.1.2.2.2.2.2, hk.2⟩⟩⟩⟩⟩⟩)), (by (with_reducible repeat (first | apply Kd.V_alloc | apply Kd.V_drewN | apply Kd.V_drew)); exact Kd.V_mono HO233.out (fun _ hk => ⟨hk.1.1, ⟨hk.1.2.1, ⟨hk.1.2.2.1, ⟨hk.1.2.2.2.1, ⟨hk.1.2.2.2.2.1, ⟨hk.1.2.2.2.2.2, hk.2⟩⟩⟩⟩⟩⟩)), (by (with_reducible repeat (first | apply Kd.V_alloc | apply Kd.V_drewN | apply Kd.V_drew)); exact Kd.V_mono HO237.out (fun _ hk => ⟨hk.1.1, ⟨hk.1.2.1, ⟨hk.1.2.2.1, ⟨hk.1.2.2.2.1, ⟨hk.1.2.2.2.2.1, ⟨hk.1.2.2.2.2.2, hk.2⟩⟩⟩⟩⟩⟩)), (bk BK220.out), (bk BK221.out), (bk BK222.out), (bk BK223.out), (bk BK238.out), (bk BK239.out), GW238.out, GE238.out, NB220_238.out, NB238_220.out, NB221_238.out, NB238_221.out, NB222_238.out, NB238_222.out, NB223_238.out, NB238_223.out, NB239_238.out, NB238_239.out, GW239.out, GE239.out, NB220_239.out, NB239_220.out, NB221_239.out, NB239_221.out, NB222_239.out, NB239_222.out, NB223_239.out, NB239_223.out, bl⟩)
 rintro ⟨v232, v236, gb238, gb239⟩ w58 ⟨hS_, h0_, h1_, h2_, h3_, h4_, h5_, h6_, h7_, h8_, h9_, h10_, h11_, h12_, h13_, h14_, h15_, h16_, h17_, h18_, h19_, h20_, h21_, h22_, h23_, h24_, h25_, h26_, h27_, h28_, h29_, h30_, h31_, h32_, h33_⟩
 have n0_ : Aside0 (Kd.V (Kd.int .u32) 97 w58 w.heap.size (fun k_ => (P0_1_ k_ ∨ w.heap.size ≤ k_) ∧ k_ ≠ gb220 ∧ k_ ≠ gb221 ∧ k_ ≠ gb222 ∧ k_ ≠ gb223 ∧ k_ ≠ gb238 ∧ k_ ≠ gb239) (.slice A0_1 l0_1.length c0_1) l0_1) := ⟨h0_⟩
 have n1_ : Aside0 (Kd.V (Kd.int .u32) 97 w58 w.heap.size (fun k_ => (P0_1_ k_ ∨ w.heap.size ≤ k_) ∧ k_ ≠ gb220 ∧ k_ ≠ gb221 ∧ k_ ≠ gb222 ∧ k_ ≠ gb223 ∧ k_ ≠ gb238 ∧ k_ ≠ gb239) (.slice Ao51 t224.length co51) t224) := ⟨h1_⟩
 have n2_ : Aside0 (Kd.V (Kd.int .u32) 97 w58 w.heap.size (fun k_ => (P0_1_ k_ ∨ w.heap.size ≤ k_) ∧ k_ ≠ gb220 ∧ k_ ≠ gb221 ∧ k_ ≠ gb222 ∧ k_ ≠ gb223 ∧ k_ ≠ gb238 ∧ k_ ≠ gb239) (.slice Ao52 t227.length co52) t227) := ⟨h2_⟩
 have n3_ : Aside0 (Kd.V (Kd.int .u32) 97 w58 w.heap.size (fun k_ => (P0_1_ k_ ∨ w.heap.size ≤ k_) ∧ k_ ≠ gb220 ∧ k_ ≠ gb221 ∧ k_ ≠ gb222 ∧ k_ ≠ gb223 ∧ k_ ≠ gb238 ∧ k_ ≠ gb239) v232 t231) := ⟨h3_⟩
 have n4_ : Aside0 (Kd.V (Kd.int .u32) 97 w58 w.heap.size (fun k_ => (P0_1_ k_ ∨ w.heap.size ≤ k_) ∧ k_ ≠ gb220 ∧ k_ ≠ gb221 ∧ k_ ≠ gb222 ∧ k_ ≠ gb223 ∧ k_ ≠ gb238 ∧ k_ ≠ gb239) v236 t235) := ⟨h4_⟩
 have n5_ : Aside0 (w58.heap[gb220]? = some (.cells #[.bool a0_0, .slice A0_1 l0_1.length c0_1] 43 (0, 0))) := ⟨h5_⟩
 have n6_ : Aside0 (w58.heap[gb221]? = some (.cells #[.bool a1_0, .slice A1_1 l1_1.length c1_1] 43 (0, 0))) := ⟨h6_⟩
 have n7_ : Aside0 (w58.heap[gb222]? = some (.cells #[.bool false, .slice none 0 0] 43 (0, 0))) := ⟨h7_⟩
 have n8_ : Aside0 (w58.heap[gb223]? = some (.cells #[.bool false, .slice none 0 0] 43 (0, 0))) := ⟨h8_⟩
 have n9_ : Aside0 (w58.heap[gb238]? = some (.cells #[.bool false, .slice none 0 0] 43 (0, 0))) := ⟨h9_⟩
 have n10_ : Aside0 (w58.heap[gb239]? = some (.cells #[.bool false, .slice none 0 0] 43 (0, 0))) := ⟨h10_⟩
 have n11_ : Aside0 (w.heap.size ≤ gb238) := ⟨h11_⟩
 have n12_ : Aside0 (w.heap.size ≤ gb238) := ⟨h12_⟩
 have n13_ : Aside0 (gb220 ≠ gb238) := ⟨h13_⟩
 have n14_ : Aside0 (gb238 ≠ gb220) := ⟨h14_⟩
 have n15_ : Aside0 (gb221 ≠ gb238) := ⟨h15_⟩
 have n16_ : Aside0 (gb238 ≠ gb221) := ⟨h16_⟩
 have n17_ : Aside0 (gb222 ≠ gb238) := ⟨h17_⟩
 have n18_ : Aside0 (gb238 ≠ gb222) := ⟨h18_⟩
 have n19_ : Aside0 (gb223 ≠ gb238) := ⟨h19_⟩
 have n20_ : Aside0 (gb238 ≠ gb223) := ⟨h20_⟩
 have n21_ : Aside0 (gb239 ≠ gb238) := ⟨h21_⟩
 have n22_ : Aside0 (gb238 ≠ gb239) := ⟨h22_⟩
 have n23_ : Aside0 (w.heap.size ≤ gb239) := ⟨h23_⟩
 have n24_ : Aside0 (w.heap.size ≤ gb239) := ⟨h24_⟩
 have n25_ : Aside0 (gb220 ≠ gb239) := ⟨h25_⟩
 have n26_ : Aside0 (gb239 ≠ gb220) := ⟨h26_⟩
 have n27_ : Aside0 (gb221 ≠ gb239) := ⟨h27_⟩
 have n28_ : Aside0 (gb239 ≠ gb221) := ⟨h28_⟩
 have n29_ : Aside0 (gb222 ≠ gb239) := ⟨h29_⟩
 have n30_ : Aside0 (gb239 ≠ gb222) := ⟨h30_⟩
 have n31_ : Aside0 (gb223 ≠ gb239) := ⟨h31_⟩
 have n32_ : Aside0 (gb239 ≠ gb223) := ⟨h32_⟩
 have n33_ : Aside0 (Below w.heap.size w w58) := ⟨h33_⟩
 clear HO0_1
 clear HO226
 clear HO229
 clear BK220
 clear BK221
 clear BK222
 clear BK223
 clear HB
 clear h0_ h1_ h2_ h3_ h4_ h5_ h6_ h7_ h8_ h9_ h10_ h11_ h12_ h13_ h14_ h15_ h16_ h17_ h18_ h19_ h20_ h21_ h22_ h23_ h24_ h25_ h26_ h27_ h28_ h29_ h30_ h31_ h32_ h33_
 have HO0_1 := n0_
 have HO226 := n1_
 have HO229 := n2_
 have HO233 := n3_
 have HO237 := n4_
 have BK220 := n5_
 have BK221 := n6_
 have BK222 := n7_
 have BK223 := n8_
 have BK238 := n9_
 have BK239 := n10_
 have GE238 := n12_
 have NB220_238 := n13_
 have NB238_220 := n14_
 have NB221_238 := n15_
 have NB238_221 := n16_
 have NB222_238 := n17_
 have NB238_222 := n18_
 have NB223_238 := n19_
 have NB238_223 := n20_
 have NB239_238 := n21_
 have NB238_239 := n22_
 have GE239 := n24_
 have NB220_239 := n25_
 have NB239_220 := n26_
 have NB221_239 := n27_
 have NB239_221 := n28_
 have NB222_239 := n29_
 have NB239_222 := n30_
 have NB223_239 := n31_
 have NB239_223 := n32_
 have HB := n33_
 clear n0_ n1_ n2_ n3_ n4_ n5_ n6_ n7_ n8_ n9_ n10_ n11_ n12_ n13_ n14_ n15_ n16_ n17_ n18_ n19_ n20_ n21_ n22_ n23_ n24_ n25_ n26_ n27_ n28_ n29_ n30_ n31_ n32_ n33_
 have hHeld : w58.cell? ⟨gb220, 0, none⟩ = some (.bool a0_0) ∧ w58.cell? ⟨gb220, 1, none⟩ = some (.slice A0_1 l0_1.length c0_1) ∧ w58.cell? ⟨gb221, 0, none⟩ = some (.bool a1_0) ∧ w58.cell? ⟨gb221, 1, none⟩ = some (.slice A1_1 l1_1.length c1_1) := hS_
 obtain ⟨Ao60, co60, eo60⟩ := Kd.V_slice HO233.out
 (first | subst eo60 | (injection eo60 with f1_ f2_ f3_; have f4_ := f1_.symm; have f5_ := f3_.symm; clear f1_ f2_ f3_; subst f4_; subst f5_))
 obtain ⟨Ao63, co63, eo63⟩ := Kd.V_slice HO237.out
 (first | subst eo63 | (injection eo63 with f1_ f2_ f3_; have f4_ := f1_.symm; have f5_ := f3_.symm; clear f1_ f2_ f3_; subst f4_; subst f5_))
 refine norm_ (a' := ?_) ?_ ?_
 rotate_left
 · simp only [putAll, Act.put, z1, z2, z3]
   rfl
 refine one_ (i := 13) (N := none) (zb 14 1) rfl rfl (one_of HT_.out (by kernel_rfl)) (by decide) (fun K hK => ?_)
 have hs59 : w58.cell? ⟨gb238, 0, none⟩ = some (.bool false) := (blk_cell BK238.out 0).trans rfl
 have hfs59 := blk_frozen BK238.out 0
 have hs61 : w58.cell? ⟨gb238, 1, none⟩ = some (.slice none 0 0) := (blk_cell BK238.out 1).trans rfl
 have hfs61 := blk_frozen BK238.out 1
 refine skip_ (w1 := ?_) (by rfl) rfl ?_ ?_
 rotate_left; focus (go_simp; rfl)
 refine hK.out _ _ ⟨((cell_far (p := ⟨gb238, _, none⟩) NB220_238.out _).trans (((cell_far (p := ⟨gb238, _, none⟩) NB220_238.out _).trans (hHeld.1)))), ((cell_far (p := ⟨gb238, _, none⟩) NB220_238.out _).trans (((cell_far (p := ⟨gb238, _, none⟩) NB220_238.out _).trans (hHeld.2.1)))), ((cell_far (p := ⟨gb238, _, none⟩) NB221_238.out _).trans (((cell_far (p := ⟨gb238, _, none⟩) NB221_238.out _).trans (hHeld.2.2.1)))), ((cell_far (p := ⟨gb238, _, none⟩) NB221_238.out _).trans (((cell_far (p := ⟨gb238, _, none⟩) NB221_238.out _).trans (hHeld.2.2.2))))⟩ (fun hHeld => ?_)
 clear hK K
 refine one_ (i := 14) (N := none) (zb 15 0) rfl rfl (one_of HT_.out (by kernel_rfl)) (by decide) (fun K hK => ?_)
 have hs62 : w58.cell? ⟨gb239, 0, none⟩ = some (.bool false) := (blk_cell BK239.out 0).trans rfl
 have hfs62 := blk_frozen BK239.out 0
 have hs64 : w58.cell? ⟨gb239, 1, none⟩ = some (.slice none 0 0) := (blk_cell BK239.out 1).trans rfl
 have hfs64 := blk_frozen BK239.out 1
 have hms64_4 := NB239_238.out
 refine skip_ (w1 := ?_) (by rfl) rfl ?_ ?_
 rotate_left; focus (go_simp; rfl)
 refine hK.out _ _ ⟨((cell_far (p := ⟨gb239, _, none⟩) NB220_239.out _).trans (((cell_far (p := ⟨gb239, _, none⟩) NB220_239.out _).trans (hHeld.1)))), ((cell_far (p := ⟨gb239, _, none⟩) NB220_239.out _).trans (((cell_far (p := ⟨gb239, _, none⟩) NB220_239.out _).trans (hHeld.2.1)))), ((cell_far (p := ⟨gb239, _, none⟩) NB221_239.out _).trans (((cell_far (p := ⟨gb239, _, none⟩) NB221_239.out _).trans (hHeld.2.2.1)))), ((cell_far (p := ⟨gb239, _, none⟩) NB221_239.out _).trans (((cell_far (p := ⟨gb239, _, none⟩) NB221_239.out _).trans (hHeld.2.2.2))))⟩ (fun hHeld => ?_)
 clear hK K
 refine done_ (done_of HT_.out (by kernel_rfl)) ?_
 have hnc69 := NB238_239.out
 obtain ⟨hcz70_0, hcz70_1, hfz70_0, hfz70_1⟩ := bz2 BK239.out
 try go_wp2
 have n0_ : Aside0 (Kd.V (Kd.int .u32) 97 ((((w58.setCell ⟨gb238, 0, none⟩ (.bool t230)).setCell ⟨gb238, 1, none⟩ (.slice Ao60 t231.length co60)).setCell ⟨gb239, 0, none⟩ (.bool false)).setCell ⟨gb239, 1, none⟩ (.slice Ao63 t235.length co63)) w.heap.size (fun k_ => (P0_1_ k_ ∨ w.heap.size ≤ k_) ∧ k_ ≠ gb220 ∧ k_ ≠ gb221 ∧ k_ ≠ gb222 ∧ k_ ≠ gb223 ∧ k_ ≠ gb238 ∧ k_ ≠ gb239) (.slice A0_1 l0_1.length c0_1) l0_1) := ⟨by (with_reducible repeat (first | apply Kd.V_alloc | apply Kd.V_drewN | apply Kd.V_drew)); exact Kd.V_mono (Kd.V_far (p := ⟨gb239, 1, none⟩) (Kd.V_far (p := ⟨gb239, 0, none⟩) (Kd.V_far (p := ⟨gb238, 1, none⟩) (Kd.V_far (p := ⟨gb238, 0, none⟩) (Kd.V_mono (Kd.V_mono HO0_1.out (fun k_ hk => (⟨hk, hk.2.2.2.2.2.1⟩ : _ ∧ k_ ≠ gb238))) (fun k_ hk => (⟨hk, hk.1.2.2.2.2.2.2⟩ : _ ∧ k_ ≠ gb239))) (fun _ hk => hk.1.2) (.bool t230)) (fun _ hk => hk.1.2) (.slice Ao60 t231.length co60)) (fun _ hk => hk.2) (.bool false)) (fun _ hk => hk.2) (.slice Ao63 t235.length co63)) (fun _ hk => ⟨hk.1.1.1, ⟨hk.1.1.2.1, ⟨hk.1.1.2.2.1, ⟨hk.1.1.2.2.2.1, ⟨hk.1.1.2.2.2.2.1, ⟨hk.1.1.2.2.2.2.2.1, hk.1.1.2.2.2.2.2.2⟩⟩⟩⟩⟩⟩)⟩
 have n1_ : Aside0 (Kd.V (Kd.int .u32) 97 ((((w58.setCell ⟨gb238, 0, none⟩ (.bool t230)).setCell ⟨gb238, 1, none⟩ (.slice Ao60 t231.length co60)).setCell ⟨gb239, 0, none⟩ (.bool false)).setCell ⟨gb239, 1, none⟩ (.slice Ao63 t235.length co63)) w.heap.size (fun k_ => (P0_1_ k_ ∨ w.heap.size ≤ k_) ∧ k_ ≠ gb220 ∧ k_ ≠ gb221 ∧ k_ ≠ gb222 ∧ k_ ≠ gb223 ∧ k_ ≠ gb238 ∧ k_ ≠ gb239) (.slice Ao51 t224.length co51) t224) := ⟨by (with_reducible repeat (first | apply Kd.V_alloc | apply Kd.V_drewN | apply Kd.V_drew)); exact Kd.V_mono (Kd.V_far (p := ⟨gb239, 1, none⟩) (Kd.V_far (p := ⟨gb239, 0, none⟩) (Kd.V_far (p := ⟨gb238, 1, none⟩) (Kd.V_far (p := ⟨gb238, 0, none⟩) (Kd.V_mono (Kd.V_mono HO226.out (fun k_ hk => (⟨hk, hk.2.2.2.2.2.1⟩ : _ ∧ k_ ≠ gb238))) (fun k_ hk => (⟨hk, hk.1.2.2.2.2.2.2⟩ : _ ∧ k_ ≠ gb239))) (fun _ hk => hk.1.2) (.bool t230)) (fun _ hk => hk.1.2) (.slice Ao60 t231.length co60)) (fun _ hk => hk.2) (.bool false)) (fun _ hk => hk.2) (.slice Ao63 t235.length co63)) (fun _ hk => ⟨hk.1.1.1, ⟨hk.1.1.2.1, ⟨hk.1.1.2.2.1, ⟨hk.1.1.2.2.2.1, ⟨hk.1.1.2.2.2.2.1, ⟨hk.1.1.2.2.2.2.2.1, hk.1.1.2.2.2.2.2.2⟩⟩⟩⟩⟩⟩)⟩
 have n2_ : Aside0 (Kd.V (Kd.int .u32) 97 ((((w58.setCell ⟨gb238, 0, none⟩ (.bool t230)).setCell ⟨gb238, 1, none⟩ (.slice Ao60 t231.length co60)).setCell ⟨gb239, 0, none⟩ (.bool false)).setCell ⟨gb239, 1, none⟩ (.slice Ao63 t235.length co63)) w.heap.size (fun k_ => (P0_1_ k_ ∨ w.heap.size ≤ k_) ∧ k_ ≠ gb220 ∧ k_ ≠ gb221 ∧ k_ ≠ gb222 ∧ k_ ≠ gb223 ∧ k_ ≠ gb238 ∧ k_ ≠ gb239) (.slice Ao52 t227.length co52) t227) := ⟨by (with_reducible repeat (first | apply Kd.V_alloc | apply Kd.V_drewN | apply Kd.V_drew)); exact Kd.V_mono (Kd.V_far (p := ⟨gb239, 1, none⟩) (Kd.V_far (p := ⟨gb239, 0, none⟩) (Kd.V_far (p := ⟨gb238, 1, none⟩) (Kd.V_far (p := ⟨gb238, 0, none⟩) (Kd.V_mono (Kd.V_mono HO229.out (fun k_ hk => (⟨hk, hk.2.2.2.2.2.1⟩ : _ ∧ k_ ≠ gb238))) (fun k_ hk => (⟨hk, hk.1.2.2.2.2.2.2⟩ : _ ∧ k_ ≠ gb239))) (fun _ hk => hk.1.2) (.bool t230)) (fun _ hk => hk.1.2) (.slice Ao60 t231.length co60)) (fun _ hk => hk.2) (.bool false)) (fun _ hk => hk.2) (.slice Ao63 t235.length co63)) (fun _ hk => ⟨hk.1.1.1, ⟨hk.1.1.2.1, ⟨hk.1.1.2.2.1, ⟨hk.1.1.2.2.2.1, ⟨hk.1.1.2.2.2.2.1, ⟨hk.1.1.2.2.2.2.2.1, hk.1.1.2.2.2.2.2.2⟩⟩⟩⟩⟩⟩)⟩
 have n3_ : Aside0 (Kd.V (Kd.int .u32) 97 ((((w58.setCell ⟨gb238, 0, none⟩ (.bool t230)).setCell ⟨gb238, 1, none⟩ (.slice Ao60 t231.length co60)).setCell ⟨gb239, 0, none⟩ (.bool false)).setCell ⟨gb239, 1, none⟩ (.slice Ao63 t235.length co63)) w.heap.size (fun k_ => (P0_1_ k_ ∨ w.heap.size ≤ k_) ∧ k_ ≠ gb220 ∧ k_ ≠ gb221 ∧ k_ ≠ gb222 ∧ k_ ≠ gb223 ∧ k_ ≠ gb238 ∧ k_ ≠ gb239) (.slice Ao60 t231.length co60) t231) := ⟨by (with_reducible repeat (first | apply Kd.V_alloc | apply Kd.V_drewN | apply Kd.V_drew)); exact Kd.V_mono (Kd.V_far (p := ⟨gb239, 1, none⟩) (Kd.V_far (p := ⟨gb239, 0, none⟩) (Kd.V_far (p := ⟨gb238, 1, none⟩) (Kd.V_far (p := ⟨gb238, 0, none⟩) (Kd.V_mono (Kd.V_mono HO233.out (fun k_ hk => (⟨hk, hk.2.2.2.2.2.1⟩ : _ ∧ k_ ≠ gb238))) (fun k_ hk => (⟨hk, hk.1.2.2.2.2.2.2⟩ : _ ∧ k_ ≠ gb239))) (fun _ hk => hk.1.2) (.bool t230)) (fun _ hk => hk.1.2) (.slice Ao60 t231.length co60)) (fun _ hk => hk.2) (.bool false)) (fun _ hk => hk.2) (.slice Ao63 t235.length co63)) (fun _ hk => ⟨hk.1.1.1, ⟨hk.1.1.2.1, ⟨hk.1.1.2.2.1, ⟨hk.1.1.2.2.2.1, ⟨hk.1.1.2.2.2.2.1, ⟨hk.1.1.2.2.2.2.2.1, hk.1.1.2.2.2.2.2.2⟩⟩⟩⟩⟩⟩)⟩
 have n4_ : Aside0 (Kd.V (Kd.int .u32) 97 ((((w58.setCell ⟨gb238, 0, none⟩ (.bool t230)).setCell ⟨gb238, 1, none⟩ (.slice Ao60 t231.length co60)).setCell ⟨gb239, 0, none⟩ (.bool false)).setCell ⟨gb239, 1, none⟩ (.slice Ao63 t235.length co63)) w.heap.size (fun k_ => (P0_1_ k_ ∨ w.heap.size ≤ k_) ∧ k_ ≠ gb220 ∧ k_ ≠ gb221 ∧ k_ ≠ gb222 ∧ k_ ≠ gb223 ∧ k_ ≠ gb238 ∧ k_ ≠ gb239) (.slice Ao63 t235.length co63) t235) := ⟨by (with_reducible repeat (first | apply Kd.V_alloc | apply Kd.V_drewN | apply Kd.V_drew)); exact Kd.V_mono (Kd.V_far (p := ⟨gb239, 1, none⟩) (Kd.V_far (p := ⟨gb239, 0, none⟩) (Kd.V_far (p := ⟨gb238, 1, none⟩) (Kd.V_far (p := ⟨gb238, 0, none⟩) (Kd.V_mono (Kd.V_mono HO237.out (fun k_ hk => (⟨hk, hk.2.2.2.2.2.1⟩ : _ ∧ k_ ≠ gb238))) (fun k_ hk => (⟨hk, hk.1.2.2.2.2.2.2⟩ : _ ∧ k_ ≠ gb239))) (fun _ hk => hk.1.2) (.bool t230)) (fun _ hk => hk.1.2) (.slice Ao60 t231.length co60)) (fun _ hk => hk.2) (.bool false)) (fun _ hk => hk.2) (.slice Ao63 t235.length co63)) (fun _ hk => ⟨hk.1.1.1, ⟨hk.1.1.2.1, ⟨hk.1.1.2.2.1, ⟨hk.1.1.2.2.2.1, ⟨hk.1.1.2.2.2.2.1, ⟨hk.1.1.2.2.2.2.2.1, hk.1.1.2.2.2.2.2.2⟩⟩⟩⟩⟩⟩)⟩
 have n5_ : Aside0 (((((w58.setCell ⟨gb238, 0, none⟩ (.bool t230)).setCell ⟨gb238, 1, none⟩ (.slice Ao60 t231.length co60)).setCell ⟨gb239, 0, none⟩ (.bool false)).setCell ⟨gb239, 1, none⟩ (.slice Ao63 t235.length co63)).heap[gb220]? = some (.cells #[.bool a0_0, .slice A0_1 l0_1.length c0_1] 43 (0, 0))) := ⟨bf BK220.out⟩
 have n6_ : Aside0 (((((w58.setCell ⟨gb238, 0, none⟩ (.bool t230)).setCell ⟨gb238, 1, none⟩ (.slice Ao60 t231.length co60)).setCell ⟨gb239, 0, none⟩ (.bool false)).setCell ⟨gb239, 1, none⟩ (.slice Ao63 t235.length co63)).heap[gb221]? = some (.cells #[.bool a1_0, .slice A1_1 l1_1.length c1_1] 43 (0, 0))) := ⟨bf BK221.out⟩
 have n7_ : Aside0 (((((w58.setCell ⟨gb238, 0, none⟩ (.bool t230)).setCell ⟨gb238, 1, none⟩ (.slice Ao60 t231.length co60)).setCell ⟨gb239, 0, none⟩ (.bool false)).setCell ⟨gb239, 1, none⟩ (.slice Ao63 t235.length co63)).heap[gb222]? = some (.cells #[.bool false, .slice none 0 0] 43 (0, 0))) := ⟨bf BK222.out⟩
 have n8_ : Aside0 (((((w58.setCell ⟨gb238, 0, none⟩ (.bool t230)).setCell ⟨gb238, 1, none⟩ (.slice Ao60 t231.length co60)).setCell ⟨gb239, 0, none⟩ (.bool false)).setCell ⟨gb239, 1, none⟩ (.slice Ao63 t235.length co63)).heap[gb223]? = some (.cells #[.bool false, .slice none 0 0] 43 (0, 0))) := ⟨bf BK223.out⟩
 have n9_ : Aside0 (((((w58.setCell ⟨gb238, 0, none⟩ (.bool t230)).setCell ⟨gb238, 1, none⟩ (.slice Ao60 t231.length co60)).setCell ⟨gb239, 0, none⟩ (.bool false)).setCell ⟨gb239, 1, none⟩ (.slice Ao63 t235.length co63)).heap[gb238]? = some (.cells #[.bool t230, .slice Ao60 t231.length co60] 43 (0, 0))) := ⟨by (with_reducible repeat (first | refine blk_drewN ?_ _ | refine blk_drew ?_ | refine blk_alloc ?_ _)); refine blk_far ?_ NB238_239.out _; (with_reducible repeat (first | refine blk_drewN ?_ _ | refine blk_drew ?_ | refine blk_alloc ?_ _)); refine blk_far ?_ NB238_239.out _; (with_reducible repeat (first | refine blk_drewN ?_ _ | refine blk_drew ?_ | refine blk_alloc ?_ _)); refine blk_put (cs := #[.bool t230, .slice none 0 0]) ?_ 1 _ rfl; (with_reducible repeat (first | refine blk_drewN ?_ _ | refine blk_drew ?_ | refine blk_alloc ?_ _)); refine blk_put (cs := #[.bool false, .slice none 0 0]) ?_ 0 _ rfl; (with_reducible repeat (first | refine blk_drewN ?_ _ | refine blk_drew ?_ | refine blk_alloc ?_ _)); exact BK238.out⟩
 have n10_ : Aside0 (((((w58.setCell ⟨gb238, 0, none⟩ (.bool t230)).setCell ⟨gb238, 1, none⟩ (.slice Ao60 t231.length co60)).setCell ⟨gb239, 0, none⟩ (.bool false)).setCell ⟨gb239, 1, none⟩ (.slice Ao63 t235.length co63)).heap[gb239]? = some (.cells #[.bool false, .slice Ao63 t235.length co63] 43 (0, 0))) := ⟨by (with_reducible repeat (first | refine blk_drewN ?_ _ | refine blk_drew ?_ | refine blk_alloc ?_ _)); refine blk_put (cs := #[.bool false, .slice none 0 0]) ?_ 1 _ rfl; (with_reducible repeat (first | refine blk_drewN ?_ _ | refine blk_drew ?_ | refine blk_alloc ?_ _)); refine blk_put (cs := #[.bool false, .slice none 0 0]) ?_ 0 _ rfl; (with_reducible repeat (first | refine blk_drewN ?_ _ | refine blk_drew ?_ | refine blk_alloc ?_ _)); refine blk_far ?_ NB239_238.out _; (with_reducible repeat (first | refine blk_drewN ?_ _ | refine blk_drew ?_ | refine blk_alloc ?_ _)); refine blk_far ?_ NB239_238.out _; (with_reducible repeat (first | refine blk_drewN ?_ _ | refine blk_drew ?_ | refine blk_alloc ?_ _)); exact BK239.out⟩
 have n11_ : Aside0 (Below w.heap.size w ((((w58.setCell ⟨gb238, 0, none⟩ (.bool t230)).setCell ⟨gb238, 1, none⟩ (.slice Ao60 t231.length co60)).setCell ⟨gb239, 0, none⟩ (.bool false)).setCell ⟨gb239, 1, none⟩ (.slice Ao63 t235.length co63))) := ⟨bl⟩
 (try clear HO0_1)
 (try clear HO226)
 (try clear HO229)
 (try clear HO233)
 (try clear HO237)
 (try clear BK220)
 (try clear BK221)
 (try clear BK222)
 (try clear BK223)
 (try clear BK238)
 (try clear BK239)
 (try clear HB)
 generalize ((((w58.setCell ⟨gb238, 0, none⟩ (.bool t230)).setCell ⟨gb238, 1, none⟩ (.slice Ao60 t231.length co60)).setCell ⟨gb239, 0, none⟩ (.bool false)).setCell ⟨gb239, 1, none⟩ (.slice Ao63 t235.length co63)) = w71 at n0_ n1_ n2_ n3_ n4_ n5_ n6_ n7_ n8_ n9_ n10_ n11_ ⊢
 have HO0_1 := n0_
 have HO226 := n1_
 have HO229 := n2_
 have HO233 := n3_
 have HO237 := n4_
 have BK220 := n5_
 have BK221 := n6_
 have BK222 := n7_
 have BK223 := n8_
 have BK238 := n9_
 have BK239 := n10_
 have HB := n11_
 clear n0_ n1_ n2_ n3_ n4_ n5_ n6_ n7_ n8_ n9_ n10_ n11_
 have n0_ := Aside0.mk (Kd.V_drew HO0_1.out)
 have n1_ := Aside0.mk (Kd.V_drew HO226.out)
 have n2_ := Aside0.mk (Kd.V_drew HO229.out)
 have n3_ := Aside0.mk (Kd.V_drew HO233.out)
 have n4_ := Aside0.mk (Kd.V_drew HO237.out)
 have n5_ := Aside0.mk (blk_drew BK220.out)
 have n6_ := Aside0.mk (blk_drew BK221.out)
 have n7_ := Aside0.mk (blk_drew BK222.out)
 have n8_ := Aside0.mk (blk_drew BK223.out)
 have n9_ := Aside0.mk (blk_drew BK238.out)
 have n10_ := Aside0.mk (blk_drew BK239.out)
 have n11_ := Aside0.mk (below_drew1 HB.out)
 clear HO0_1
 clear HO226
 clear HO229
 clear HO233
 clear HO237
 clear BK220
 clear BK221
 clear BK222
 clear BK223
 clear BK238
 clear BK239
 clear HB
 have HO0_1 := n0_
 have HO226 := n1_
 have HO229 := n2_
 have HO233 := n3_
 have HO237 := n4_
 have BK220 := n5_
 have BK221 := n6_
 have BK222 := n7_
 have BK223 := n8_
 have BK238 := n9_
 have BK239 := n10_
 have HB := n11_
 clear n0_ n1_ n2_ n3_ n4_ n5_ n6_ n7_ n8_ n9_ n10_ n11_
 refine start_ (n := 4) (S := fun w' => w'.cell? ⟨gb238, 0, none⟩ = some (.bool t230) ∧ w'.cell? ⟨gb238, 1, none⟩ = some (.slice Ao60 t231.length co60) ∧ w'.cell? ⟨gb239, 0, none⟩ = some (.bool false) ∧ w'.cell? ⟨gb239, 1, none⟩ = some (.slice Ao63 t235.length co63)) (ds := []) #[false,false,false,false] (by kernel_rfl) rfl rfl ⟨(blk_cell BK238.out 0).trans rfl, (blk_cell BK238.out 1).trans rfl, (blk_cell BK239.out 0).trans rfl, (blk_cell BK239.out 1).trans rfl⟩ (fun hHeld => ?_)
 generalize w71.drew = w72 at HO0_1 HO226 HO229 HO233 HO237 BK220 BK221 BK222 BK223 BK238 BK239 HB hHeld ⊢
 refine take_ (i := 0) (N := some 45) (v := ?_) (a' := ?_) #[true,false,false,false] rfl rfl (by kernel_rfl) (fun _ _ _ h => h) (Or.inl ⟨by rfl, ?_⟩) hHeld ?_ ?_
 rotate_left
 · rintro w' ⟨s0, s1, s2, s3⟩
   go_simp
   with_reducible rfl
 rotate_left; focus (simp only [Act.put, z1, z2, z3, i64_w, i32_w]; rfl)
 refine take_ (i := 1) (N := some 46) (v := ?_) (a' := ?_) #[true,true,false,false] rfl rfl (by kernel_rfl) (fun _ _ _ h => h) (Or.inl ⟨by rfl, ?_⟩) hHeld ?_ ?_
 rotate_left
 · rintro w' ⟨s0, s1, s2, s3⟩
   go_simp
   with_reducible rfl
 rotate_left; focus (simp only [Act.put, z1, z2, z3, i64_w, i32_w]; rfl)
 refine one_ (i := 2) (N := none) #[true,true,true,false] rfl rfl (by kernel_rfl) (by decide) (fun K hK => ?_)
 have hs73 : w72.cell? ⟨gb222, 0, none⟩ = some (.bool false) := (blk_cell BK222.out 0).trans rfl
 have hfs73 := blk_frozen BK222.out 0
 have hs74 : w72.cell? ⟨gb222, 1, none⟩ = some (.slice none 0 0) := (blk_cell BK222.out 1).trans rfl
 have hfs74 := blk_frozen BK222.out 1
 refine skip_ (w1 := ?_) (by rfl) rfl ?_ ?_
 rotate_left; focus (go_simp; rfl)
 refine hK.out _ _ ⟨((cell_far (p := ⟨gb222, _, none⟩) NB238_222.out _).trans (((cell_far (p := ⟨gb222, _, none⟩) NB238_222.out _).trans (hHeld.1)))), ((cell_far (p := ⟨gb222, _, none⟩) NB238_222.out _).trans (((cell_far (p := ⟨gb222, _, none⟩) NB238_222.out _).trans (hHeld.2.1)))), ((cell_far (p := ⟨gb222, _, none⟩) NB239_222.out _).trans (((cell_far (p := ⟨gb222, _, none⟩) NB239_222.out _).trans (hHeld.2.2.1)))), ((cell_far (p := ⟨gb222, _, none⟩) NB239_222.out _).trans (((cell_far (p := ⟨gb222, _, none⟩) NB239_222.out _).trans (hHeld.2.2.2))))⟩ (fun hHeld => ?_)
 clear hK K
 refine one_ (i := 3) (N := none) #[true,true,true,true] rfl rfl (by kernel_rfl) (by decide) (fun K hK => ?_)
 have hs75 : w72.cell? ⟨gb223, 0, none⟩ = some (.bool false) := (blk_cell BK223.out 0).trans rfl
 have hfs75 := blk_frozen BK223.out 0
 have hs76 : w72.cell? ⟨gb223, 1, none⟩ = some (.slice none 0 0) := (blk_cell BK223.out 1).trans rfl
 have hfs76 := blk_frozen BK223.out 1
 have hms76_2 := NB223_222.out
 have hms76_4 := NB223_238.out
 have hms76_5 := NB223_239.out
 refine skip_ (w1 := ?_) (by rfl) rfl ?_ ?_
 rotate_left; focus (go_simp; rfl)
 refine hK.out _ _ ⟨((cell_far (p := ⟨gb223, _, none⟩) NB238_223.out _).trans (((cell_far (p := ⟨gb223, _, none⟩) NB238_223.out _).trans (hHeld.1)))), ((cell_far (p := ⟨gb223, _, none⟩) NB238_223.out _).trans (((cell_far (p := ⟨gb223, _, none⟩) NB238_223.out _).trans (hHeld.2.1)))), ((cell_far (p := ⟨gb223, _, none⟩) NB239_223.out _).trans (((cell_far (p := ⟨gb223, _, none⟩) NB239_223.out _).trans (hHeld.2.2.1)))), ((cell_far (p := ⟨gb223, _, none⟩) NB239_223.out _).trans (((cell_far (p := ⟨gb223, _, none⟩) NB239_223.out _).trans (hHeld.2.2.2))))⟩ (fun hHeld => ?_)
 clear hK K
 refine done_ (by kernel_rfl) ?_
 try go_wp2
 refine bodyPost_ret (results_cc rfl _ _ gb222 gb223 43 43 #[.bool t230, .slice Ao60 t231.length co60] #[.bool false, .slice Ao63 t235.length co63] (0, 0) (0, 0) _ _ rfl (by (with_reducible repeat (first | refine blk_drewN ?_ _ | refine blk_drew ?_ | refine blk_alloc ?_ _)); refine blk_far ?_ NB222_223.out _; (with_reducible repeat (first | refine blk_drewN ?_ _ | refine blk_drew ?_ | refine blk_alloc ?_ _)); refine blk_far ?_ NB222_223.out _; (with_reducible repeat (first | refine blk_drewN ?_ _ | refine blk_drew ?_ | refine blk_alloc ?_ _)); refine blk_put (cs := #[.bool t230, .slice none 0 0]) ?_ 1 _ rfl; (with_reducible repeat (first | refine blk_drewN ?_ _ | refine blk_drew ?_ | refine blk_alloc ?_ _)); refine blk_put (cs := #[.bool false, .slice none 0 0]) ?_ 0 _ rfl; (with_reducible repeat (first | refine blk_drewN ?_ _ | refine blk_drew ?_ | refine blk_alloc ?_ _)); exact BK222.out) Try.underlying43 rfl (by kernel_rfl) rfl (by (with_reducible repeat (first | refine blk_drewN ?_ _ | refine blk_drew ?_ | refine blk_alloc ?_ _)); refine blk_put (cs := #[.bool false, .slice none 0 0]) ?_ 1 _ rfl; (with_reducible repeat (first | refine blk_drewN ?_ _ | refine blk_drew ?_ | refine blk_alloc ?_ _)); refine blk_put (cs := #[.bool false, .slice none 0 0]) ?_ 0 _ rfl; (with_reducible repeat (first | refine blk_drewN ?_ _ | refine blk_drew ?_ | refine blk_alloc ?_ _)); refine blk_far ?_ NB223_222.out _; (with_reducible repeat (first | refine blk_drewN ?_ _ | refine blk_drew ?_ | refine blk_alloc ?_ _)); refine blk_far ?_ NB223_222.out _; (with_reducible repeat (first | refine blk_drewN ?_ _ | refine blk_drew ?_ | refine blk_alloc ?_ _)); exact BK223.out) Try.underlying43 rfl (by kernel_rfl)) rfl ?_
 exact ⟨_, _, by first | rfl | (simp [errW_none, errW_some] <;> rfl) | (simp [*, errW_none, errW_some] <;> rfl), by (with_reducible repeat (first | apply Kd.V_alloc | apply Kd.V_drewN | apply Kd.V_drew)); exact Kd.V_mono (Kd.V_far (p := ⟨gb223, 1, none⟩) (Kd.V_far (p := ⟨gb223, 0, none⟩) (Kd.V_far (p := ⟨gb222, 1, none⟩) (Kd.V_far (p := ⟨gb222, 0, none⟩) (Kd.V_mono (Kd.V_mono HO233.out (fun k_ hk => (⟨hk, hk.2.2.2.1⟩ : _ ∧ k_ ≠ gb222))) (fun k_ hk => (⟨hk, hk.1.2.2.2.2.1⟩ : _ ∧ k_ ≠ gb223))) (fun _ hk => hk.1.2) (.bool t230)) (fun _ hk => hk.1.2) (.slice Ao60 t231.length co60)) (fun _ hk => hk.2) (.bool false)) (fun _ hk => hk.2) (.slice Ao63 t235.length co63)) (fun _ hk => hk.1.1.1), by (with_reducible repeat (first | apply Kd.V_alloc | apply Kd.V_drewN | apply Kd.V_drew)); exact Kd.V_mono (Kd.V_far (p := ⟨gb223, 1, none⟩) (Kd.V_far (p := ⟨gb223, 0, none⟩) (Kd.V_far (p := ⟨gb222, 1, none⟩) (Kd.V_far (p := ⟨gb222, 0, none⟩) (Kd.V_mono (Kd.V_mono HO237.out (fun k_ hk => (⟨hk, hk.2.2.2.1⟩ : _ ∧ k_ ≠ gb222))) (fun k_ hk => (⟨hk, hk.1.2.2.2.2.1⟩ : _ ∧ k_ ≠ gb223))) (fun _ hk => hk.1.2) (.bool t230)) (fun _ hk => hk.1.2) (.slice Ao60 t231.length co60)) (fun _ hk => hk.2) (.bool false)) (fun _ hk => hk.2) (.slice Ao63 t235.length co63)) (fun _ hk => hk.1.1.1), bl⟩

end Go.Proofs.Ytlbljdjbcbgnlaa.PX
