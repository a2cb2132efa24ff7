-- PRINTED by print.py (a twelfth state) out of the translation. Not trusted: Lean checks it.
import Derived.Test.YtlbljdjbcbgnlaaCmp
import Derived.Test.YtlbljdjbcbgnlaaPXx0
import Derived.Test.YtlbljdjbcbgnlaaPXx38
import Derived.Test.YtlbljdjbcbgnlaaPXx45
namespace Go.Proofs.Ytlbljdjbcbgnlaa.PX
open Go.RowKit Go.Proofs.YtlbljdjbcbgnlaaW.PrintWords Go.Proofs.YtlbljdjbcbgnlaaW.PrintLast Go.Proofs.YtlbljdjbcbgnlaaW.PrintMore
attribute [local go_sem] max2_int min2_int max_two min_two max_three min_three max_four min_four   -- for this text's walks alone
private theorem z1 {α : Type} {l : List α} {i : Nat} {a : α} : l.toArray.setIfInBounds i a = (l.set i a).toArray := List.setIfInBounds_toArray _ _ _
private theorem z2 {α : Type} {x : α} {xs : List α} {a : α} : (x :: xs).set 0 a = a :: xs := List.set_cons_zero
private theorem z3 {α : Type} {x : α} {xs : List α} {n : Nat} {a : α} : (x :: xs).set (n + 1) a = x :: xs.set n a := List.set_cons_succ
private abbrev zb (n m : Nat) : Array Bool := (List.replicate n true ++ List.replicate m false).toArray
set_option linter.unusedVariables false
set_option linter.unusedSimpArgs false

/-! ### maskref4_Dec_Split: function 42 -/
mutual
def maskref4_Dec_Split.l0 : Nat → List Int → Int → Bool → List Int → Bool → List Int → Bool → List Int → Bool → List Int → Option (Bool × List Int × Bool × List Int)
 | 0, _, _, _, _, _, _, _, _, _, _ => none
 | k + 1, x6, x9, x311000, x311001, x312000, x312001, x315000, x315001, x316000, x316001 => if x9 ≥ 0 then (if 0 ≤ x9 then (if x9 < (x311001.length : Int) then ((some (([rd x311001 x9] : List Int) : List Int)).bind fun y317 => (if y317.length + x315001.length < 17592186044416 then ((maskref4_trim.f false (y317 ++ x315001)).bind fun bt323 => (maskref4_Dec_Split.l1 k x6 x9 0 x311000 x311001 x312000 x312001 bt323.1 bt323.2 x316000 x316001)) else (none))) else (none)) else (none)) else ((maskref4_trim.f (x311000 != x312000) x6).bind fun bt338 => (if x311000 = true then (maskref4_Dec_Split.j2 k (decide ((x315001.length : Int) > 0)) x312000 x312001 x315000 x315001 x316000 x316001 bt338.1 bt338.2) else (maskref4_Dec_Split.j2 k false x312000 x312001 x315000 x315001 x316000 x316001 bt338.1 bt338.2)))
def maskref4_Dec_Split.l1 : Nat → List Int → Int → Int → Bool → List Int → Bool → List Int → Bool → List Int → Bool → List Int → Option (Bool × List Int × Bool × List Int)
 | 0, _, _, _, _, _, _, _, _, _, _, _ => none
 | k + 1, x6, x9, x10, x311000, x311001, x312000, x312001, x315000, x315001, x316000, x316001 => (maskref4_less.f k x315001 x316001).bind fun t327 => (if t327 = true then ((some (([x10] : List Int) : List Int)).bind fun y328 => (if y328.length + x6.length < 17592186044416 then (maskref4_Dec_Split.l0 k (y328 ++ x6) (wrap64 (x9 - 1)) x311000 x311001 x312000 x312001 x315000 x315001 x316000 x316001) else (none))) else ((maskref4_Dec_Minus.f k x315000 x315001 x316000 x316001).bind fun bt334 => (maskref4_Dec_Split.l1 k x6 x9 (wrap64 (x10 + 1)) x311000 x311001 x312000 x312001 bt334.1 bt334.2 x316000 x316001)))
def maskref4_Dec_Split.j2 : Nat → Bool → Bool → List Int → Bool → List Int → Bool → List Int → Bool → List Int → Option (Bool × List Int × Bool × List Int)
 | 0, _, _, _, _, _, _, _, _, _ => none
 | k + 1, x63, x312000, x312001, x315000, x315001, x316000, x316001, x343000, x343001 => if x63 = true then ((maskref4_Dec_Minus.f k x316000 x316001 x315000 x315001).bind fun bt343 => (if x312000 = true then ((maskref4_DecInt.f k 1).bind fun bt347 => ((maskref4_Dec_Plus.f k x343000 x343001 bt347.1 bt347.2).bind fun bt351 => (some (bt351.1, bt351.2, bt343.1, bt343.2)))) else ((maskref4_DecInt.f k 1).bind fun bt355 => ((maskref4_Dec_Minus.f k x343000 x343001 bt355.1 bt355.2).bind fun bt359 => (some (bt359.1, bt359.2, bt343.1, bt343.2)))))) else (some (x343000, x343001, x315000, x315001))
end
def maskref4_Dec_Split.f (k : Nat) (a0_0 : Bool) (l0_1 : List Int) (a1_0 : Bool) (l1_1 : List Int) : Option (Bool × List Int × Bool × List Int) := maskref4_Dec_Split.l0 k ([] : List Int) (wrap64 ((l0_1.length : Int) - 1)) a0_0 l0_1 a1_0 l1_1 false ([] : List Int) false l1_1
theorem maskref4_Dec_Split.mono_l : ∀ k, (∀ y0 y1 y2 y3 y4 y5 y6 y7 y8 y9, LeO (maskref4_Dec_Split.l0 k y0 y1 y2 y3 y4 y5 y6 y7 y8 y9) (maskref4_Dec_Split.l0 (k + 1) y0 y1 y2 y3 y4 y5 y6 y7 y8 y9)) ∧ (∀ y0 y1 y2 y3 y4 y5 y6 y7 y8 y9 y10, LeO (maskref4_Dec_Split.l1 k y0 y1 y2 y3 y4 y5 y6 y7 y8 y9 y10) (maskref4_Dec_Split.l1 (k + 1) y0 y1 y2 y3 y4 y5 y6 y7 y8 y9 y10)) ∧ (∀ y0 y1 y2 y3 y4 y5 y6 y7 y8, LeO (maskref4_Dec_Split.j2 k y0 y1 y2 y3 y4 y5 y6 y7 y8) (maskref4_Dec_Split.j2 (k + 1) y0 y1 y2 y3 y4 y5 y6 y7 y8))
 | 0 => ⟨fun _ _ _ _ _ _ _ _ _ _ r h => by simp [maskref4_Dec_Split.l0] at h, fun _ _ _ _ _ _ _ _ _ _ _ r h => by simp [maskref4_Dec_Split.l1] at h, fun _ _ _ _ _ _ _ _ _ r h => by simp [maskref4_Dec_Split.j2] at h⟩
 | k + 1 => by
  obtain ⟨ih0, ih1, ih2⟩ := maskref4_Dec_Split.mono_l k
  refine ⟨?_, ?_, ?_⟩
  · intro y0 y1 y2 y3 y4 y5 y6 y7 y8 y9
    unfold maskref4_Dec_Split.l0
    repeat' first
    | (with_reducible exact ih1 _ _ _ _ _ _ _ _ _ _ _)
    | (with_reducible exact ih2 _ _ _ _ _ _ _ _ _)
    | (with_reducible exact LeO.refl _)
    | (with_reducible exact LeO.none _)
    | (with_reducible refine LeO.ite ?_ ?_)
    | (with_reducible refine LeO.bind ?_ (fun _ => ?_))
  · intro y0 y1 y2 y3 y4 y5 y6 y7 y8 y9 y10
    unfold maskref4_Dec_Split.l1
    repeat' first
    | (with_reducible exact ih0 _ _ _ _ _ _ _ _ _ _)
    | (with_reducible exact ih1 _ _ _ _ _ _ _ _ _ _ _)
    | (with_reducible exact maskref4_Dec_Minus.mono _ _ _ _ _)
    | (with_reducible exact maskref4_less.mono _ _ _)
    | (with_reducible exact LeO.refl _)
    | (with_reducible exact LeO.none _)
    | (with_reducible refine LeO.ite ?_ ?_)
    | (with_reducible refine LeO.bind ?_ (fun _ => ?_))
  · intro y0 y1 y2 y3 y4 y5 y6 y7 y8
    unfold maskref4_Dec_Split.j2
    repeat' first
    | (with_reducible exact maskref4_DecInt.mono _ _)
    | (with_reducible exact maskref4_Dec_Minus.mono _ _ _ _ _)
    | (with_reducible exact maskref4_Dec_Plus.mono _ _ _ _ _)
    | (with_reducible exact LeO.refl _)
    | (with_reducible exact LeO.none _)
    | (with_reducible refine LeO.ite ?_ ?_)
    | (with_reducible refine LeO.bind ?_ (fun _ => ?_))
theorem maskref4_Dec_Split.mono : ∀ a0 a1 a2 a3 k, LeO (maskref4_Dec_Split.f k a0 a1 a2 a3) (maskref4_Dec_Split.f (k + 1) a0 a1 a2 a3) := by
 intro a0 a1 a2 a3 k
 obtain ⟨ih0, ih1, ih2⟩ := maskref4_Dec_Split.mono_l k
 unfold maskref4_Dec_Split.f
 repeat' first
  | (with_reducible exact ih0 _ _ _ _ _ _ _ _ _ _)
  | (with_reducible exact LeO.refl _)
  | (with_reducible exact LeO.none _)
  | (with_reducible refine LeO.ite ?_ ?_)
  | (with_reducible refine LeO.bind ?_ (fun _ => ?_))
def maskref4_Dec_Split.T7 : Bool × List (List Nat × List Nat) := (true, [([], []), ([0], [0]), ([], []), ([1, 2], [1, 2]), ([3], [3]), ([4], [4]), ([], []), ([6], [6]), ([5, 7], [5, 7]), ([8, 8], [8]), ([9, 9, 0, 1, 2, 3, 4, 5, 6, 7, 8, 9], [9])])
def maskref4_Dec_Split.B7 : List Nat := [0, 1, 0, 7, 15, 31, 0, 64, 255, 511, 1023]
theorem maskref4_Dec_Split.tab7 : rtab .any (opsOf Try.f42 7) = maskref4_Dec_Split.T7 := by kernel_rfl
theorem maskref4_Dec_Split.bits7 : waitsOk maskref4_Dec_Split.T7.2 maskref4_Dec_Split.B7 = true := by kernel_rfl
set_option maxHeartbeats 8000000 in
set_option maxRecDepth 100000 in
theorem maskref4_Dec_Split.calls (k : Nat) (a0_0 : Bool) (A0_1 : Option Addr) (c0_1 : Nat) (l0_1 : List Int) (a1_0 : Bool) (A1_1 : Option Addr) (c1_1 : Nat) (l1_1 : List Int) (r1 : Bool) (r2 : List Int) (r3 : Bool) (r4 : List Int) (w : World) (hr0_1 : Kd.C (Kd.int .i64) w A0_1 l0_1.length l0_1) (hc0_1 : l0_1.length ≤ c0_1) (hr1_1 : Kd.C (Kd.int .i64) w A1_1 l1_1.length l1_1) (hc1_1 : l1_1.length ≤ c1_1) (h : maskref4_Dec_Split.f k a0_0 l0_1 a1_0 l1_1 = some (r1, r2, r3, r4)) :
 Calls Try.prog 42 #[.agg #[.bool a0_0, .slice A0_1 l0_1.length c0_1], .agg #[.bool a1_0, .slice A1_1 l1_1.length c1_1]] w fun e w' => ∃ v1_ v3_ : Value, e = .returned (.tuple #[.agg #[.bool r1, v1_], .agg #[.bool r3, v3_]]) ∧ Kd.V (Kd.int .i64) 3 w' w.heap.size (fun k_ => (w.heap.size ≤ k_)) v1_ r2 ∧ Kd.V (Kd.int .i64) 3 w' w.heap.size (fun k_ => (w.heap.size ≤ k_)) v3_ r4 ∧ Below w.heap.size w w' := by
 have HR0_1 := Aside0.mk hr0_1
 clear hr0_1 hc0_1
 have HR1_1 := Aside0.mk hr1_1
 have HC1_1 := Aside0.mk hc1_1
 clear hr1_1 hc1_1
 have HB := Aside0.mk (Below.refl w.heap.size w)
 have H : (maskref4_Dec_Split.l0 k ([] : List Int) (wrap64 ((l0_1.length : Int) - 1)) a0_0 l0_1 a1_0 l1_1 false ([] : List Int) false l1_1) = some (r1, r2, r3, r4) := h
 clear h
 have H' := Aside0.mk H
 clear H
 go_enter Try.func42, Try.ntmps42
 go_wp2_with (first | ((with_reducible refine gate_dst (N := 2) rfl ?_); (try (refine gate_guard (by rfl) ?_; dsimp only)); refine box_event ?hg (N := 2) ?hd (cs := #[.bool a0_0, .slice A0_1 l0_1.length c0_1]) (t := 36) ?hr ?_; (case hd => rfl); (case hg => rfl); (case hr => first | (go_simp; done) | (go_simp; rfl)); intro gb310 hg w3 hbox hb; have BK310 := Aside0.mk (hbox); replace HB := Aside0.mk (below_step bl hb); clear hb hbox hg) | ((with_reducible refine gate_dst (N := 3) rfl ?_); (try (refine gate_guard (by rfl) ?_; dsimp only)); refine box_event ?hg (N := 3) ?hd (cs := #[.bool a1_0, .slice A1_1 l1_1.length c1_1]) (t := 36) ?hr ?_; (case hd => rfl); (case hg => rfl); (case hr => first | (go_simp; done) | (go_simp; rfl)); intro gb311 hg w4 hbox hb; have BK311 := Aside0.mk (hbox); replace HB := Aside0.mk (below_step bl hb); have NB310_311 := Aside0.mk (nl hg (bk BK310.out)); have NB311_310 := Aside0.mk (ng hg (bk BK310.out)); replace BK310 := Aside0.mk (bb BK310.out hb); clear hb hbox hg) | ((with_reducible refine gate_dst (N := 4) rfl ?_); (try (refine gate_guard (by rfl) ?_; dsimp only)); refine box_event ?hg (N := 4) ?hd (cs := #[.bool false, .slice none 0 0]) (t := 36) ?hr ?_; (case hd => rfl); (case hg => rfl); (case hr => first | (go_simp; done) | (go_simp; rfl)); intro gb312 hg w5 hbox hb; have BK312 := Aside0.mk (hbox); have GE312 := Aside0.mk (ge (w := w) hg); replace HB := Aside0.mk (below_step bl hb); have NB310_312 := Aside0.mk (nl hg (bk BK310.out)); have NB312_310 := Aside0.mk (ng hg (bk BK310.out)); replace BK310 := Aside0.mk (bb BK310.out hb); have NB311_312 := Aside0.mk (nl hg (bk BK311.out)); have NB312_311 := Aside0.mk (ng hg (bk BK311.out)); replace BK311 := Aside0.mk (bb BK311.out hb); clear hb hbox hg) | ((with_reducible refine gate_dst (N := 5) rfl ?_); (try (refine gate_guard (by rfl) ?_; dsimp only)); refine box_event ?hg (N := 5) ?hd (cs := #[.bool false, .slice none 0 0]) (t := 36) ?hr ?_; (case hd => rfl); (case hg => rfl); (case hr => first | (go_simp; done) | (go_simp; rfl)); intro gb313 hg w6 hbox hb; have BK313 := Aside0.mk (hbox); have GE313 := Aside0.mk (ge (w := w) hg); replace HB := Aside0.mk (below_step bl hb); have NB310_313 := Aside0.mk (nl hg (bk BK310.out)); have NB313_310 := Aside0.mk (ng hg (bk BK310.out)); replace BK310 := Aside0.mk (bb BK310.out hb); have NB311_313 := Aside0.mk (nl hg (bk BK311.out)); have NB313_311 := Aside0.mk (ng hg (bk BK311.out)); replace BK311 := Aside0.mk (bb BK311.out hb); have NB312_313 := Aside0.mk (nl hg (bk BK312.out)); have NB313_312 := Aside0.mk (ng hg (bk BK312.out)); replace BK312 := Aside0.mk (bb BK312.out hb); clear hb hbox hg) | ((with_reducible refine gate_dst (N := 7) rfl ?_); (try (refine gate_guard (by rfl) ?_; dsimp only)); refine box_event ?hg (N := 7) ?hd (cs := #[.bool false, .slice none 0 0]) (t := 36) ?hr ?_; (case hd => rfl); (case hg => rfl); (case hr => first | (go_simp; done) | (go_simp; rfl)); intro gb314 hg w7 hbox hb; have BK314 := Aside0.mk (hbox); have GE314 := Aside0.mk (ge (w := w) hg); replace HB := Aside0.mk (below_step bl hb); have NB310_314 := Aside0.mk (nl hg (bk BK310.out)); have NB314_310 := Aside0.mk (ng hg (bk BK310.out)); replace BK310 := Aside0.mk (bb BK310.out hb); have NB311_314 := Aside0.mk (nl hg (bk BK311.out)); have NB314_311 := Aside0.mk (ng hg (bk BK311.out)); replace BK311 := Aside0.mk (bb BK311.out hb); have NB312_314 := Aside0.mk (nl hg (bk BK312.out)); have NB314_312 := Aside0.mk (ng hg (bk BK312.out)); replace BK312 := Aside0.mk (bb BK312.out hb); have NB313_314 := Aside0.mk (nl hg (bk BK313.out)); have NB314_313 := Aside0.mk (ng hg (bk BK313.out)); replace BK313 := Aside0.mk (bb BK313.out hb); clear hb hbox hg; have hnc9 := NB311_314.out; have hnb10 := NB314_312.out; have hnc10 := NB312_314.out; have hnb11 := NB314_313.out; have hnc11 := NB313_314.out; obtain ⟨hcz12_0, hcz12_1, hfz12_0, hfz12_1⟩ := bz2 BK314.out; have hnb13 := NB311_310.out; have hnc13 := NB310_311.out; have hnb14 := NB311_312.out; have hnc14 := NB312_311.out; have hnb15 := NB311_313.out; have hnc15 := NB313_311.out; obtain ⟨hcz16_0, hcz16_1, hfz16_0, hfz16_1⟩ := bz2 BK311.out) | ((with_reducible refine gate_dst (N := 8) rfl ?_); (try (refine gate_guard (by rfl) ?_; dsimp only)); refine box_event ?hg (N := 8) ?hd (cs := #[.bool false, .slice none 0 0]) (t := 36) ?hr ?_; (case hd => rfl); (case hg => rfl); (case hr => first | (go_simp; done) | (go_simp; rfl)); intro gb315 hg w17 hbox hb; have BK315 := Aside0.mk (hbox); have GE315 := Aside0.mk (ge (w := w) hg); replace HB := Aside0.mk (below_step bl hb); have NB310_315 := Aside0.mk (nl hg (bf BK310.out)); have NB315_310 := Aside0.mk (ng hg (bf BK310.out)); replace BK310 := Aside0.mk (blk_below (bf BK310.out) hb); have NB311_315 := Aside0.mk (nl hg (bf BK311.out)); have NB315_311 := Aside0.mk (ng hg (bf BK311.out)); replace BK311 := Aside0.mk (blk_below (bf BK311.out) hb); have NB312_315 := Aside0.mk (nl hg (bf BK312.out)); have NB315_312 := Aside0.mk (ng hg (bf BK312.out)); replace BK312 := Aside0.mk (blk_below (bf BK312.out) hb); have NB313_315 := Aside0.mk (nl hg (bf BK313.out)); have NB315_313 := Aside0.mk (ng hg (bf BK313.out)); replace BK313 := Aside0.mk (blk_below (bf BK313.out) hb); have NB314_315 := Aside0.mk ((by rw [hg]; exact Nat.ne_of_lt (blk_lt (g := gb314) (o := .cells #[.bool false, .slice none 0 0] 36 (0, 0)) (by (with_reducible repeat (first | refine blk_drewN ?_ _ | refine blk_drew ?_ | refine blk_alloc ?_ _)); refine blk_put (cs := #[.bool false, .slice none 0 0]) ?_ 1 _ rfl; (with_reducible repeat (first | refine blk_drewN ?_ _ | refine blk_drew ?_ | refine blk_alloc ?_ _)); refine blk_put (cs := #[.bool false, .slice none 0 0]) ?_ 0 _ rfl; (with_reducible repeat (first | refine blk_drewN ?_ _ | refine blk_drew ?_ | refine blk_alloc ?_ _)); exact BK314.out)) : gb314 ≠ gb315)); have NB315_314 := Aside0.mk ((by rw [hg]; exact Nat.ne_of_gt (blk_lt (g := gb314) (o := .cells #[.bool false, .slice none 0 0] 36 (0, 0)) (by (with_reducible repeat (first | refine blk_drewN ?_ _ | refine blk_drew ?_ | refine blk_alloc ?_ _)); refine blk_put (cs := #[.bool false, .slice none 0 0]) ?_ 1 _ rfl; (with_reducible repeat (first | refine blk_drewN ?_ _ | refine blk_drew ?_ | refine blk_alloc ?_ _)); refine blk_put (cs := #[.bool false, .slice none 0 0]) ?_ 0 _ rfl; (with_reducible repeat (first | refine blk_drewN ?_ _ | refine blk_drew ?_ | refine blk_alloc ?_ _)); exact BK314.out)) : gb315 ≠ gb314)); replace BK314 := Aside0.mk (blk_below (g := gb314) (o := .cells #[.bool false, .slice none 0 0] 36 (0, 0)) (by (with_reducible repeat (first | refine blk_drewN ?_ _ | refine blk_drew ?_ | refine blk_alloc ?_ _)); refine blk_put (cs := #[.bool false, .slice none 0 0]) ?_ 1 _ rfl; (with_reducible repeat (first | refine blk_drewN ?_ _ | refine blk_drew ?_ | refine blk_alloc ?_ _)); refine blk_put (cs := #[.bool false, .slice none 0 0]) ?_ 0 _ rfl; (with_reducible repeat (first | refine blk_drewN ?_ _ | refine blk_drew ?_ | refine blk_alloc ?_ _)); exact BK314.out) hb); clear hb hbox hg; have hnc18 := NB310_315.out; have hnb19 := NB315_311.out; have hnc19 := NB311_315.out; have hnb20 := NB315_312.out; have hnc20 := NB312_315.out; have hnb21 := NB315_313.out; have hnc21 := NB313_315.out; have hnb22 := NB315_314.out; have hnc22 := NB314_315.out; obtain ⟨hcz23_0, hcz23_1, hfz23_0, hfz23_1⟩ := bz2 BK315.out; have hnb24 := NB310_312.out; have hnc24 := NB312_310.out; have hnb25 := NB310_313.out; have hnc25 := NB313_310.out; obtain ⟨hcz26_0, hcz26_1, hfz26_0, hfz26_1⟩ := bz2 BK310.out))
 go_loopg [6, 9] k (fun kq v6 v9 w' => ∃ (x6_1 : List Int) (x9_1 : Int) (x315000_1 : Bool) (x315001_1 : List Int) (u315001 : Value), v9 = .int .i64 x9_1 ∧ Aside0 (maskref4_Dec_Split.l0 kq x6_1 x9_1 a0_0 l0_1 a1_0 l1_1 x315000_1 x315001_1 false l1_1 = some (r1, r2, r3, r4)) ∧ Aside0 (kq ≤ k) ∧ Aside0 (Kd.R (Kd.int .i64) 3 w' w.heap.size (fun k_ => (w.heap.size ≤ k_)) v6 x6_1) ∧ Aside0 (Kd.V (Kd.int .i64) 3 w' w.heap.size (fun k_ => (w.heap.size ≤ k_) ∧ some k_ ≠ (v6 : Value).ownBlock ∧ k_ ≠ gb310 ∧ k_ ≠ gb311 ∧ k_ ≠ gb312 ∧ k_ ≠ gb313 ∧ k_ ≠ gb314 ∧ k_ ≠ gb315) u315001 x315001_1) ∧ Aside0 (w'.heap[gb310]? = some (.cells #[.bool a0_0, (.slice A0_1 l0_1.length c0_1)] 36 (0, 0))) ∧ Aside0 (w'.heap[gb311]? = some (.cells #[.bool a1_0, (.slice A1_1 l1_1.length c1_1)] 36 (0, 0))) ∧ Aside0 (w'.heap[gb312]? = some (.cells #[.bool false, (.slice none 0 0)] 36 (0, 0))) ∧ Aside0 (w'.heap[gb313]? = some (.cells #[.bool false, (.slice none 0 0)] 36 (0, 0))) ∧ Aside0 (w'.heap[gb314]? = some (.cells #[.bool x315000_1, u315001] 36 (0, 0))) ∧ Aside0 (w'.heap[gb315]? = some (.cells #[.bool false, (.slice A1_1 l1_1.length c1_1)] 36 (0, 0))) ∧ Aside0 (Below w.heap.size w w'))
 case atStart => exact ⟨(([] : List Int)), (wrap64 ((l0_1.length : Int) - 1)), (false), (([] : List Int)), (.slice none 0 0), (by first | rfl | (simp; done) | (simp [*]; done)), H', ⟨Nat.le_refl _⟩, ⟨by first | exact Kd.R_nil _ _ _ _ _ | exact Kd.N_nil _ _ _ _ _ | exact Kd.V_nil _ _ _ _ _ | exact Kd.Q_nil _ _ _ _ _ | exact Kd.S_nil _ _ _ _ _⟩, ⟨Kd.V_nil _ _ _ _ _⟩, ⟨bf BK310.out⟩, ⟨bf BK311.out⟩, ⟨bf BK312.out⟩, ⟨bf BK313.out⟩, ⟨bf BK314.out⟩, ⟨by (with_reducible repeat (first | refine blk_drewN ?_ _ | refine blk_drew ?_ | refine blk_alloc ?_ _)); refine blk_put (cs := #[.bool false, .slice none 0 0]) ?_ 1 _ rfl; (with_reducible repeat (first | refine blk_drewN ?_ _ | refine blk_drew ?_ | refine blk_alloc ?_ _)); refine blk_put (cs := #[.bool false, .slice none 0 0]) ?_ 0 _ rfl; (with_reducible repeat (first | refine blk_drewN ?_ _ | refine blk_drew ?_ | refine blk_alloc ?_ _)); exact BK315.out⟩, ⟨bl⟩⟩
 clear H'
 clear hcz12_0 hcz12_1 hcz16_0 hcz16_1 hcz23_0 hcz23_1 hcz26_0 hcz26_1 hfz12_0 hfz12_1 hfz16_0 hfz16_1 hfz23_0 hfz23_1 hfz26_0 hfz26_1
 obtain ⟨x6_1, x9_1, x315000_1, x315001_1, u315001, rfl, HA, HK1, HO_6, HO_315001, BK310, BK311, BK312, BK313, BK314, BK315, HB⟩ := hrel
 cases gk with
 | zero => exact absurd HA.out (by simp [maskref4_Dec_Split.l0])
 | succ k1 =>
  have H := HA.out
  clear HA
  simp only [maskref4_Dec_Split.l0] at H
  by_cases c27 : x9_1 ≥ 0
  · rw [if_pos c27] at H
    have c27b0 : decide (0 ≤ x9_1) = true := decide_eq_true c27
    clear c27
    by_cases c28 : 0 ≤ x9_1
    rotate_left
    · rw [if_neg c28] at H
      exact absurd H (by simp)
    rw [if_pos c28] at H
    have c28b0 : decide (0 ≤ x9_1) = true := decide_eq_true c28
    clear c28
    by_cases c29 : x9_1 < (l0_1.length : Int)
    rotate_left
    · rw [if_neg c29] at H
      exact absurd H (by simp)
    rw [if_pos c29] at H
    have c29b0 : decide (x9_1 < (l0_1.length : Int)) = true := decide_eq_true c29
    clear c29
    obtain ⟨y317, hy317⟩ : ∃ y_ : List Int, y_ = (([rd l0_1 x9_1] : List Int)) := ⟨_, rfl⟩
    replace H : (if y317.length + x315001_1.length < 17592186044416 then ((maskref4_trim.f false (y317 ++ x315001_1)).bind fun bt323 => (maskref4_Dec_Split.l1 k1 x6_1 x9_1 0 a0_0 l0_1 a1_0 l1_1 bt323.1 bt323.2 false l1_1)) else (none)) = some (r1, r2, r3, r4) := by first | (rw [hy317]; with_reducible exact H) | (have H2_ := (Option.bind_some _ _).symm.trans H; rw [hy317]; with_reducible exact H2_) | (have H2_ := (Option.bind_some _ _).symm.trans H; with_reducible exact H2_) | with_reducible exact H | (rw [hy317]; exact H) | exact H
    have Ny317 := Aside0.mk hy317
    clear hy317
    by_cases c30 : y317.length + x315001_1.length < 17592186044416
    rotate_left
    · rw [if_neg c30] at H
      exact absurd H (by simp)
    rw [if_pos c30] at H
    have LMc30 := Aside0.mk c30
    clear c30
    obtain ⟨y320, hy320⟩ : ∃ y_ : List Int, y_ = (y317 ++ x315001_1) := ⟨_, rfl⟩
    replace H : ((maskref4_trim.f false y320).bind fun bt323 => (maskref4_Dec_Split.l1 k1 x6_1 x9_1 0 a0_0 l0_1 a1_0 l1_1 bt323.1 bt323.2 false l1_1)) = some (r1, r2, r3, r4) := by first | (rw [hy320]; with_reducible exact H) | (have H2_ := (Option.bind_some _ _).symm.trans H; rw [hy320]; with_reducible exact H2_) | (have H2_ := (Option.bind_some _ _).symm.trans H; with_reducible exact H2_) | with_reducible exact H | (rw [hy320]; exact H) | exact H
    have Ny320 := Aside0.mk hy320
    clear hy320
    replace H := Option.bind_eq_some_iff.mp H
    obtain ⟨⟨t323, t324⟩, A310, H⟩ := H
    replace H : (maskref4_Dec_Split.l1 k1 x6_1 x9_1 0 a0_0 l0_1 a1_0 l1_1 t323 t324 false l1_1) = some (r1, r2, r3, r4) := H
    have A31 := Aside0.mk A310
    clear A310
    have H' := Aside0.mk H
    clear H
    try go_wp2
    replace HO_6 := Aside0.mk (Kd.R_drew HO_6.out); replace HO_315001 := Aside0.mk (Kd.V_drew HO_315001.out); replace BK310 := Aside0.mk (blk_drew BK310.out); replace BK311 := Aside0.mk (blk_drew BK311.out); replace BK312 := Aside0.mk (blk_drew BK312.out); replace BK313 := Aside0.mk (blk_drew BK313.out); replace BK314 := Aside0.mk (blk_drew BK314.out); replace BK315 := Aside0.mk (blk_drew BK315.out); replace HB := Aside0.mk (below_drew1 HB.out)
    have p316 : 0 ≤ (x9_1 : Int) := of_decide_eq_true (by first | (with_reducible assumption) | assumption)
    have q316 : x9_1 < (l0_1.length : Int) := of_decide_eq_true (by first | (with_reducible assumption) | assumption)
    obtain ⟨ad316, e316, hx316_0⟩ := Kd.at_int HR0_1.out x9_1 p316 q316
    have hw316_0 := hx316_0
    cases e316
    replace hx316_0 := hc HB.out hx316_0
    replace p316 := eq_true p316
    replace q316 := eq_true q316
    refine start_ (n := 11) (S := fun w' => w'.cell? ⟨gb310, 0, none⟩ = some (.bool a0_0) ∧ w'.cell? ⟨gb310, 1, none⟩ = some (.slice (some ad316) l0_1.length c0_1) ∧ w'.cell? ⟨gb314, 0, none⟩ = some (.bool x315000_1) ∧ w'.cell? ⟨gb314, 1, none⟩ = some (u315001) ∧ w'.cell? (ad316.add (x9_1).toNat) = some (.int .i64 (rd l0_1 x9_1))) (ds := [10]) (zb 0 11) (by kernel_rfl) rfl rfl ⟨(blk_cell BK310.out 0).trans rfl, (blk_cell BK310.out 1).trans rfl, (blk_cell BK314.out 0).trans rfl, (blk_cell BK314.out 1).trans rfl, (hc HB.out hw316_0)⟩ (fun hHeld => ?_); refine with_tabW maskref4_Dec_Split.tab7 maskref4_Dec_Split.bits7 (fun HT_ HW_ => ?_)
    generalize wr.drew = w32 at HO_6 HO_315001 BK310 BK311 BK312 BK313 BK314 BK315 HB hx316_0 hHeld ⊢
    refine pure_ (i := 0) (N := some 24) (v := ?_) (a' := ?_) (zb 1 10) rfl rfl (any_of HT_.out (by kernel_rfl)) (fun _ _ _ h => h) (Or.inl ⟨by rfl, ?_⟩) ?_ ?_
    rotate_left; focus (intro w'; go_simp; with_reducible rfl)
    rotate_left; focus (simp only [Act.put, z1, z2, z3, i64_w, i32_w]; rfl)
    refine pure_ (i := 2) (N := some 26) (v := ?_) (a' := ?_) #[true,false,true,false,false,false,false,false,false,false,false] rfl rfl (any_of HT_.out (by kernel_rfl)) (fun _ _ _ h => h) (Or.inl ⟨by rfl, ?_⟩) ?_ ?_
    rotate_left; focus (intro w'; go_simp; with_reducible rfl)
    rotate_left; focus (simp only [Act.put, z1, z2, z3, i64_w, i32_w]; rfl)
    refine pure_ (i := 6) (N := some 30) (v := ?_) (a' := ?_) #[true,false,true,false,false,false,true,false,false,false,false] rfl rfl (any_of HT_.out (by kernel_rfl)) (fun _ _ _ h => h) (Or.inl ⟨by rfl, ?_⟩) ?_ ?_
    rotate_left; focus (intro w'; go_simp; with_reducible rfl)
    rotate_left; focus (simp only [Act.put, z1, z2, z3, i64_w, i32_w]; rfl)
    refine take_ (i := 1) (N := some 25) (v := ?_) (a' := ?_) #[true,true,true,false,false,false,true,false,false,false,false] rfl rfl (take_ofW HT_.out HW_.out (by kernel_rfl)) (fun _ _ _ h => h) (Or.inl ⟨by rfl, ?_⟩) hHeld ?_ ?_
    rotate_left
    · rintro w' ⟨s0, s1, s2, s3, s4⟩
      go_simp
      with_reducible rfl
    rotate_left; focus (simp only [Act.put, z1, z2, z3, i64_w, i32_w]; rfl)
    refine pure_ (i := 3) (N := some 27) (v := ?_) (a' := ?_) #[true,true,true,true,false,false,true,false,false,false,false] rfl rfl (any_of HT_.out (by kernel_rfl)) (fun _ _ _ h => h) (Or.inl ⟨by rfl, ?_⟩) ?_ ?_
    rotate_left; focus (intro w'; go_simp; with_reducible rfl)
    rotate_left; focus (simp only [Act.put, z1, z2, z3, i64_w, i32_w]; rfl)
    refine take_ (i := 4) (N := some 28) (v := ?_) (a' := ?_) #[true,true,true,true,true,false,true,false,false,false,false] rfl rfl (take_ofW HT_.out HW_.out (by kernel_rfl)) (fun _ _ _ h => h) (Or.inl ⟨by rfl, ?_⟩) hHeld ?_ ?_
    rotate_left
    · rintro w' ⟨s0, s1, s2, s3, s4⟩
      go_simp
      with_reducible rfl
    rotate_left; focus (simp only [Act.put, z1, z2, z3, i64_w, i32_w]; rfl)
    refine take_ (i := 7) (N := some 31) (v := ?_) (a' := ?_) #[true,true,true,true,true,false,true,true,false,false,false] rfl rfl (take_ofW HT_.out HW_.out (by kernel_rfl)) (fun _ _ _ h => h) (Or.inl ⟨by rfl, ?_⟩) hHeld ?_ ?_
    rotate_left
    · rintro w' ⟨s0, s1, s2, s3, s4⟩
      go_simp
      with_reducible rfl
    rotate_left; focus (simp only [Act.put, z1, z2, z3, i64_w, i32_w]; rfl)
    refine one_ (i := 5) (N := some 29) (zb 8 3) rfl rfl (one_of HT_.out (by kernel_rfl)) (by decide) (fun K hK => ?_)
    refine Kd.R_lit_step (Kd.int .i64) _ 3 ?hg (N := 29) ?hd (xs := ([rd l0_1 x9_1] : List Int)) (inner := [.int .i64 (rd l0_1 x9_1)]) (ok := fun _ => True) (okp := fun _ => True) ?hr ?hp (fun _ hk => hk) trivial (Below.refl _ _) (Nat.le_refl _) (by simp) ?_; (case hd => rfl); (case hg => rfl); (case hr => first | (go_simp; done) | (go_simp; rfl)); (case hp => exact (Reps.one (show Kd.M (Kd.int .i64) _ _ _ (rd l0_1 x9_1) [.int .i64 (rd l0_1 x9_1)] from rfl) (Reps.none _ _)))
    intro v318 w33 ho34 hb hg_ hnew_
    clear hg_ hnew_
    (first | rw [← Ny317.out] at ho34 | (simp only [Int.reduceToNat] at ho34; rw [← Ny317.out] at ho34))
    replace HO_315001 := Aside0.mk (Kd.V_elder' (vk HO_315001.out) (Kd.R_base ho34) hb); have HO319 := Aside0.mk (Kd.R_lower (Kd.R_new' (Kd.R_newM (M := fun k_ => (w.heap.size ≤ k_)) ho34 (below_size bl) (fun k_ h_ => h_)) (Kd.R_lt (by (with_reducible repeat (first | apply Kd.R_alloc | apply Kd.R_drewN | apply Kd.R_drew)); exact HO_6.out))) (below_size bl)); replace HO_6 := Aside0.mk (Kd.R_elder' (by (with_reducible repeat (first | apply Kd.R_alloc | apply Kd.R_drewN | apply Kd.R_drew)); exact HO_6.out) (Kd.R_base ho34) hb); replace BK310 := Aside0.mk (bb BK310.out hb); replace BK311 := Aside0.mk (bb BK311.out hb); replace BK312 := Aside0.mk (bb BK312.out hb); replace BK313 := Aside0.mk (bb BK313.out hb); replace BK314 := Aside0.mk (bb BK314.out hb); replace BK315 := Aside0.mk (bb BK315.out hb); replace HB := Aside0.mk (below_step bl hb)
    clear hb ho34
    obtain ⟨Ao36, co36, eo36⟩ := Kd.V_slice HO_315001.out
    (first | subst eo36 | (injection eo36 with f1_ f2_ f3_; have f4_ := f1_.symm; have f5_ := f3_.symm; clear f1_ f2_ f3_; subst f4_; subst f5_))
    refine hK.out _ _ ⟨(blk_cell BK310.out 0).trans rfl, (blk_cell BK310.out 1).trans rfl, (blk_cell BK314.out 0).trans rfl, (blk_cell BK314.out 1).trans rfl, (hc HB.out hw316_0)⟩ (fun hHeld => ?_)
    clear hK K
    refine norm_ (a' := ?_) ?_ ?_
    rotate_left; focus (show Act.put _ (some 29) _ = _; simp only [Act.put, z1, z2, z3, i64_w, i32_w]; rfl)
    refine one_ (i := 8) (N := some 32) (zb 9 2) rfl rfl (one_of HT_.out (by kernel_rfl)) (by decide) (fun K hK => ?_)
    refine Kd.R_append_rows_step (Kd.int .i64) (w0 := w) w.heap.size (by rfl) (.tmp 29) (.tmp 31) 34 3 (.int .i64 0) 8 rfl Try.underlying34 info3 rfl (by decide) (by omega) v318 y317 x315001_1 _ _ _ (fun k_ => (w.heap.size ≤ k_) ∧ some k_ ≠ (u6 : Value).ownBlock) (fun _ => False) rfl rfl ?aO ?aR (fun _ _ h => h) (fun _ h => h.elim) ?aF ?aB ?aS ?aL ?_
    (case aR => exact kc ((Kd.V_reads' HO_315001.out).2.2))
    (case aB => exact bl)
    (case aF => exact (fun k_ hk => ⟨(Nat.le_trans (below_size bl) hk), Kd.fresh' (Kd.R_lt (by (with_reducible repeat (first | apply Kd.R_alloc | apply Kd.R_drewN | apply Kd.R_drew)); exact HO_6.out)) k_ hk⟩))
    (case aO => exact (by (with_reducible repeat (first | apply Kd.R_alloc | apply Kd.R_drewN | apply Kd.R_drew)); exact Kd.R_mono HO319.out (fun _ hk => ⟨hk.1.1, hk.2⟩)))
    (case aS => exact (below_size bl))
    (case aL => have := LMc30.out; omega)
    intro v321 w35 ho hb hg hat
    rw [← Ny320.out] at ho
    replace HO_6 := Aside0.mk (Kd.R_after (ok := (fun k_ => (w.heap.size ≤ k_))) (by (with_reducible repeat (first | apply Kd.R_alloc | apply Kd.R_drewN | apply Kd.R_drew)); exact HO_6.out) hg hat); replace HO_315001 := Aside0.mk (Kd.V_afterv (ok := (fun k_ => (w.heap.size ≤ k_) ∧ some k_ ≠ (u6 : Value).ownBlock ∧ k_ ≠ gb310 ∧ k_ ≠ gb311 ∧ k_ ≠ gb312 ∧ k_ ≠ gb313 ∧ k_ ≠ gb314 ∧ k_ ≠ gb315)) (vk HO_315001.out) hg hat); replace BK310 := Aside0.mk (blk_grown (bk BK310.out) hg (Kd.R_ne HO319.out BK310.out (by decide))); replace BK311 := Aside0.mk (blk_grown (bk BK311.out) hg (Kd.R_ne HO319.out BK311.out (by decide))); replace BK312 := Aside0.mk (blk_grown (bk BK312.out) hg (Kd.R_ne HO319.out BK312.out (by decide))); replace BK313 := Aside0.mk (blk_grown (bk BK313.out) hg (Kd.R_ne HO319.out BK313.out (by decide))); replace BK314 := Aside0.mk (blk_grown (bk BK314.out) hg (Kd.R_ne HO319.out BK314.out (by decide))); replace BK315 := Aside0.mk (blk_grown (bk BK315.out) hg (Kd.R_ne HO319.out BK315.out (by decide))); replace HB := Aside0.mk (hb); have HO322 := Aside0.mk (ho); clear HO319
    clear ho hb hg hat
    obtain ⟨Ao37, co37, eo37⟩ := Kd.R_slice HO322.out
    (first | subst eo37 | (injection eo37 with f1_ f2_ f3_; have f4_ := f1_.symm; have f5_ := f3_.symm; clear f1_ f2_ f3_; subst f4_; subst f5_))
    refine hK.out _ _ ⟨(blk_cell BK310.out 0).trans rfl, (blk_cell BK310.out 1).trans rfl, (blk_cell BK314.out 0).trans rfl, (blk_cell BK314.out 1).trans rfl, (hc HB.out hw316_0)⟩ (fun hHeld => ?_)
    clear hK K
    refine norm_ (a' := ?_) ?_ ?_
    rotate_left; focus (show Act.put _ (some 32) _ = _; simp only [Act.put, z1, z2, z3, i64_w, i32_w]; rfl)
    refine one_ (i := 9) (N := some 33) (zb 10 1) rfl rfl (one_of HT_.out (by kernel_rfl)) (by decide) (fun K hK => ?_)
    refine goes_ Try.func66 (by kernel_rfl) rfl #[.bool false, .slice Ao37 y320.length co37] (by rfl) rfl rfl (by (try simp only [List.map_toArray, List.map_cons, List.map_nil]); first | done | rfl | (simp only [List.length_drop, List.length_take]; rfl)) ?_
    with_reducible refine (maskref4_trim.calls false (fun k_ => some k_ = (.slice Ao37 y320.length co37 : Value).ownBlock) _ _ y320 t323 t324 _ ?side1 A31.out).mono ?_
    (case side1 => exact Kd.R_V (Kd.R_tight rfl (Kd.R_types (Kd.R_types (Kd.R_types (Kd.R_types (Kd.R_types (Kd.R_types (HO322.out) BK310.out (by decide)) BK311.out (by decide)) BK312.out (by decide)) BK313.out (by decide)) BK314.out (by decide)) BK315.out (by decide))))
    rintro e w38 ⟨v325, rfl, ho0, hb⟩
    refine ⟨_, rfl, ?_⟩
    replace HO_315001 := Aside0.mk (vb HO_315001.out hb); have HO326 := Aside0.mk (Kd.V_lower (Kd.V_mono (ok' := fun k_ => (w.heap.size ≤ k_) ∧ some k_ ≠ (u6 : Value).ownBlock ∧ k_ ≠ gb310 ∧ k_ ≠ gb311 ∧ k_ ≠ gb312 ∧ k_ ≠ gb313 ∧ k_ ≠ gb314 ∧ k_ ≠ gb315) ho0 (fun k_ hk_ => ⟨Or.elim hk_ (fun hs_ => ((Kd.R_types (Kd.R_types (Kd.R_types (Kd.R_types (Kd.R_types (Kd.R_types (HO322.out) BK310.out (by decide)) BK311.out (by decide)) BK312.out (by decide)) BK313.out (by decide)) BK314.out (by decide)) BK315.out (by decide)).1 k_ hs_.symm).1.1.1.1.1.1.1) (fun hn_ => (Nat.le_trans (below_size bl) hn_)), Or.elim hk_ (fun hs_ => ((Kd.R_types (Kd.R_types (Kd.R_types (Kd.R_types (Kd.R_types (Kd.R_types (HO322.out) BK310.out (by decide)) BK311.out (by decide)) BK312.out (by decide)) BK313.out (by decide)) BK314.out (by decide)) BK315.out (by decide)).1 k_ hs_.symm).1.1.1.1.1.1.2) (fun hn_ => (Kd.fresh' (Kd.R_lt (by (with_reducible repeat (first | apply Kd.R_alloc | apply Kd.R_drewN | apply Kd.R_drew)); exact HO_6.out)) k_ hn_)), Or.elim hk_ (fun hs_ => ((Kd.R_types (Kd.R_types (Kd.R_types (Kd.R_types (Kd.R_types (Kd.R_types (HO322.out) BK310.out (by decide)) BK311.out (by decide)) BK312.out (by decide)) BK313.out (by decide)) BK314.out (by decide)) BK315.out (by decide)).1 k_ hs_.symm).1.1.1.1.1.2) (fun hn_ => (Kd.freshB (g := gb310) (o := .cells #[.bool a0_0, .slice (some ad316) l0_1.length c0_1] 36 (0, 0)) (bk BK310.out) k_ hn_)), Or.elim hk_ (fun hs_ => ((Kd.R_types (Kd.R_types (Kd.R_types (Kd.R_types (Kd.R_types (Kd.R_types (HO322.out) BK310.out (by decide)) BK311.out (by decide)) BK312.out (by decide)) BK313.out (by decide)) BK314.out (by decide)) BK315.out (by decide)).1 k_ hs_.symm).1.1.1.1.2) (fun hn_ => (Kd.freshB (g := gb311) (o := .cells #[.bool a1_0, .slice A1_1 l1_1.length c1_1] 36 (0, 0)) (bk BK311.out) k_ hn_)), Or.elim hk_ (fun hs_ => ((Kd.R_types (Kd.R_types (Kd.R_types (Kd.R_types (Kd.R_types (Kd.R_types (HO322.out) BK310.out (by decide)) BK311.out (by decide)) BK312.out (by decide)) BK313.out (by decide)) BK314.out (by decide)) BK315.out (by decide)).1 k_ hs_.symm).1.1.1.2) (fun hn_ => (Kd.freshB (g := gb312) (o := .cells #[.bool false, .slice none 0 0] 36 (0, 0)) (bk BK312.out) k_ hn_)), Or.elim hk_ (fun hs_ => ((Kd.R_types (Kd.R_types (Kd.R_types (Kd.R_types (Kd.R_types (Kd.R_types (HO322.out) BK310.out (by decide)) BK311.out (by decide)) BK312.out (by decide)) BK313.out (by decide)) BK314.out (by decide)) BK315.out (by decide)).1 k_ hs_.symm).1.1.2) (fun hn_ => (Kd.freshB (g := gb313) (o := .cells #[.bool false, .slice none 0 0] 36 (0, 0)) (bk BK313.out) k_ hn_)), Or.elim hk_ (fun hs_ => ((Kd.R_types (Kd.R_types (Kd.R_types (Kd.R_types (Kd.R_types (Kd.R_types (HO322.out) BK310.out (by decide)) BK311.out (by decide)) BK312.out (by decide)) BK313.out (by decide)) BK314.out (by decide)) BK315.out (by decide)).1 k_ hs_.symm).1.2) (fun hn_ => (Kd.freshB (g := gb314) (o := .cells #[.bool x315000_1, .slice Ao36 x315001_1.length co36] 36 (0, 0)) (bk BK314.out) k_ hn_)), Or.elim hk_ (fun hs_ => ((Kd.R_types (Kd.R_types (Kd.R_types (Kd.R_types (Kd.R_types (Kd.R_types (HO322.out) BK310.out (by decide)) BK311.out (by decide)) BK312.out (by decide)) BK313.out (by decide)) BK314.out (by decide)) BK315.out (by decide)).1 k_ hs_.symm).2) (fun hn_ => (Kd.freshB (g := gb315) (o := .cells #[.bool false, .slice A1_1 l1_1.length c1_1] 36 (0, 0)) (bk BK315.out) k_ hn_))⟩)) (below_size bl)); replace HO_6 := Aside0.mk (rb HO_6.out hb); replace HO322 := Aside0.mk (rb HO322.out hb); replace BK310 := Aside0.mk (bb BK310.out hb); replace BK311 := Aside0.mk (bb BK311.out hb); replace BK312 := Aside0.mk (bb BK312.out hb); replace BK313 := Aside0.mk (bb BK313.out hb); replace BK314 := Aside0.mk (bb BK314.out hb); replace BK315 := Aside0.mk (bb BK315.out hb); replace HB := Aside0.mk (below_step bl hb)
    (try clear hb)
    (try clear hb2)
    (try clear hk)
    (try clear hi)
    (try clear ho0)
    obtain ⟨Ao40, co40, eo40⟩ := Kd.V_slice HO326.out
    (first | subst eo40 | (injection eo40 with f1_ f2_ f3_; have f4_ := f1_.symm; have f5_ := f3_.symm; clear f1_ f2_ f3_; subst f4_; subst f5_))
    refine hK.out _ _ ⟨(blk_cell BK310.out 0).trans rfl, (blk_cell BK310.out 1).trans rfl, (blk_cell BK314.out 0).trans rfl, (blk_cell BK314.out 1).trans rfl, (hc HB.out hw316_0)⟩ (fun hHeld => ?_)
    clear hK K
    refine norm_ (a' := ?_) ?_ ?_
    rotate_left; focus (show Act.put _ (some 33) _ = _; simp only [Act.put, z1, z2, z3, i64_w, i32_w]; rfl)
    refine last_ (i := 10) (N := none) (zb 11 0) rfl rfl (one_of HT_.out (by kernel_rfl)) (by decide) (fun K hK => ?_)
    have hfs39 := blk_frozen BK314.out 0
    have hfs41 := blk_frozen BK314.out 1
    refine skip_ (w1 := ?_) (by rfl) rfl ?_ ?_
    rotate_left; focus (go_simp; rfl)
    refine hK.out _ _ ?_
    clear hK K
    refine done_ (done_of HT_.out (by kernel_rfl)) ?_
    try go_wp2
    go_loopg [10] k1 (fun kq v10 w' => ∃ (x10_2 : Int) (x315000_2 : Bool) (x315001_2 : List Int) (u315001 : Value), v10 = .int .i64 x10_2 ∧ Aside0 (maskref4_Dec_Split.l1 kq x6_1 x9_1 x10_2 a0_0 l0_1 a1_0 l1_1 x315000_2 x315001_2 false l1_1 = some (r1, r2, r3, r4)) ∧ Aside0 (kq ≤ k1) ∧ Aside0 (Kd.R (Kd.int .i64) 3 w' w.heap.size (fun k_ => (w.heap.size ≤ k_)) u6 x6_1) ∧ Aside0 (Kd.V (Kd.int .i64) 3 w' w.heap.size (fun k_ => (w.heap.size ≤ k_) ∧ some k_ ≠ (u6 : Value).ownBlock ∧ k_ ≠ gb310 ∧ k_ ≠ gb311 ∧ k_ ≠ gb312 ∧ k_ ≠ gb313 ∧ k_ ≠ gb314 ∧ k_ ≠ gb315) u315001 x315001_2) ∧ Aside0 (w'.heap[gb310]? = some (.cells #[.bool a0_0, (.slice (some ad316) l0_1.length c0_1)] 36 (0, 0))) ∧ Aside0 (w'.heap[gb311]? = some (.cells #[.bool a1_0, (.slice A1_1 l1_1.length c1_1)] 36 (0, 0))) ∧ Aside0 (w'.heap[gb312]? = some (.cells #[.bool false, (.slice none 0 0)] 36 (0, 0))) ∧ Aside0 (w'.heap[gb313]? = some (.cells #[.bool false, (.slice none 0 0)] 36 (0, 0))) ∧ Aside0 (w'.heap[gb314]? = some (.cells #[.bool x315000_2, u315001] 36 (0, 0))) ∧ Aside0 (w'.heap[gb315]? = some (.cells #[.bool false, (.slice A1_1 l1_1.length c1_1)] 36 (0, 0))) ∧ Aside0 (Below w.heap.size w w'))
    case atStart => exact ⟨(0), (t323), (t324), (.slice Ao40 t324.length co40), (by first | rfl | (simp; done) | (simp [*]; done)), H', ⟨Nat.le_refl _⟩, ⟨by (with_reducible repeat (first | apply Kd.R_alloc | apply Kd.R_drewN | apply Kd.R_drew)); exact Kd.R_mono (Kd.R_far (p := ⟨gb314, 1, none⟩) (Kd.R_far (p := ⟨gb314, 0, none⟩) (Kd.R_types HO_6.out BK314.out (by decide)) (fun _ hk => hk.2) (.bool t323)) (fun _ hk => hk.2) (.slice Ao40 t324.length co40)) (fun _ hk => hk.1.1)⟩, ⟨by (with_reducible repeat (first | apply Kd.V_alloc | apply Kd.V_drewN | apply Kd.V_drew)); exact Kd.V_mono (Kd.V_far (p := ⟨gb314, 1, none⟩) (Kd.V_far (p := ⟨gb314, 0, none⟩) (Kd.V_mono HO326.out (fun k_ hk => (⟨hk, hk.2.2.2.2.2.2.1⟩ : _ ∧ k_ ≠ gb314))) (fun _ hk => hk.2) (.bool t323)) (fun _ hk => hk.2) (.slice Ao40 t324.length co40)) (fun _ hk => ⟨hk.1.1, ⟨hk.1.2.1, ⟨hk.1.2.2.1, ⟨hk.1.2.2.2.1, ⟨hk.1.2.2.2.2.1, ⟨hk.1.2.2.2.2.2.1, ⟨hk.1.2.2.2.2.2.2.1, hk.1.2.2.2.2.2.2.2⟩⟩⟩⟩⟩⟩⟩)⟩, ⟨bf BK310.out⟩, ⟨bf BK311.out⟩, ⟨bf BK312.out⟩, ⟨bf BK313.out⟩, ⟨by (with_reducible repeat (first | refine blk_drewN ?_ _ | refine blk_drew ?_ | refine blk_alloc ?_ _)); refine blk_put (cs := #[.bool t323, .slice Ao36 x315001_1.length co36]) ?_ 1 _ rfl; (with_reducible repeat (first | refine blk_drewN ?_ _ | refine blk_drew ?_ | refine blk_alloc ?_ _)); refine blk_put (cs := #[.bool x315000_1, .slice Ao36 x315001_1.length co36]) ?_ 0 _ rfl; (with_reducible repeat (first | refine blk_drewN ?_ _ | refine blk_drew ?_ | refine blk_alloc ?_ _)); exact BK314.out⟩, ⟨bf BK315.out⟩, ⟨bl⟩⟩
    clear H'
    clear c27b0 c28b0 c29b0 hx316_0 p316 q316
    obtain ⟨x10_2, x315000_2, x315001_2, u315001, rfl, HA, HK2, HO_6, HO_315001, BK310, BK311, BK312, BK313, BK314, BK315, HB⟩ := hrel
    cases gk with
    | zero => exact absurd HA.out (by simp [maskref4_Dec_Split.l1])
    | succ k2 =>
     have H := HA.out
     clear HA
     simp only [maskref4_Dec_Split.l1] at H
     replace H := Option.bind_eq_some_iff.mp H
     obtain ⟨t327, A420, H⟩ := H
     replace H : (if t327 = true then ((some (([x10_2] : List Int) : List Int)).bind fun y328 => (if y328.length + x6_1.length < 17592186044416 then (maskref4_Dec_Split.l0 k2 (y328 ++ x6_1) (wrap64 (x9_1 - 1)) a0_0 l0_1 a1_0 l1_1 x315000_2 x315001_2 false l1_1) else (none))) else ((maskref4_Dec_Minus.f k2 x315000_2 x315001_2 false l1_1).bind fun bt334 => (maskref4_Dec_Split.l1 k2 x6_1 x9_1 (wrap64 (x10_2 + 1)) a0_0 l0_1 a1_0 l1_1 bt334.1 bt334.2 false l1_1))) = some (r1, r2, r3, r4) := H
     have A42 := Aside0.mk A420
     clear A420
     by_cases c43 : t327 = true
     rotate_left
     · replace c43 := Bool.eq_false_iff.mpr c43
       subst c43
       have H1 : ((maskref4_Dec_Minus.f k2 x315000_2 x315001_2 false l1_1).bind fun bt334 => (maskref4_Dec_Split.l1 k2 x6_1 x9_1 (wrap64 (x10_2 + 1)) a0_0 l0_1 a1_0 l1_1 bt334.1 bt334.2 false l1_1)) = some (r1, r2, r3, r4) := by rw [if_neg (show ¬ (false = true) by decide)] at H; exact H
       clear H
       have H := H1
       clear H1
       replace H := Option.bind_eq_some_iff.mp H
       obtain ⟨⟨t334, t335⟩, A610, H⟩ := H
       replace H : (maskref4_Dec_Split.l1 k2 x6_1 x9_1 (wrap64 (x10_2 + 1)) a0_0 l0_1 a1_0 l1_1 t334 t335 false l1_1) = some (r1, r2, r3, r4) := H
       have A61 := Aside0.mk A610
       clear A610
       have H' := Aside0.mk H
       clear H
       obtain ⟨hcz67_0, hcz67_1, hfz67_0, hfz67_1⟩ := bz2 BK314.out
       obtain ⟨hcz72_0, hcz72_1, hfz72_0, hfz72_1⟩ := bz2 BK315.out
       obtain ⟨Ao73, co73, eo73⟩ := Kd.V_slice HO_315001.out
       subst eo73
       go_wp2_with (first | ((with_reducible refine gate_callee (f := 81) rfl ?_); refine goesL_ (some 38) rfl rfl Try.func81 (by kernel_rfl) rfl #[.slice Ao73 x315001_2.length co73, .slice A1_1 l1_1.length c1_1] rfl (by (try simp only [List.map_toArray, List.map_cons, List.map_nil]); first | done | rfl | (simp only [List.length_drop, List.length_take]; rfl)) ?_; (with_reducible refine (maskref4_less.calls k2 _ _ x315001_2 _ _ l1_1 false _ ?side1 ?side2 ?side3 ?side4 A42.out).mono ?_); (case side1 => exact kc ((Kd.V_reads' HO_315001.out).2.2)); (case side2 => exact (Kd.V_reads' HO_315001.out).2.1); (case side3 => exact kc (Kd.C_below HR1_1.out HB.out)); (case side4 => exact HC1_1.out); rintro e w' ⟨rfl, ⟨nd, rfl⟩⟩; refine ⟨_, rfl, ?_⟩; (try (rw [drewN_self wr]; generalize hq_ : World.drewN wr _ = wr; have n0_ : Aside0 (Kd.V (Kd.int .i64) 3 wr w.heap.size (fun k_ => (w.heap.size ≤ k_) ∧ some k_ ≠ (u6 : Value).ownBlock ∧ k_ ≠ gb310 ∧ k_ ≠ gb311 ∧ k_ ≠ gb312 ∧ k_ ≠ gb313 ∧ k_ ≠ gb314 ∧ k_ ≠ gb315) (.slice Ao73 x315001_2.length co73) x315001_2) := ⟨by rw [← hq_]; exact (vk HO_315001.out)⟩; have n1_ : Aside0 (Kd.R (Kd.int .i64) 3 wr w.heap.size (fun k_ => (w.heap.size ≤ k_)) u6 x6_1) := ⟨by rw [← hq_]; exact (by (with_reducible repeat (first | apply Kd.R_alloc | apply Kd.R_drewN | apply Kd.R_drew)); exact HO_6.out)⟩; have n2_ : Aside0 (wr.heap[gb310]? = some (.cells #[.bool a0_0, .slice (some ad316) l0_1.length c0_1] 36 (0, 0))) := ⟨by rw [← hq_]; exact (bk BK310.out)⟩; have n3_ : Aside0 (wr.heap[gb311]? = some (.cells #[.bool a1_0, .slice A1_1 l1_1.length c1_1] 36 (0, 0))) := ⟨by rw [← hq_]; exact (bk BK311.out)⟩; have n4_ : Aside0 (wr.heap[gb312]? = some (.cells #[.bool false, .slice none 0 0] 36 (0, 0))) := ⟨by rw [← hq_]; exact (bk BK312.out)⟩; have n5_ : Aside0 (wr.heap[gb313]? = some (.cells #[.bool false, .slice none 0 0] 36 (0, 0))) := ⟨by rw [← hq_]; exact (bk BK313.out)⟩; have n6_ : Aside0 (wr.heap[gb314]? = some (.cells #[.bool x315000_2, .slice Ao73 x315001_2.length co73] 36 (0, 0))) := ⟨by rw [← hq_]; exact (bk BK314.out)⟩; have n7_ : Aside0 (wr.heap[gb315]? = some (.cells #[.bool false, .slice A1_1 l1_1.length c1_1] 36 (0, 0))) := ⟨by rw [← hq_]; exact (bk BK315.out)⟩; have n8_ : Aside0 (Below w.heap.size w wr) := ⟨by rw [← hq_]; exact bl⟩; clear HO_315001 HO_6 BK310 BK311 BK312 BK313 BK314 BK315 HB hq_; have HO_315001 := n0_; have HO_6 := n1_; have BK310 := n2_; have BK311 := n3_; have BK312 := n4_; have BK313 := n5_; have BK314 := n6_; have BK315 := n7_; have HB := n8_; clear n0_ n1_ n2_ n3_ n4_ n5_ n6_ n7_ n8_; have hczR_0 := (blk_cell BK314.out 0).trans (rfl : _ = some (Value.bool x315000_2)); have hczR_1 := (blk_cell BK314.out 1).trans (rfl : _ = some (Value.slice Ao73 x315001_2.length co73)); have hczS_0 := (blk_cell BK315.out 0).trans (rfl : _ = some (Value.bool false)); have hczS_1 := (blk_cell BK315.out 1).trans (rfl : _ = some (Value.slice A1_1 l1_1.length c1_1)); obtain ⟨-, -, hfzR_0, hfzR_1⟩ := bz2 BK314.out))) | ((with_reducible refine gate_callee (f := 47) rfl ?_); refine goesL_ (some 42) rfl rfl Try.func47 (by kernel_rfl) rfl #[.agg #[.bool x315000_2, .slice Ao73 x315001_2.length co73], .agg #[.bool false, .slice A1_1 l1_1.length c1_1]] rfl (by (try simp only [List.map_toArray, List.map_cons, List.map_nil]); first | done | rfl | (simp only [List.length_drop, List.length_take]; rfl)) ?_; (with_reducible refine (maskref4_Dec_Minus.calls k2 x315000_2 _ _ x315001_2 false _ _ l1_1 t334 t335 _ ?side1 ?side2 ?side3 ?side4 A61.out).mono ?_); (case side1 => exact kc ((Kd.V_reads' HO_315001.out).2.2)); (case side2 => exact (Kd.V_reads' HO_315001.out).2.1); (case side3 => exact kc (Kd.C_below HR1_1.out HB.out)); (case side4 => exact HC1_1.out); rintro e w74 ⟨v336, rfl, ho0, hb⟩; refine ⟨_, rfl, ?_⟩; replace HO_315001 := Aside0.mk (vb HO_315001.out hb); have HO337 := Aside0.mk (Kd.V_lower (Kd.V_mono (ok' := fun k_ => (w.heap.size ≤ k_) ∧ some k_ ≠ (u6 : Value).ownBlock ∧ k_ ≠ gb310 ∧ k_ ≠ gb311 ∧ k_ ≠ gb312 ∧ k_ ≠ gb313 ∧ k_ ≠ gb314 ∧ k_ ≠ gb315) ho0 (fun k_ hk_ => ⟨(Nat.le_trans (below_size bl) hk_), (Kd.fresh' (Kd.R_lt (by (with_reducible repeat (first | apply Kd.R_alloc | apply Kd.R_drewN | apply Kd.R_drew)); exact HO_6.out)) k_ hk_), (Kd.freshB (g := gb310) (o := .cells #[.bool a0_0, .slice (some ad316) l0_1.length c0_1] 36 (0, 0)) (bk BK310.out) k_ hk_), (Kd.freshB (g := gb311) (o := .cells #[.bool a1_0, .slice A1_1 l1_1.length c1_1] 36 (0, 0)) (bk BK311.out) k_ hk_), (Kd.freshB (g := gb312) (o := .cells #[.bool false, .slice none 0 0] 36 (0, 0)) (bk BK312.out) k_ hk_), (Kd.freshB (g := gb313) (o := .cells #[.bool false, .slice none 0 0] 36 (0, 0)) (bk BK313.out) k_ hk_), (Kd.freshB (g := gb314) (o := .cells #[.bool x315000_2, .slice Ao73 x315001_2.length co73] 36 (0, 0)) (bk BK314.out) k_ hk_), (Kd.freshB (g := gb315) (o := .cells #[.bool false, .slice A1_1 l1_1.length c1_1] 36 (0, 0)) (bk BK315.out) k_ hk_)⟩)) (below_size bl)); replace HO_6 := Aside0.mk (rb HO_6.out hb); replace BK310 := Aside0.mk (bb BK310.out hb); replace BK311 := Aside0.mk (bb BK311.out hb); replace BK312 := Aside0.mk (bb BK312.out hb); replace BK313 := Aside0.mk (bb BK313.out hb); replace BK314 := Aside0.mk (bb BK314.out hb); replace BK315 := Aside0.mk (bb BK315.out hb); replace HB := Aside0.mk (below_step bl hb); (try clear hb); (try clear ho0); obtain ⟨hcz75_0, hcz75_1, hfz75_0, hfz75_1⟩ := bz2 BK314.out; obtain ⟨Ao76, co76, eo76⟩ := Kd.V_slice HO337.out; subst eo76))
       go_roundg k2
       case measure => have := HK1.out; have := HK2.out; omega
       case rel => exact ⟨(wrap64 (x10_2 + 1)), (t334), (t335), (.slice Ao76 t335.length co76), (by first | rfl | (simp; done) | (simp [*]; done)), H', ⟨by have := HK1.out; have := HK2.out; omega⟩, ⟨by (with_reducible repeat (first | apply Kd.R_alloc | apply Kd.R_drewN | apply Kd.R_drew)); exact Kd.R_mono (Kd.R_far (p := ⟨gb314, 1, none⟩) (Kd.R_far (p := ⟨gb314, 0, none⟩) (Kd.R_types HO_6.out BK314.out (by decide)) (fun _ hk => hk.2) (.bool t334)) (fun _ hk => hk.2) (.slice Ao76 t335.length co76)) (fun _ hk => hk.1)⟩, ⟨by (with_reducible repeat (first | apply Kd.V_alloc | apply Kd.V_drewN | apply Kd.V_drew)); exact Kd.V_mono (Kd.V_far (p := ⟨gb314, 1, none⟩) (Kd.V_far (p := ⟨gb314, 0, none⟩) (Kd.V_mono HO337.out (fun k_ hk => (⟨hk, hk.2.2.2.2.2.2.1⟩ : _ ∧ k_ ≠ gb314))) (fun _ hk => hk.2) (.bool t334)) (fun _ hk => hk.2) (.slice Ao76 t335.length co76)) (fun _ hk => ⟨hk.1.1, ⟨hk.1.2.1, ⟨hk.1.2.2.1, ⟨hk.1.2.2.2.1, ⟨hk.1.2.2.2.2.1, ⟨hk.1.2.2.2.2.2.1, ⟨hk.1.2.2.2.2.2.2.1, hk.1.2.2.2.2.2.2.2⟩⟩⟩⟩⟩⟩⟩)⟩, ⟨bf BK310.out⟩, ⟨bf BK311.out⟩, ⟨bf BK312.out⟩, ⟨bf BK313.out⟩, ⟨by (with_reducible repeat (first | refine blk_drewN ?_ _ | refine blk_drew ?_ | refine blk_alloc ?_ _)); refine blk_put (cs := #[.bool t334, .slice Ao73 x315001_2.length co73]) ?_ 1 _ rfl; (with_reducible repeat (first | refine blk_drewN ?_ _ | refine blk_drew ?_ | refine blk_alloc ?_ _)); refine blk_put (cs := #[.bool x315000_2, .slice Ao73 x315001_2.length co73]) ?_ 0 _ rfl; (with_reducible repeat (first | refine blk_drewN ?_ _ | refine blk_drew ?_ | refine blk_alloc ?_ _)); exact BK314.out⟩, ⟨bf BK315.out⟩, ⟨bl⟩⟩
     subst c43
     have H1 : ((some (([x10_2] : List Int) : List Int)).bind fun y328 => (if y328.length + x6_1.length < 17592186044416 then (maskref4_Dec_Split.l0 k2 (y328 ++ x6_1) (wrap64 (x9_1 - 1)) a0_0 l0_1 a1_0 l1_1 x315000_2 x315001_2 false l1_1) else (none))) = some (r1, r2, r3, r4) := by rw [if_pos rfl] at H; exact H
     clear H
     have H := H1
     clear H1
     obtain ⟨y328, hy328⟩ : ∃ y_ : List Int, y_ = (([x10_2] : List Int)) := ⟨_, rfl⟩
     replace H : (if y328.length + x6_1.length < 17592186044416 then (maskref4_Dec_Split.l0 k2 (y328 ++ x6_1) (wrap64 (x9_1 - 1)) a0_0 l0_1 a1_0 l1_1 x315000_2 x315001_2 false l1_1) else (none)) = some (r1, r2, r3, r4) := by first | (rw [hy328]; with_reducible exact H) | (have H2_ := (Option.bind_some _ _).symm.trans H; rw [hy328]; with_reducible exact H2_) | (have H2_ := (Option.bind_some _ _).symm.trans H; with_reducible exact H2_) | with_reducible exact H | (rw [hy328]; exact H) | exact H
     have Ny328 := Aside0.mk hy328
     clear hy328
     by_cases c44 : y328.length + x6_1.length < 17592186044416
     rotate_left
     · rw [if_neg c44] at H
       exact absurd H (by simp)
     rw [if_pos c44] at H
     have LMc44 := Aside0.mk c44
     clear c44
     obtain ⟨y331, hy331⟩ : ∃ y_ : List Int, y_ = (y328 ++ x6_1) := ⟨_, rfl⟩
     replace H : (maskref4_Dec_Split.l0 k2 y331 (wrap64 (x9_1 - 1)) a0_0 l0_1 a1_0 l1_1 x315000_2 x315001_2 false l1_1) = some (r1, r2, r3, r4) := by first | (rw [hy331]; with_reducible exact H) | (have H2_ := (Option.bind_some _ _).symm.trans H; rw [hy331]; with_reducible exact H2_) | (have H2_ := (Option.bind_some _ _).symm.trans H; with_reducible exact H2_) | with_reducible exact H | (rw [hy331]; exact H) | exact H
     have Ny331 := Aside0.mk hy331
     clear hy331
     have H' := Aside0.mk H
     clear H
     obtain ⟨hcz50_0, hcz50_1, hfz50_0, hfz50_1⟩ := bz2 BK314.out
     obtain ⟨hcz55_0, hcz55_1, hfz55_0, hfz55_1⟩ := bz2 BK315.out
     obtain ⟨Ao56, co56, eo56⟩ := Kd.V_slice HO_315001.out
     subst eo56
     go_wp2_with (first | ((with_reducible refine gate_callee (f := 81) rfl ?_); refine goesL_ (some 38) rfl rfl Try.func81 (by kernel_rfl) rfl #[.slice Ao56 x315001_2.length co56, .slice A1_1 l1_1.length c1_1] rfl (by (try simp only [List.map_toArray, List.map_cons, List.map_nil]); first | done | rfl | (simp only [List.length_drop, List.length_take]; rfl)) ?_; (with_reducible refine (maskref4_less.calls k2 _ _ x315001_2 _ _ l1_1 true _ ?side1 ?side2 ?side3 ?side4 A42.out).mono ?_); (case side1 => exact kc ((Kd.V_reads' HO_315001.out).2.2)); (case side2 => exact (Kd.V_reads' HO_315001.out).2.1); (case side3 => exact kc (Kd.C_below HR1_1.out HB.out)); (case side4 => exact HC1_1.out); rintro e w' ⟨rfl, ⟨nd, rfl⟩⟩; refine ⟨_, rfl, ?_⟩) | ((with_reducible refine gate_dst (N := 46) rfl ?_); (try (refine gate_guard (by rfl) ?_; dsimp only)); refine Kd.R_lit (Kd.int .i64) _ 3 ?hg (N := 46) ?hd (xs := ([x10_2] : List Int)) (inner := [.int .i64 x10_2]) (ok := fun _ => True) (okp := fun _ => True) ?hr ?hp (fun _ hk => hk) trivial (Below.refl _ _) (Nat.le_refl _) (by simp) ?_; (case hd => rfl); (case hg => rfl); (case hr => first | (go_simp; done) | (go_simp; rfl)); (case hp => exact (Reps.one (show Kd.M (Kd.int .i64) _ _ _ x10_2 [.int .i64 x10_2] from rfl) (Reps.none _ _))); intro v329 w57 ho58 hb hg_ hnew_; clear hg_ hnew_; (first | rw [← Ny328.out] at ho58 | (simp only [Int.reduceToNat] at ho58; rw [← Ny328.out] at ho58)); replace HO_315001 := Aside0.mk (Kd.V_elder' (vk HO_315001.out) (Kd.R_base ho58) hb); have HO330 := Aside0.mk (Kd.R_lower (Kd.R_new' (Kd.R_newM (M := fun k_ => (w.heap.size ≤ k_)) ho58 (below_size bl) (fun k_ h_ => h_)) (Kd.R_lt (by (with_reducible repeat (first | apply Kd.R_alloc | apply Kd.R_drewN | apply Kd.R_drew)); exact HO_6.out))) (below_size bl)); replace HO_6 := Aside0.mk (Kd.R_elder' (by (with_reducible repeat (first | apply Kd.R_alloc | apply Kd.R_drewN | apply Kd.R_drew)); exact HO_6.out) (Kd.R_base ho58) hb); replace BK310 := Aside0.mk (bb BK310.out hb); replace BK311 := Aside0.mk (bb BK311.out hb); replace BK312 := Aside0.mk (bb BK312.out hb); replace BK313 := Aside0.mk (bb BK313.out hb); replace BK314 := Aside0.mk (bb BK314.out hb); replace BK315 := Aside0.mk (bb BK315.out hb); replace HB := Aside0.mk (below_step bl hb); clear hb ho58; obtain ⟨Ao60, co60, eo60⟩ := Kd.R_slice HO_6.out; subst eo60) | ((with_reducible refine gate_builtin (b := .append) (xs := #[.tmp 46, .tmp 47]) rfl ?_); (try (refine gate_guard (by rfl) ?_; dsimp only)); at_builtin; refine Kd.R_append_rows (Kd.int .i64) (w0 := w) w.heap.size rfl (.tmp 46) (.tmp 47) 34 3 (.int .i64 0) 8 rfl Try.underlying34 info3 rfl (by decide) (by omega) v329 y328 x6_1 _ _ _ (fun k_ => (w.heap.size ≤ k_) ∧ some k_ ≠ (.slice Ao60 x6_1.length co60 : Value).ownBlock) (fun _ => False) rfl rfl ?aO ?aR (fun _ _ h => h) (fun _ h => h.elim) ?aF ?aB ?aS ?aL ?_; (case aR => exact kc ((Kd.R_reads' HO_6.out).2.2)); (case aB => exact bl); (case aF => exact (fun k_ hk => ⟨(Nat.le_trans (below_size bl) hk), Kd.fresh' (Kd.R_lt (by (with_reducible repeat (first | apply Kd.R_alloc | apply Kd.R_drewN | apply Kd.R_drew)); exact HO_6.out)) k_ hk⟩)); (case aO => exact (by (with_reducible repeat (first | apply Kd.R_alloc | apply Kd.R_drewN | apply Kd.R_drew)); exact Kd.R_mono HO330.out (fun _ hk => ⟨hk.1.1, hk.2⟩))); (case aS => exact (below_size bl)); (case aL => have := LMc44.out; omega); intro v332 w59 ho hb hg hat; rw [← Ny331.out] at ho; replace HO_6 := Aside0.mk (Kd.R_after (ok := (fun k_ => (w.heap.size ≤ k_))) (by (with_reducible repeat (first | apply Kd.R_alloc | apply Kd.R_drewN | apply Kd.R_drew)); exact HO_6.out) hg hat); replace HO_315001 := Aside0.mk (Kd.V_afterv (ok := (fun k_ => (w.heap.size ≤ k_) ∧ some k_ ≠ (.slice Ao60 x6_1.length co60 : Value).ownBlock ∧ k_ ≠ gb310 ∧ k_ ≠ gb311 ∧ k_ ≠ gb312 ∧ k_ ≠ gb313 ∧ k_ ≠ gb314 ∧ k_ ≠ gb315)) (vk HO_315001.out) hg hat); replace BK310 := Aside0.mk (blk_grown (bk BK310.out) hg (Kd.R_ne HO330.out BK310.out (by decide))); replace BK311 := Aside0.mk (blk_grown (bk BK311.out) hg (Kd.R_ne HO330.out BK311.out (by decide))); replace BK312 := Aside0.mk (blk_grown (bk BK312.out) hg (Kd.R_ne HO330.out BK312.out (by decide))); replace BK313 := Aside0.mk (blk_grown (bk BK313.out) hg (Kd.R_ne HO330.out BK313.out (by decide))); replace BK314 := Aside0.mk (blk_grown (bk BK314.out) hg (Kd.R_ne HO330.out BK314.out (by decide))); replace BK315 := Aside0.mk (blk_grown (bk BK315.out) hg (Kd.R_ne HO330.out BK315.out (by decide))); replace HB := Aside0.mk (hb); have HO333 := Aside0.mk (ho); clear HO330; clear ho hb hg hat))
     go_roundg k2
     case measure => have := HK1.out; have := HK2.out; omega
     case rel => exact ⟨(y331), (wrap64 (x9_1 - 1)), (x315000_2), (x315001_2), (.slice Ao56 x315001_2.length co56), (by first | rfl | (simp; done) | (simp [*]; done)), H', ⟨by have := HK1.out; have := HK2.out; omega⟩, ⟨by (with_reducible repeat (first | apply Kd.R_alloc | apply Kd.R_drewN | apply Kd.R_drew)); exact Kd.R_mono HO333.out (fun _ hk => hk.1)⟩, ⟨by (with_reducible repeat (first | apply Kd.V_alloc | apply Kd.V_drewN | apply Kd.V_drew)); exact Kd.V_mono HO_315001.out (fun _ hk => ⟨hk.1.1, ⟨hk.2, ⟨hk.1.2.2.1, ⟨hk.1.2.2.2.1, ⟨hk.1.2.2.2.2.1, ⟨hk.1.2.2.2.2.2.1, ⟨hk.1.2.2.2.2.2.2.1, hk.1.2.2.2.2.2.2.2⟩⟩⟩⟩⟩⟩⟩)⟩, ⟨bk BK310.out⟩, ⟨bk BK311.out⟩, ⟨bk BK312.out⟩, ⟨bk BK313.out⟩, ⟨bk BK314.out⟩, ⟨bk BK315.out⟩, ⟨bl⟩⟩
  rw [if_neg c27] at H
  have c27b0 : decide (0 ≤ x9_1) = false := decide_eq_false c27
  clear c27
  replace H := Option.bind_eq_some_iff.mp H
  obtain ⟨⟨t338, t339⟩, A770, H⟩ := H
  replace H : (if a0_0 = true then (maskref4_Dec_Split.j2 k1 (decide ((x315001_1.length : Int) > 0)) a1_0 l1_1 x315000_1 x315001_1 false l1_1 t338 t339) else (maskref4_Dec_Split.j2 k1 false a1_0 l1_1 x315000_1 x315001_1 false l1_1 t338 t339)) = some (r1, r2, r3, r4) := H
  have A77 := Aside0.mk A770
  clear A770
  have HC78 := Aside0.mk H
  clear H
  obtain ⟨hcz84_0, hcz84_1, hfz84_0, hfz84_1⟩ := bz2 BK310.out
  obtain ⟨hcz89_0, hcz89_1, hfz89_0, hfz89_1⟩ := bz2 BK311.out
  obtain ⟨Ao90, co90, eo90⟩ := Kd.R_slice HO_6.out
  subst eo90
  go_upto_region 14 with (first | ((with_reducible refine gate_callee (f := 66) rfl ?_); refine goesL_ (some 55) rfl rfl Try.func66 (by kernel_rfl) rfl #[.bool (a0_0 != a1_0), .slice Ao90 x6_1.length co90] rfl (by (try simp only [List.map_toArray, List.map_cons, List.map_nil]); first | done | rfl | (simp only [List.length_drop, List.length_take]; rfl)) ?_; (with_reducible refine (maskref4_trim.calls (a0_0 != a1_0) (fun k_ => some k_ = (.slice Ao90 x6_1.length co90 : Value).ownBlock) _ _ x6_1 t338 t339 _ ?side1 A77.out).mono ?_); (case side1 => exact Kd.R_V (Kd.R_tight rfl (Kd.R_types (Kd.R_types (Kd.R_types (Kd.R_types (Kd.R_types (Kd.R_types (HO_6.out) BK310.out (by decide)) BK311.out (by decide)) BK312.out (by decide)) BK313.out (by decide)) BK314.out (by decide)) BK315.out (by decide)))); rintro e w91 ⟨v340, rfl, ho0, hb⟩; refine ⟨_, rfl, ?_⟩; replace HO_315001 := Aside0.mk (vb HO_315001.out hb); have HO341 := Aside0.mk (Kd.V_lower (Kd.V_mono (ok' := fun k_ => (w.heap.size ≤ k_) ∧ k_ ≠ gb310 ∧ k_ ≠ gb311 ∧ k_ ≠ gb312 ∧ k_ ≠ gb313 ∧ k_ ≠ gb314 ∧ k_ ≠ gb315) ho0 (fun k_ hk_ => ⟨Or.elim hk_ (fun hs_ => ((Kd.R_types (Kd.R_types (Kd.R_types (Kd.R_types (Kd.R_types (Kd.R_types (HO_6.out) BK310.out (by decide)) BK311.out (by decide)) BK312.out (by decide)) BK313.out (by decide)) BK314.out (by decide)) BK315.out (by decide)).1 k_ hs_.symm).1.1.1.1.1.1) (fun hn_ => (Nat.le_trans (below_size bl) hn_)), Or.elim hk_ (fun hs_ => ((Kd.R_types (Kd.R_types (Kd.R_types (Kd.R_types (Kd.R_types (Kd.R_types (HO_6.out) BK310.out (by decide)) BK311.out (by decide)) BK312.out (by decide)) BK313.out (by decide)) BK314.out (by decide)) BK315.out (by decide)).1 k_ hs_.symm).1.1.1.1.1.2) (fun hn_ => (Kd.freshB (g := gb310) (o := .cells #[.bool a0_0, .slice A0_1 l0_1.length c0_1] 36 (0, 0)) (bk BK310.out) k_ hn_)), Or.elim hk_ (fun hs_ => ((Kd.R_types (Kd.R_types (Kd.R_types (Kd.R_types (Kd.R_types (Kd.R_types (HO_6.out) BK310.out (by decide)) BK311.out (by decide)) BK312.out (by decide)) BK313.out (by decide)) BK314.out (by decide)) BK315.out (by decide)).1 k_ hs_.symm).1.1.1.1.2) (fun hn_ => (Kd.freshB (g := gb311) (o := .cells #[.bool a1_0, .slice A1_1 l1_1.length c1_1] 36 (0, 0)) (bk BK311.out) k_ hn_)), Or.elim hk_ (fun hs_ => ((Kd.R_types (Kd.R_types (Kd.R_types (Kd.R_types (Kd.R_types (Kd.R_types (HO_6.out) BK310.out (by decide)) BK311.out (by decide)) BK312.out (by decide)) BK313.out (by decide)) BK314.out (by decide)) BK315.out (by decide)).1 k_ hs_.symm).1.1.1.2) (fun hn_ => (Kd.freshB (g := gb312) (o := .cells #[.bool false, .slice none 0 0] 36 (0, 0)) (bk BK312.out) k_ hn_)), Or.elim hk_ (fun hs_ => ((Kd.R_types (Kd.R_types (Kd.R_types (Kd.R_types (Kd.R_types (Kd.R_types (HO_6.out) BK310.out (by decide)) BK311.out (by decide)) BK312.out (by decide)) BK313.out (by decide)) BK314.out (by decide)) BK315.out (by decide)).1 k_ hs_.symm).1.1.2) (fun hn_ => (Kd.freshB (g := gb313) (o := .cells #[.bool false, .slice none 0 0] 36 (0, 0)) (bk BK313.out) k_ hn_)), Or.elim hk_ (fun hs_ => ((Kd.R_types (Kd.R_types (Kd.R_types (Kd.R_types (Kd.R_types (Kd.R_types (HO_6.out) BK310.out (by decide)) BK311.out (by decide)) BK312.out (by decide)) BK313.out (by decide)) BK314.out (by decide)) BK315.out (by decide)).1 k_ hs_.symm).1.2) (fun hn_ => (Kd.freshB (g := gb314) (o := .cells #[.bool x315000_1, u315001] 36 (0, 0)) (bk BK314.out) k_ hn_)), Or.elim hk_ (fun hs_ => ((Kd.R_types (Kd.R_types (Kd.R_types (Kd.R_types (Kd.R_types (Kd.R_types (HO_6.out) BK310.out (by decide)) BK311.out (by decide)) BK312.out (by decide)) BK313.out (by decide)) BK314.out (by decide)) BK315.out (by decide)).1 k_ hs_.symm).2) (fun hn_ => (Kd.freshB (g := gb315) (o := .cells #[.bool false, .slice A1_1 l1_1.length c1_1] 36 (0, 0)) (bk BK315.out) k_ hn_))⟩)) (below_size bl)); replace HO_6 := Aside0.mk (rb HO_6.out hb); replace BK310 := Aside0.mk (bb BK310.out hb); replace BK311 := Aside0.mk (bb BK311.out hb); replace BK312 := Aside0.mk (bb BK312.out hb); replace BK313 := Aside0.mk (bb BK313.out hb); replace BK314 := Aside0.mk (bb BK314.out hb); replace BK315 := Aside0.mk (bb BK315.out hb); replace HB := Aside0.mk (below_step bl hb); (try clear hb); (try clear ho0)) | ((with_reducible refine gate_dst (N := 11) rfl ?_); (try (refine gate_guard (by rfl) ?_; dsimp only)); refine box_event ?hg (N := 11) ?hd (cs := #[.bool false, .slice none 0 0]) (t := 36) ?hr ?_; (case hd => rfl); (case hg => rfl); (case hr => first | (go_simp; done) | (go_simp; rfl)); intro gb342 hg w92 hbox hb; replace HO_6 := Aside0.mk (rb HO_6.out hb); replace HO_315001 := Aside0.mk (Kd.V_below (Kd.V_elderB (vk HO_315001.out) gb342 (Nat.le_of_eq hg.symm)) hb); replace HO341 := Aside0.mk (Kd.V_below (Kd.V_elderB (vk HO341.out) gb342 (Nat.le_of_eq hg.symm)) hb); have BK342 := Aside0.mk (hbox); have GE342 := Aside0.mk (ge (w := w) hg); replace HB := Aside0.mk (below_step bl hb); have NB310_342 := Aside0.mk (nl hg (bk BK310.out)); have NB342_310 := Aside0.mk (ng hg (bk BK310.out)); replace BK310 := Aside0.mk (bb BK310.out hb); have NB311_342 := Aside0.mk (nl hg (bk BK311.out)); have NB342_311 := Aside0.mk (ng hg (bk BK311.out)); replace BK311 := Aside0.mk (bb BK311.out hb); have NB312_342 := Aside0.mk (nl hg (bk BK312.out)); have NB342_312 := Aside0.mk (ng hg (bk BK312.out)); replace BK312 := Aside0.mk (bb BK312.out hb); have NB313_342 := Aside0.mk (nl hg (bk BK313.out)); have NB342_313 := Aside0.mk (ng hg (bk BK313.out)); replace BK313 := Aside0.mk (bb BK313.out hb); have NB314_342 := Aside0.mk (nl hg (bk BK314.out)); have NB342_314 := Aside0.mk (ng hg (bk BK314.out)); replace BK314 := Aside0.mk (bb BK314.out hb); have NB315_342 := Aside0.mk (nl hg (bk BK315.out)); have NB342_315 := Aside0.mk (ng hg (bk BK315.out)); replace BK315 := Aside0.mk (bb BK315.out hb); clear hb hbox hg; obtain ⟨hcz99_0, hcz99_1, hfz99_0, hfz99_1⟩ := bz2 BK342.out; obtain ⟨Ao100, co100, eo100⟩ := Kd.V_slice HO341.out; subst eo100))
  (try simp only [Act.put, z1, z2, z3])
  go_cut [63] (fun v63 wc => ∃ (kq : Nat) (x63_77 : Bool), v63 = .bool x63_77 ∧ Aside0 (maskref4_Dec_Split.j2 kq x63_77 a1_0 l1_1 x315000_1 x315001_1 false l1_1 t338 t339 = some (r1, r2, r3, r4)) ∧ Aside0 (kq ≤ k1) ∧ Aside0 (Kd.V (Kd.int .i64) 3 wc w.heap.size (fun k_ => (w.heap.size ≤ k_) ∧ k_ ≠ gb310 ∧ k_ ≠ gb311 ∧ k_ ≠ gb312 ∧ k_ ≠ gb313 ∧ k_ ≠ gb314 ∧ k_ ≠ gb315 ∧ k_ ≠ gb342) u315001 x315001_1) ∧ Aside0 (Kd.V (Kd.int .i64) 3 wc w.heap.size (fun k_ => (w.heap.size ≤ k_) ∧ k_ ≠ gb310 ∧ k_ ≠ gb311 ∧ k_ ≠ gb312 ∧ k_ ≠ gb313 ∧ k_ ≠ gb314 ∧ k_ ≠ gb315 ∧ k_ ≠ gb342) (.slice Ao100 t339.length co100) t339) ∧ Aside0 (wc.heap[gb310]? = some (.cells #[.bool a0_0, (.slice A0_1 l0_1.length c0_1)] 36 (0, 0))) ∧ Aside0 (wc.heap[gb311]? = some (.cells #[.bool a1_0, (.slice A1_1 l1_1.length c1_1)] 36 (0, 0))) ∧ Aside0 (wc.heap[gb312]? = some (.cells #[.bool false, (.slice none 0 0)] 36 (0, 0))) ∧ Aside0 (wc.heap[gb313]? = some (.cells #[.bool false, (.slice none 0 0)] 36 (0, 0))) ∧ Aside0 (wc.heap[gb314]? = some (.cells #[.bool x315000_1, u315001] 36 (0, 0))) ∧ Aside0 (wc.heap[gb315]? = some (.cells #[.bool false, (.slice A1_1 l1_1.length c1_1)] 36 (0, 0))) ∧ Aside0 (wc.heap[gb342]? = some (.cells #[.bool t338, (.slice Ao100 t339.length co100)] 36 (0, 0))) ∧ Aside0 (Below w.heap.size w wc))
  case first =>
   have H := HC78.out
   clear HC78
   by_cases c101 : a0_0 = true
   rotate_left
   · replace c101 := Bool.eq_false_iff.mpr c101
     subst c101
     have H1 : (maskref4_Dec_Split.j2 k1 false a1_0 l1_1 x315000_1 x315001_1 false l1_1 t338 t339) = some (r1, r2, r3, r4) := by rw [if_neg (show ¬ (false = true) by decide)] at H; exact H
     clear H
     have H := H1
     clear H1
     have H' := Aside0.mk H
     clear H
     have hnc121 := NB342_310.out
     obtain ⟨hcz122_0, hcz122_1, hfz122_0, hfz122_1⟩ := bz2 BK310.out
     go_wp2
     go_meet
     case rel => exact ⟨_, (false), (by first | rfl | (simp; done) | (simp [*]; done)), H', ⟨by have := HK1.out; first | omega | exact Nat.le_refl _⟩, ⟨by (with_reducible repeat (first | apply Kd.V_alloc | apply Kd.V_drewN | apply Kd.V_drew)); exact Kd.V_mono (Kd.V_far (p := ⟨gb342, 1, none⟩) (Kd.V_far (p := ⟨gb342, 0, none⟩) (Kd.V_mono HO_315001.out (fun k_ hk => (⟨hk, hk.2⟩ : _ ∧ k_ ≠ gb342))) (fun _ hk => hk.2) (.bool t338)) (fun _ hk => hk.2) (.slice Ao100 t339.length co100)) (fun _ hk => ⟨hk.1.1.1, ⟨hk.1.1.2.2.1, ⟨hk.1.1.2.2.2.1, ⟨hk.1.1.2.2.2.2.1, ⟨hk.1.1.2.2.2.2.2.1, ⟨hk.1.1.2.2.2.2.2.2.1, ⟨hk.1.1.2.2.2.2.2.2.2, hk.1.2⟩⟩⟩⟩⟩⟩⟩)⟩, ⟨by (with_reducible repeat (first | apply Kd.V_alloc | apply Kd.V_drewN | apply Kd.V_drew)); exact Kd.V_mono (Kd.V_far (p := ⟨gb342, 1, none⟩) (Kd.V_far (p := ⟨gb342, 0, none⟩) (Kd.V_mono HO341.out (fun k_ hk => (⟨hk, hk.2⟩ : _ ∧ k_ ≠ gb342))) (fun _ hk => hk.2) (.bool t338)) (fun _ hk => hk.2) (.slice Ao100 t339.length co100)) (fun _ hk => ⟨hk.1.1.1, ⟨hk.1.1.2.1, ⟨hk.1.1.2.2.1, ⟨hk.1.1.2.2.2.1, ⟨hk.1.1.2.2.2.2.1, ⟨hk.1.1.2.2.2.2.2.1, ⟨hk.1.1.2.2.2.2.2.2, hk.1.2⟩⟩⟩⟩⟩⟩⟩)⟩, ⟨bf BK310.out⟩, ⟨bf BK311.out⟩, ⟨bf BK312.out⟩, ⟨bf BK313.out⟩, ⟨bf BK314.out⟩, ⟨bf BK315.out⟩, ⟨by (with_reducible repeat (first | refine blk_drewN ?_ _ | refine blk_drew ?_ | refine blk_alloc ?_ _)); refine blk_put (cs := #[.bool t338, .slice none 0 0]) ?_ 1 _ rfl; (with_reducible repeat (first | refine blk_drewN ?_ _ | refine blk_drew ?_ | refine blk_alloc ?_ _)); refine blk_put (cs := #[.bool false, .slice none 0 0]) ?_ 0 _ rfl; (with_reducible repeat (first | refine blk_drewN ?_ _ | refine blk_drew ?_ | refine blk_alloc ?_ _)); exact BK342.out⟩, ⟨bl⟩⟩
   subst c101
   have H1 : (maskref4_Dec_Split.j2 k1 (decide ((x315001_1.length : Int) > 0)) a1_0 l1_1 x315000_1 x315001_1 false l1_1 t338 t339) = some (r1, r2, r3, r4) := by rw [if_pos rfl] at H; exact H
   clear H
   have H := H1
   clear H1
   have H' := Aside0.mk H
   clear H
   have hnc107 := NB342_310.out
   obtain ⟨hcz108_0, hcz108_1, hfz108_0, hfz108_1⟩ := bz2 BK310.out
   have hnb109 := NB314_311.out
   have hnc109 := NB311_314.out
   have hnb110 := NB314_312.out
   have hnc110 := NB312_314.out
   have hnb111 := NB314_313.out
   have hnc111 := NB313_314.out
   have hnb112 := NB314_315.out
   have hnc112 := NB315_314.out
   have hnb113 := NB314_342.out
   have hnc113 := NB342_314.out
   obtain ⟨hcz114_0, hcz114_1, hfz114_0, hfz114_1⟩ := bz2 BK314.out
   obtain ⟨Ao115, co115, eo115⟩ := Kd.V_slice HO_315001.out
   subst eo115
   go_wp2
   go_meet
   case rel => exact ⟨_, (decide ((x315001_1.length : Int) > 0)), (by first | rfl | (simp; done) | (simp [*]; done)), H', ⟨by have := HK1.out; first | omega | exact Nat.le_refl _⟩, ⟨by (with_reducible repeat (first | apply Kd.V_alloc | apply Kd.V_drewN | apply Kd.V_drew)); exact Kd.V_mono (Kd.V_far (p := ⟨gb342, 1, none⟩) (Kd.V_far (p := ⟨gb342, 0, none⟩) (Kd.V_mono HO_315001.out (fun k_ hk => (⟨hk, hk.2⟩ : _ ∧ k_ ≠ gb342))) (fun _ hk => hk.2) (.bool t338)) (fun _ hk => hk.2) (.slice Ao100 t339.length co100)) (fun _ hk => ⟨hk.1.1.1, ⟨hk.1.1.2.2.1, ⟨hk.1.1.2.2.2.1, ⟨hk.1.1.2.2.2.2.1, ⟨hk.1.1.2.2.2.2.2.1, ⟨hk.1.1.2.2.2.2.2.2.1, ⟨hk.1.1.2.2.2.2.2.2.2, hk.1.2⟩⟩⟩⟩⟩⟩⟩)⟩, ⟨by (with_reducible repeat (first | apply Kd.V_alloc | apply Kd.V_drewN | apply Kd.V_drew)); exact Kd.V_mono (Kd.V_far (p := ⟨gb342, 1, none⟩) (Kd.V_far (p := ⟨gb342, 0, none⟩) (Kd.V_mono HO341.out (fun k_ hk => (⟨hk, hk.2⟩ : _ ∧ k_ ≠ gb342))) (fun _ hk => hk.2) (.bool t338)) (fun _ hk => hk.2) (.slice Ao100 t339.length co100)) (fun _ hk => ⟨hk.1.1.1, ⟨hk.1.1.2.1, ⟨hk.1.1.2.2.1, ⟨hk.1.1.2.2.2.1, ⟨hk.1.1.2.2.2.2.1, ⟨hk.1.1.2.2.2.2.2.1, ⟨hk.1.1.2.2.2.2.2.2, hk.1.2⟩⟩⟩⟩⟩⟩⟩)⟩, ⟨bf BK310.out⟩, ⟨bf BK311.out⟩, ⟨bf BK312.out⟩, ⟨bf BK313.out⟩, ⟨bf BK314.out⟩, ⟨bf BK315.out⟩, ⟨by (with_reducible repeat (first | refine blk_drewN ?_ _ | refine blk_drew ?_ | refine blk_alloc ?_ _)); refine blk_put (cs := #[.bool t338, .slice none 0 0]) ?_ 1 _ rfl; (with_reducible repeat (first | refine blk_drewN ?_ _ | refine blk_drew ?_ | refine blk_alloc ?_ _)); refine blk_put (cs := #[.bool false, .slice none 0 0]) ?_ 0 _ rfl; (with_reducible repeat (first | refine blk_drewN ?_ _ | refine blk_drew ?_ | refine blk_alloc ?_ _)); exact BK342.out⟩, ⟨bl⟩⟩
  clear HC78
  clear c27b0 hcz84_0 hcz84_1 hcz89_0 hcz89_1 hcz99_0 hcz99_1 hfz84_0 hfz84_1 hfz89_0 hfz89_1 hfz99_0 hfz99_1
  obtain ⟨kq, x63_77, rfl, HA, HJ77, HO_315001, HO_343001, BK310, BK311, BK312, BK313, BK314, BK315, BK342, HB⟩ := hcut
  cases kq with
  | zero => exact absurd HA.out (by simp [maskref4_Dec_Split.j2])
  | succ kj77 =>
   have H := HA.out
   clear HA
   simp only [maskref4_Dec_Split.j2] at H
   by_cases c123 : x63_77 = true
   rotate_left
   · replace c123 := Bool.eq_false_iff.mpr c123
     subst c123
     have H1 : (some (t338, t339, x315000_1, x315001_1)) = some (r1, r2, r3, r4) := by rw [if_neg (show ¬ (false = true) by decide)] at H; exact H
     clear H
     have H := H1
     clear H1
     simp only [Option.some.injEq, Prod.mk.injEq] at H
     obtain ⟨rfl, rfl, rfl, rfl⟩ := H
     try go_wp2
     replace HO_315001 := Aside0.mk (Kd.V_drew HO_315001.out); replace HO_343001 := Aside0.mk (Kd.V_drew HO_343001.out); replace BK310 := Aside0.mk (blk_drew BK310.out); replace BK311 := Aside0.mk (blk_drew BK311.out); replace BK312 := Aside0.mk (blk_drew BK312.out); replace BK313 := Aside0.mk (blk_drew BK313.out); replace BK314 := Aside0.mk (blk_drew BK314.out); replace BK315 := Aside0.mk (blk_drew BK315.out); replace BK342 := Aside0.mk (blk_drew BK342.out); replace HB := Aside0.mk (below_drew1 HB.out)
     obtain ⟨Ao206, co206, eo206⟩ := Kd.V_slice HO_315001.out
     (first | subst eo206 | (injection eo206 with f1_ f2_ f3_; have f4_ := f1_.symm; have f5_ := f3_.symm; clear f1_ f2_ f3_; subst f4_; subst f5_))
     refine start_ (n := 4) (S := fun w' => w'.cell? ⟨gb342, 0, none⟩ = some (.bool t338) ∧ w'.cell? ⟨gb342, 1, none⟩ = some (.slice Ao100 t339.length co100) ∧ w'.cell? ⟨gb314, 0, none⟩ = some (.bool x315000_1) ∧ w'.cell? ⟨gb314, 1, none⟩ = some (.slice Ao206 x315001_1.length co206)) (ds := []) #[false,false,false,false] (by kernel_rfl) rfl rfl ⟨(blk_cell BK342.out 0).trans rfl, (blk_cell BK342.out 1).trans rfl, (blk_cell BK314.out 0).trans rfl, (blk_cell BK314.out 1).trans rfl⟩ (fun hHeld => ?_)
     generalize wc.drew = w202 at HO_315001 HO_343001 BK310 BK311 BK312 BK313 BK314 BK315 BK342 HB hHeld ⊢
     refine take_ (i := 0) (N := some 75) (v := ?_) (a' := ?_) #[true,false,false,false] rfl rfl (by kernel_rfl) (fun _ _ _ h => h) (Or.inl ⟨by rfl, ?_⟩) hHeld ?_ ?_
     rotate_left
     · rintro w' ⟨s0, s1, s2, s3⟩
       go_simp
       with_reducible rfl
     rotate_left; focus (simp only [Act.put, z1, z2, z3, i64_w, i32_w]; rfl)
     refine take_ (i := 1) (N := some 76) (v := ?_) (a' := ?_) #[true,true,false,false] rfl rfl (by kernel_rfl) (fun _ _ _ h => h) (Or.inl ⟨by rfl, ?_⟩) hHeld ?_ ?_
     rotate_left
     · rintro w' ⟨s0, s1, s2, s3⟩
       go_simp
       with_reducible rfl
     rotate_left; focus (simp only [Act.put, z1, z2, z3, i64_w, i32_w]; rfl)
     refine one_ (i := 2) (N := none) #[true,true,true,false] rfl rfl (by kernel_rfl) (by decide) (fun K hK => ?_)
     have hs203 : w202.cell? ⟨gb312, 0, none⟩ = some (.bool false) := (blk_cell BK312.out 0).trans rfl
     have hfs203 := blk_frozen BK312.out 0
     have hs204 : w202.cell? ⟨gb312, 1, none⟩ = some (.slice none 0 0) := (blk_cell BK312.out 1).trans rfl
     have hfs204 := blk_frozen BK312.out 1
     refine skip_ (w1 := ?_) (by rfl) rfl ?_ ?_
     rotate_left; focus (go_simp; rfl)
     refine hK.out _ _ ⟨((cell_far (p := ⟨gb312, _, none⟩) NB342_312.out _).trans (((cell_far (p := ⟨gb312, _, none⟩) NB342_312.out _).trans (hHeld.1)))), ((cell_far (p := ⟨gb312, _, none⟩) NB342_312.out _).trans (((cell_far (p := ⟨gb312, _, none⟩) NB342_312.out _).trans (hHeld.2.1)))), ((cell_far (p := ⟨gb312, _, none⟩) NB314_312.out _).trans (((cell_far (p := ⟨gb312, _, none⟩) NB314_312.out _).trans (hHeld.2.2.1)))), ((cell_far (p := ⟨gb312, _, none⟩) NB314_312.out _).trans (((cell_far (p := ⟨gb312, _, none⟩) NB314_312.out _).trans (hHeld.2.2.2))))⟩ (fun hHeld => ?_)
     clear hK K
     refine one_ (i := 3) (N := none) #[true,true,true,true] rfl rfl (by kernel_rfl) (by decide) (fun K hK => ?_)
     have hs205 : w202.cell? ⟨gb313, 0, none⟩ = some (.bool false) := (blk_cell BK313.out 0).trans rfl
     have hfs205 := blk_frozen BK313.out 0
     have hs207 : w202.cell? ⟨gb313, 1, none⟩ = some (.slice none 0 0) := (blk_cell BK313.out 1).trans rfl
     have hfs207 := blk_frozen BK313.out 1
     have hms207_2 := NB313_312.out
     have hms207_4 := NB313_314.out
     have hms207_5 := NB313_315.out
     have hms207_6 := NB313_342.out
     refine skip_ (w1 := ?_) (by rfl) rfl ?_ ?_
     rotate_left; focus (go_simp; rfl)
     refine hK.out _ _ ⟨((cell_far (p := ⟨gb313, _, none⟩) NB342_313.out _).trans (((cell_far (p := ⟨gb313, _, none⟩) NB342_313.out _).trans (hHeld.1)))), ((cell_far (p := ⟨gb313, _, none⟩) NB342_313.out _).trans (((cell_far (p := ⟨gb313, _, none⟩) NB342_313.out _).trans (hHeld.2.1)))), ((cell_far (p := ⟨gb313, _, none⟩) NB314_313.out _).trans (((cell_far (p := ⟨gb313, _, none⟩) NB314_313.out _).trans (hHeld.2.2.1)))), ((cell_far (p := ⟨gb313, _, none⟩) NB314_313.out _).trans (((cell_far (p := ⟨gb313, _, none⟩) NB314_313.out _).trans (hHeld.2.2.2))))⟩ (fun hHeld => ?_)
     clear hK K
     refine done_ (by kernel_rfl) ?_
     try go_wp2
     refine bodyPost_ret (results_cc rfl _ _ gb312 gb313 36 36 #[.bool t338, .slice Ao100 t339.length co100] #[.bool x315000_1, .slice Ao206 x315001_1.length co206] (0, 0) (0, 0) _ _ rfl (by (with_reducible repeat (first | refine blk_drewN ?_ _ | refine blk_drew ?_ | refine blk_alloc ?_ _)); refine blk_far ?_ NB312_313.out _; (with_reducible repeat (first | refine blk_drewN ?_ _ | refine blk_drew ?_ | refine blk_alloc ?_ _)); refine blk_far ?_ NB312_313.out _; (with_reducible repeat (first | refine blk_drewN ?_ _ | refine blk_drew ?_ | refine blk_alloc ?_ _)); refine blk_put (cs := #[.bool t338, .slice none 0 0]) ?_ 1 _ rfl; (with_reducible repeat (first | refine blk_drewN ?_ _ | refine blk_drew ?_ | refine blk_alloc ?_ _)); refine blk_put (cs := #[.bool false, .slice none 0 0]) ?_ 0 _ rfl; (with_reducible repeat (first | refine blk_drewN ?_ _ | refine blk_drew ?_ | refine blk_alloc ?_ _)); exact BK312.out) Try.underlying36 rfl (by kernel_rfl) rfl (by (with_reducible repeat (first | refine blk_drewN ?_ _ | refine blk_drew ?_ | refine blk_alloc ?_ _)); refine blk_put (cs := #[.bool x315000_1, .slice none 0 0]) ?_ 1 _ rfl; (with_reducible repeat (first | refine blk_drewN ?_ _ | refine blk_drew ?_ | refine blk_alloc ?_ _)); refine blk_put (cs := #[.bool false, .slice none 0 0]) ?_ 0 _ rfl; (with_reducible repeat (first | refine blk_drewN ?_ _ | refine blk_drew ?_ | refine blk_alloc ?_ _)); refine blk_far ?_ NB313_312.out _; (with_reducible repeat (first | refine blk_drewN ?_ _ | refine blk_drew ?_ | refine blk_alloc ?_ _)); refine blk_far ?_ NB313_312.out _; (with_reducible repeat (first | refine blk_drewN ?_ _ | refine blk_drew ?_ | refine blk_alloc ?_ _)); exact BK313.out) Try.underlying36 rfl (by kernel_rfl)) rfl ?_
     exact ⟨_, _, by first | rfl | (simp [errW_none, errW_some] <;> rfl) | (simp [*, errW_none, errW_some] <;> rfl), by (with_reducible repeat (first | apply Kd.V_alloc | apply Kd.V_drewN | apply Kd.V_drew)); exact Kd.V_mono (Kd.V_far (p := ⟨gb313, 1, none⟩) (Kd.V_far (p := ⟨gb313, 0, none⟩) (Kd.V_far (p := ⟨gb312, 1, none⟩) (Kd.V_far (p := ⟨gb312, 0, none⟩) (Kd.V_mono (Kd.V_mono HO_343001.out (fun k_ hk => (⟨hk, hk.2.2.2.1⟩ : _ ∧ k_ ≠ gb312))) (fun k_ hk => (⟨hk, hk.1.2.2.2.2.1⟩ : _ ∧ k_ ≠ gb313))) (fun _ hk => hk.1.2) (.bool t338)) (fun _ hk => hk.1.2) (.slice Ao100 t339.length co100)) (fun _ hk => hk.2) (.bool x315000_1)) (fun _ hk => hk.2) (.slice Ao206 x315001_1.length co206)) (fun _ hk => hk.1.1.1), by (with_reducible repeat (first | apply Kd.V_alloc | apply Kd.V_drewN | apply Kd.V_drew)); exact Kd.V_mono (Kd.V_far (p := ⟨gb313, 1, none⟩) (Kd.V_far (p := ⟨gb313, 0, none⟩) (Kd.V_far (p := ⟨gb312, 1, none⟩) (Kd.V_far (p := ⟨gb312, 0, none⟩) (Kd.V_mono (Kd.V_mono HO_315001.out (fun k_ hk => (⟨hk, hk.2.2.2.1⟩ : _ ∧ k_ ≠ gb312))) (fun k_ hk => (⟨hk, hk.1.2.2.2.2.1⟩ : _ ∧ k_ ≠ gb313))) (fun _ hk => hk.1.2) (.bool t338)) (fun _ hk => hk.1.2) (.slice Ao100 t339.length co100)) (fun _ hk => hk.2) (.bool x315000_1)) (fun _ hk => hk.2) (.slice Ao206 x315001_1.length co206)) (fun _ hk => hk.1.1.1), bl⟩
   subst c123
   have H1 : ((maskref4_Dec_Minus.f kj77 false l1_1 x315000_1 x315001_1).bind fun bt343 => (if a1_0 = true then ((maskref4_DecInt.f kj77 1).bind fun bt347 => ((maskref4_Dec_Plus.f kj77 t338 t339 bt347.1 bt347.2).bind fun bt351 => (some (bt351.1, bt351.2, bt343.1, bt343.2)))) else ((maskref4_DecInt.f kj77 1).bind fun bt355 => ((maskref4_Dec_Minus.f kj77 t338 t339 bt355.1 bt355.2).bind fun bt359 => (some (bt359.1, bt359.2, bt343.1, bt343.2)))))) = some (r1, r2, r3, r4) := by rw [if_pos rfl] at H; exact H
   clear H
   have H := H1
   clear H1
   replace H := Option.bind_eq_some_iff.mp H
   obtain ⟨⟨t343, t344⟩, A1240, H⟩ := H
   replace H : (if a1_0 = true then ((maskref4_DecInt.f kj77 1).bind fun bt347 => ((maskref4_Dec_Plus.f kj77 t338 t339 bt347.1 bt347.2).bind fun bt351 => (some (bt351.1, bt351.2, t343, t344)))) else ((maskref4_DecInt.f kj77 1).bind fun bt355 => ((maskref4_Dec_Minus.f kj77 t338 t339 bt355.1 bt355.2).bind fun bt359 => (some (bt359.1, bt359.2, t343, t344))))) = some (r1, r2, r3, r4) := H
   have A124 := Aside0.mk A1240
   clear A1240
   by_cases c125 : a1_0 = true
   · subst c125
     have H1 : ((maskref4_DecInt.f kj77 1).bind fun bt347 => ((maskref4_Dec_Plus.f kj77 t338 t339 bt347.1 bt347.2).bind fun bt351 => (some (bt351.1, bt351.2, t343, t344)))) = some (r1, r2, r3, r4) := by rw [if_pos rfl] at H; exact H
     clear H
     have H := H1
     clear H1
     replace H := Option.bind_eq_some_iff.mp H
     obtain ⟨⟨t347, t348⟩, A1260, H⟩ := H
     replace H : ((maskref4_Dec_Plus.f kj77 t338 t339 t347 t348).bind fun bt351 => (some (bt351.1, bt351.2, t343, t344))) = some (r1, r2, r3, r4) := H
     have A126 := Aside0.mk A1260
     clear A1260
     replace H := Option.bind_eq_some_iff.mp H
     obtain ⟨⟨t351, t352⟩, A1270, H⟩ := H
     replace H : (some (t351, t352, t343, t344)) = some (r1, r2, r3, r4) := H
     have A127 := Aside0.mk A1270
     clear A1270
     simp only [Option.some.injEq, Prod.mk.injEq] at H
     obtain ⟨rfl, rfl, rfl, rfl⟩ := H
     obtain ⟨hcz134_0, hcz134_1, hfz134_0, hfz134_1⟩ := bz2 BK315.out
     have hnc136 := NB311_314.out
     have hnb137 := NB314_312.out
     have hnc137 := NB312_314.out
     have hnb138 := NB314_313.out
     have hnc138 := NB313_314.out
     have hnb139 := NB314_342.out
     have hnc139 := NB342_314.out
     obtain ⟨hcz140_0, hcz140_1, hfz140_0, hfz140_1⟩ := bz2 BK314.out
     obtain ⟨Ao141, co141, eo141⟩ := Kd.V_slice HO_315001.out
     subst eo141
     try go_wp2_with ((with_reducible refine gate_callee (f := 47) rfl ?_); refine goesL_ (some 66) rfl rfl Try.func47 (by kernel_rfl) rfl #[.agg #[.bool false, .slice A1_1 l1_1.length c1_1], .agg #[.bool x315000_1, .slice Ao141 x315001_1.length co141]] rfl (by (try simp only [List.map_toArray, List.map_cons, List.map_nil]); first | done | rfl | (simp only [List.length_drop, List.length_take]; rfl)) ?_; (with_reducible refine (maskref4_Dec_Minus.calls kj77 false _ _ l1_1 x315000_1 _ _ x315001_1 t343 t344 _ ?side1 ?side2 ?side3 ?side4 A124.out).mono ?_); (case side1 => exact kc (Kd.C_below HR1_1.out HB.out)); (case side2 => exact HC1_1.out); (case side3 => exact kc ((Kd.V_reads' HO_315001.out).2.2)); (case side4 => exact (Kd.V_reads' HO_315001.out).2.1); rintro e w142 ⟨v345, rfl, ho0, hb⟩; refine ⟨_, rfl, ?_⟩; replace HO_315001 := Aside0.mk (vb HO_315001.out hb); replace HO_343001 := Aside0.mk (vb HO_343001.out hb); have HO346 := Aside0.mk (Kd.V_lower (Kd.V_mono (ok' := fun k_ => (w.heap.size ≤ k_) ∧ k_ ≠ gb310 ∧ k_ ≠ gb311 ∧ k_ ≠ gb312 ∧ k_ ≠ gb313 ∧ k_ ≠ gb314 ∧ k_ ≠ gb315 ∧ k_ ≠ gb342) ho0 (fun k_ hk_ => ⟨(Nat.le_trans (below_size bl) hk_), (Kd.freshB (g := gb310) (o := .cells #[.bool a0_0, .slice A0_1 l0_1.length c0_1] 36 (0, 0)) (bk BK310.out) k_ hk_), (Kd.freshB (g := gb311) (o := .cells #[.bool true, .slice A1_1 l1_1.length c1_1] 36 (0, 0)) (bk BK311.out) k_ hk_), (Kd.freshB (g := gb312) (o := .cells #[.bool false, .slice none 0 0] 36 (0, 0)) (bk BK312.out) k_ hk_), (Kd.freshB (g := gb313) (o := .cells #[.bool false, .slice none 0 0] 36 (0, 0)) (bk BK313.out) k_ hk_), (Kd.freshB (g := gb314) (o := .cells #[.bool x315000_1, .slice Ao141 x315001_1.length co141] 36 (0, 0)) (bk BK314.out) k_ hk_), (Kd.freshB (g := gb315) (o := .cells #[.bool false, .slice A1_1 l1_1.length c1_1] 36 (0, 0)) (bk BK315.out) k_ hk_), (Kd.freshB (g := gb342) (o := .cells #[.bool t338, .slice Ao100 t339.length co100] 36 (0, 0)) (bk BK342.out) k_ hk_)⟩)) (below_size bl)); replace BK310 := Aside0.mk (bb BK310.out hb); replace BK311 := Aside0.mk (bb BK311.out hb); replace BK312 := Aside0.mk (bb BK312.out hb); replace BK313 := Aside0.mk (bb BK313.out hb); replace BK314 := Aside0.mk (bb BK314.out hb); replace BK315 := Aside0.mk (bb BK315.out hb); replace BK342 := Aside0.mk (bb BK342.out hb); replace HB := Aside0.mk (below_step bl hb); (try clear hb); (try clear ho0); obtain ⟨hcz143_0, hcz143_1, hfz143_0, hfz143_1⟩ := bz2 BK314.out; obtain ⟨Ao144, co144, eo144⟩ := Kd.V_slice HO346.out; subst eo144; have hnb145 := NB311_310.out; have hnc145 := NB310_311.out; have hnb146 := NB311_312.out; have hnc146 := NB312_311.out; have hnb147 := NB311_313.out; have hnc147 := NB313_311.out; have hnb148 := NB311_342.out; have hnc148 := NB342_311.out; obtain ⟨hcz149_0, hcz149_1, hfz149_0, hfz149_1⟩ := bz2 BK311.out)
     have n0_ : Aside0 (Kd.V (Kd.int .i64) 3 ((w142.setCell ⟨gb314, 0, none⟩ (.bool t343)).setCell ⟨gb314, 1, none⟩ (.slice Ao144 t344.length co144)) w.heap.size (fun k_ => (w.heap.size ≤ k_) ∧ k_ ≠ gb310 ∧ k_ ≠ gb311 ∧ k_ ≠ gb312 ∧ k_ ≠ gb313 ∧ k_ ≠ gb314 ∧ k_ ≠ gb315 ∧ k_ ≠ gb342) (.slice Ao141 x315001_1.length co141) x315001_1) := ⟨by (with_reducible repeat (first | apply Kd.V_alloc | apply Kd.V_drewN | apply Kd.V_drew)); exact Kd.V_mono (Kd.V_far (p := ⟨gb314, 1, none⟩) (Kd.V_far (p := ⟨gb314, 0, none⟩) (Kd.V_mono HO_315001.out (fun k_ hk => (⟨hk, hk.2.2.2.2.2.1⟩ : _ ∧ k_ ≠ gb314))) (fun _ hk => hk.2) (.bool t343)) (fun _ hk => hk.2) (.slice Ao144 t344.length co144)) (fun _ hk => ⟨hk.1.1, ⟨hk.1.2.1, ⟨hk.1.2.2.1, ⟨hk.1.2.2.2.1, ⟨hk.1.2.2.2.2.1, ⟨hk.1.2.2.2.2.2.1, ⟨hk.1.2.2.2.2.2.2.1, hk.1.2.2.2.2.2.2.2⟩⟩⟩⟩⟩⟩⟩)⟩
     have n1_ : Aside0 (Kd.V (Kd.int .i64) 3 ((w142.setCell ⟨gb314, 0, none⟩ (.bool t343)).setCell ⟨gb314, 1, none⟩ (.slice Ao144 t344.length co144)) w.heap.size (fun k_ => (w.heap.size ≤ k_) ∧ k_ ≠ gb310 ∧ k_ ≠ gb311 ∧ k_ ≠ gb312 ∧ k_ ≠ gb313 ∧ k_ ≠ gb314 ∧ k_ ≠ gb315 ∧ k_ ≠ gb342) (.slice Ao100 t339.length co100) t339) := ⟨by (with_reducible repeat (first | apply Kd.V_alloc | apply Kd.V_drewN | apply Kd.V_drew)); exact Kd.V_mono (Kd.V_far (p := ⟨gb314, 1, none⟩) (Kd.V_far (p := ⟨gb314, 0, none⟩) (Kd.V_mono HO_343001.out (fun k_ hk => (⟨hk, hk.2.2.2.2.2.1⟩ : _ ∧ k_ ≠ gb314))) (fun _ hk => hk.2) (.bool t343)) (fun _ hk => hk.2) (.slice Ao144 t344.length co144)) (fun _ hk => ⟨hk.1.1, ⟨hk.1.2.1, ⟨hk.1.2.2.1, ⟨hk.1.2.2.2.1, ⟨hk.1.2.2.2.2.1, ⟨hk.1.2.2.2.2.2.1, ⟨hk.1.2.2.2.2.2.2.1, hk.1.2.2.2.2.2.2.2⟩⟩⟩⟩⟩⟩⟩)⟩
     have n2_ : Aside0 (Kd.V (Kd.int .i64) 3 ((w142.setCell ⟨gb314, 0, none⟩ (.bool t343)).setCell ⟨gb314, 1, none⟩ (.slice Ao144 t344.length co144)) w.heap.size (fun k_ => (w.heap.size ≤ k_) ∧ k_ ≠ gb310 ∧ k_ ≠ gb311 ∧ k_ ≠ gb312 ∧ k_ ≠ gb313 ∧ k_ ≠ gb314 ∧ k_ ≠ gb315 ∧ k_ ≠ gb342) (.slice Ao144 t344.length co144) t344) := ⟨by (with_reducible repeat (first | apply Kd.V_alloc | apply Kd.V_drewN | apply Kd.V_drew)); exact Kd.V_mono (Kd.V_far (p := ⟨gb314, 1, none⟩) (Kd.V_far (p := ⟨gb314, 0, none⟩) (Kd.V_mono HO346.out (fun k_ hk => (⟨hk, hk.2.2.2.2.2.1⟩ : _ ∧ k_ ≠ gb314))) (fun _ hk => hk.2) (.bool t343)) (fun _ hk => hk.2) (.slice Ao144 t344.length co144)) (fun _ hk => ⟨hk.1.1, ⟨hk.1.2.1, ⟨hk.1.2.2.1, ⟨hk.1.2.2.2.1, ⟨hk.1.2.2.2.2.1, ⟨hk.1.2.2.2.2.2.1, ⟨hk.1.2.2.2.2.2.2.1, hk.1.2.2.2.2.2.2.2⟩⟩⟩⟩⟩⟩⟩)⟩
     have n3_ : Aside0 (((w142.setCell ⟨gb314, 0, none⟩ (.bool t343)).setCell ⟨gb314, 1, none⟩ (.slice Ao144 t344.length co144)).heap[gb310]? = some (.cells #[.bool a0_0, .slice A0_1 l0_1.length c0_1] 36 (0, 0))) := ⟨bf BK310.out⟩
     have n4_ : Aside0 (((w142.setCell ⟨gb314, 0, none⟩ (.bool t343)).setCell ⟨gb314, 1, none⟩ (.slice Ao144 t344.length co144)).heap[gb311]? = some (.cells #[.bool true, .slice A1_1 l1_1.length c1_1] 36 (0, 0))) := ⟨bf BK311.out⟩
     have n5_ : Aside0 (((w142.setCell ⟨gb314, 0, none⟩ (.bool t343)).setCell ⟨gb314, 1, none⟩ (.slice Ao144 t344.length co144)).heap[gb312]? = some (.cells #[.bool false, .slice none 0 0] 36 (0, 0))) := ⟨bf BK312.out⟩
     have n6_ : Aside0 (((w142.setCell ⟨gb314, 0, none⟩ (.bool t343)).setCell ⟨gb314, 1, none⟩ (.slice Ao144 t344.length co144)).heap[gb313]? = some (.cells #[.bool false, .slice none 0 0] 36 (0, 0))) := ⟨bf BK313.out⟩
     have n7_ : Aside0 (((w142.setCell ⟨gb314, 0, none⟩ (.bool t343)).setCell ⟨gb314, 1, none⟩ (.slice Ao144 t344.length co144)).heap[gb314]? = some (.cells #[.bool t343, .slice Ao144 t344.length co144] 36 (0, 0))) := ⟨by (with_reducible repeat (first | refine blk_drewN ?_ _ | refine blk_drew ?_ | refine blk_alloc ?_ _)); refine blk_put (cs := #[.bool t343, .slice Ao141 x315001_1.length co141]) ?_ 1 _ rfl; (with_reducible repeat (first | refine blk_drewN ?_ _ | refine blk_drew ?_ | refine blk_alloc ?_ _)); refine blk_put (cs := #[.bool x315000_1, .slice Ao141 x315001_1.length co141]) ?_ 0 _ rfl; (with_reducible repeat (first | refine blk_drewN ?_ _ | refine blk_drew ?_ | refine blk_alloc ?_ _)); exact BK314.out⟩
     have n8_ : Aside0 (((w142.setCell ⟨gb314, 0, none⟩ (.bool t343)).setCell ⟨gb314, 1, none⟩ (.slice Ao144 t344.length co144)).heap[gb315]? = some (.cells #[.bool false, .slice A1_1 l1_1.length c1_1] 36 (0, 0))) := ⟨bf BK315.out⟩
     have n9_ : Aside0 (((w142.setCell ⟨gb314, 0, none⟩ (.bool t343)).setCell ⟨gb314, 1, none⟩ (.slice Ao144 t344.length co144)).heap[gb342]? = some (.cells #[.bool t338, .slice Ao100 t339.length co100] 36 (0, 0))) := ⟨bf BK342.out⟩
     have n10_ : Aside0 (Below w.heap.size w ((w142.setCell ⟨gb314, 0, none⟩ (.bool t343)).setCell ⟨gb314, 1, none⟩ (.slice Ao144 t344.length co144))) := ⟨bl⟩
     (try clear HO_315001)
     (try clear HO_343001)
     (try clear HO346)
     (try clear BK310)
     (try clear BK311)
     (try clear BK312)
     (try clear BK313)
     (try clear BK314)
     (try clear BK315)
     (try clear BK342)
     (try clear HB)
     generalize ((w142.setCell ⟨gb314, 0, none⟩ (.bool t343)).setCell ⟨gb314, 1, none⟩ (.slice Ao144 t344.length co144)) = w150 at n0_ n1_ n2_ n3_ n4_ n5_ n6_ n7_ n8_ n9_ n10_ ⊢
     have HO_315001 := n0_
     have HO_343001 := n1_
     have HO346 := n2_
     have BK310 := n3_
     have BK311 := n4_
     have BK312 := n5_
     have BK313 := n6_
     have BK314 := n7_
     have BK315 := n8_
     have BK342 := n9_
     have HB := n10_
     clear n0_ n1_ n2_ n3_ n4_ n5_ n6_ n7_ n8_ n9_ n10_
     replace HO_315001 := Aside0.mk (Kd.V_drew HO_315001.out); replace HO_343001 := Aside0.mk (Kd.V_drew HO_343001.out); replace HO346 := Aside0.mk (Kd.V_drew HO346.out); replace BK310 := Aside0.mk (blk_drew BK310.out); replace BK311 := Aside0.mk (blk_drew BK311.out); replace BK312 := Aside0.mk (blk_drew BK312.out); replace BK313 := Aside0.mk (blk_drew BK313.out); replace BK314 := Aside0.mk (blk_drew BK314.out); replace BK315 := Aside0.mk (blk_drew BK315.out); replace BK342 := Aside0.mk (blk_drew BK342.out); replace HB := Aside0.mk (below_drew1 HB.out)
     refine start_ (n := 4) (S := fun w' => w'.cell? ⟨gb342, 0, none⟩ = some (.bool t338) ∧ w'.cell? ⟨gb342, 1, none⟩ = some (.slice Ao100 t339.length co100)) (ds := [3]) #[false,false,false,false] (by kernel_rfl) rfl rfl ⟨(blk_cell BK342.out 0).trans rfl, (blk_cell BK342.out 1).trans rfl⟩ (fun hHeld => ?_)
     generalize w150.drew = w151 at HO_315001 HO_343001 HO346 BK310 BK311 BK312 BK313 BK314 BK315 BK342 HB hHeld ⊢
     refine take_ (i := 0) (N := some 69) (v := ?_) (a' := ?_) #[true,false,false,false] rfl rfl (by kernel_rfl) (fun _ _ _ h => h) (Or.inl ⟨by rfl, ?_⟩) hHeld ?_ ?_
     rotate_left
     · rintro w' ⟨s0, s1⟩
       go_simp
       with_reducible rfl
     rotate_left; focus (simp only [Act.put, z1, z2, z3, i64_w, i32_w]; rfl)
     refine one_ (i := 1) (N := some 70) #[true,true,false,false] rfl rfl (by kernel_rfl) (by decide) (fun K hK => ?_)
     refine goes_ Try.func18 (by kernel_rfl) rfl #[.int .i64 1] (by rfl) rfl rfl (by (try simp only [List.map_toArray, List.map_cons, List.map_nil]); first | done | rfl | (simp only [List.length_drop, List.length_take]; rfl)) ?_
     with_reducible refine (maskref4_DecInt.calls kj77 1 t347 t348 _ A126.out).mono ?_
     rintro e w152 ⟨v349, rfl, ho0, hb⟩
     refine ⟨_, rfl, ?_⟩
     replace HO_315001 := Aside0.mk (vb HO_315001.out hb); replace HO_343001 := Aside0.mk (vb HO_343001.out hb); replace HO346 := Aside0.mk (vb HO346.out hb); have HO350 := Aside0.mk (Kd.V_lower (Kd.V_mono (ok' := fun k_ => (w.heap.size ≤ k_) ∧ k_ ≠ gb310 ∧ k_ ≠ gb311 ∧ k_ ≠ gb312 ∧ k_ ≠ gb313 ∧ k_ ≠ gb314 ∧ k_ ≠ gb315 ∧ k_ ≠ gb342) ho0 (fun k_ hk_ => ⟨(Nat.le_trans (below_size bl) hk_), (Kd.freshB (g := gb310) (o := .cells #[.bool a0_0, .slice A0_1 l0_1.length c0_1] 36 (0, 0)) (bk BK310.out) k_ hk_), (Kd.freshB (g := gb311) (o := .cells #[.bool true, .slice A1_1 l1_1.length c1_1] 36 (0, 0)) (bk BK311.out) k_ hk_), (Kd.freshB (g := gb312) (o := .cells #[.bool false, .slice none 0 0] 36 (0, 0)) (bk BK312.out) k_ hk_), (Kd.freshB (g := gb313) (o := .cells #[.bool false, .slice none 0 0] 36 (0, 0)) (bk BK313.out) k_ hk_), (Kd.freshB (g := gb314) (o := .cells #[.bool t343, .slice Ao144 t344.length co144] 36 (0, 0)) (bk BK314.out) k_ hk_), (Kd.freshB (g := gb315) (o := .cells #[.bool false, .slice A1_1 l1_1.length c1_1] 36 (0, 0)) (bk BK315.out) k_ hk_), (Kd.freshB (g := gb342) (o := .cells #[.bool t338, .slice Ao100 t339.length co100] 36 (0, 0)) (bk BK342.out) k_ hk_)⟩)) (below_size bl)); replace BK310 := Aside0.mk (bb BK310.out hb); replace BK311 := Aside0.mk (bb BK311.out hb); replace BK312 := Aside0.mk (bb BK312.out hb); replace BK313 := Aside0.mk (bb BK313.out hb); replace BK314 := Aside0.mk (bb BK314.out hb); replace BK315 := Aside0.mk (bb BK315.out hb); replace BK342 := Aside0.mk (bb BK342.out hb); replace HB := Aside0.mk (below_step bl hb)
     (try clear hb)
     (try clear hb2)
     (try clear hk)
     (try clear hi)
     (try clear ho0)
     obtain ⟨Ao153, co153, eo153⟩ := Kd.V_slice HO350.out
     (first | subst eo153 | (injection eo153 with f1_ f2_ f3_; have f4_ := f1_.symm; have f5_ := f3_.symm; clear f1_ f2_ f3_; subst f4_; subst f5_))
     refine hK.out _ _ ⟨(blk_cell BK342.out 0).trans rfl, (blk_cell BK342.out 1).trans rfl⟩ (fun hHeld => ?_)
     clear hK K
     refine norm_ (a' := ?_) ?_ ?_
     rotate_left; focus (show Act.put _ (some 70) _ = _; simp only [Act.put, z1, z2, z3, i64_w, i32_w]; rfl)
     refine one_ (i := 2) (N := some 71) #[true,true,true,false] rfl rfl (by kernel_rfl) (by decide) (fun K hK => ?_)
     refine goes_ Try.func46 (by kernel_rfl) rfl #[.agg #[.bool t338, .slice Ao100 t339.length co100], .agg #[.bool t347, .slice Ao153 t348.length co153]] (by rfl) rfl rfl (by (try simp only [List.map_toArray, List.map_cons, List.map_nil]); first | done | rfl | (simp only [List.length_drop, List.length_take]; rfl)) ?_
     with_reducible refine (maskref4_Dec_Plus.calls kj77 t338 _ _ t339 t347 _ _ t348 t351 t352 _ ?side1 ?side2 ?side3 ?side4 A127.out).mono ?_
     (case side1 => exact kc ((Kd.V_reads' HO_343001.out).2.2))
     (case side2 => exact (Kd.V_reads' HO_343001.out).2.1)
     (case side3 => exact kc ((Kd.V_reads' HO350.out).2.2))
     (case side4 => exact (Kd.V_reads' HO350.out).2.1)
     rintro e w154 ⟨v353, rfl, ho0, hb⟩
     refine ⟨_, rfl, ?_⟩
     replace HO_315001 := Aside0.mk (vb HO_315001.out hb); replace HO_343001 := Aside0.mk (vb HO_343001.out hb); replace HO346 := Aside0.mk (vb HO346.out hb); replace HO350 := Aside0.mk (vb HO350.out hb); have HO354 := Aside0.mk (Kd.V_lower (Kd.V_mono (ok' := fun k_ => (w.heap.size ≤ k_) ∧ k_ ≠ gb310 ∧ k_ ≠ gb311 ∧ k_ ≠ gb312 ∧ k_ ≠ gb313 ∧ k_ ≠ gb314 ∧ k_ ≠ gb315 ∧ k_ ≠ gb342) ho0 (fun k_ hk_ => ⟨(Nat.le_trans (below_size bl) hk_), (Kd.freshB (g := gb310) (o := .cells #[.bool a0_0, .slice A0_1 l0_1.length c0_1] 36 (0, 0)) (bk BK310.out) k_ hk_), (Kd.freshB (g := gb311) (o := .cells #[.bool true, .slice A1_1 l1_1.length c1_1] 36 (0, 0)) (bk BK311.out) k_ hk_), (Kd.freshB (g := gb312) (o := .cells #[.bool false, .slice none 0 0] 36 (0, 0)) (bk BK312.out) k_ hk_), (Kd.freshB (g := gb313) (o := .cells #[.bool false, .slice none 0 0] 36 (0, 0)) (bk BK313.out) k_ hk_), (Kd.freshB (g := gb314) (o := .cells #[.bool t343, .slice Ao144 t344.length co144] 36 (0, 0)) (bk BK314.out) k_ hk_), (Kd.freshB (g := gb315) (o := .cells #[.bool false, .slice A1_1 l1_1.length c1_1] 36 (0, 0)) (bk BK315.out) k_ hk_), (Kd.freshB (g := gb342) (o := .cells #[.bool t338, .slice Ao100 t339.length co100] 36 (0, 0)) (bk BK342.out) k_ hk_)⟩)) (below_size bl)); replace BK310 := Aside0.mk (bb BK310.out hb); replace BK311 := Aside0.mk (bb BK311.out hb); replace BK312 := Aside0.mk (bb BK312.out hb); replace BK313 := Aside0.mk (bb BK313.out hb); replace BK314 := Aside0.mk (bb BK314.out hb); replace BK315 := Aside0.mk (bb BK315.out hb); replace BK342 := Aside0.mk (bb BK342.out hb); replace HB := Aside0.mk (below_step bl hb)
     (try clear hb)
     (try clear hb2)
     (try clear hk)
     (try clear hi)
     (try clear ho0)
     obtain ⟨Ao156, co156, eo156⟩ := Kd.V_slice HO354.out
     (first | subst eo156 | (injection eo156 with f1_ f2_ f3_; have f4_ := f1_.symm; have f5_ := f3_.symm; clear f1_ f2_ f3_; subst f4_; subst f5_))
     refine hK.out _ _ ⟨(blk_cell BK342.out 0).trans rfl, (blk_cell BK342.out 1).trans rfl⟩ (fun hHeld => ?_)
     clear hK K
     refine norm_ (a' := ?_) ?_ ?_
     rotate_left; focus (show Act.put _ (some 71) _ = _; simp only [Act.put, z1, z2, z3, i64_w, i32_w]; rfl)
     refine last_ (i := 3) (N := none) #[true,true,true,true] rfl rfl (by kernel_rfl) (by decide) (fun K hK => ?_)
     have hfs155 := blk_frozen BK342.out 0
     have hfs157 := blk_frozen BK342.out 1
     refine skip_ (w1 := ?_) (by rfl) rfl ?_ ?_
     rotate_left; focus (go_simp; rfl)
     refine hK.out _ _ ?_
     clear hK K
     refine done_ (by kernel_rfl) ?_
     try go_wp2
     have n0_ : Aside0 (Kd.V (Kd.int .i64) 3 ((w154.setCell ⟨gb342, 0, none⟩ (.bool t351)).setCell ⟨gb342, 1, none⟩ (.slice Ao156 t352.length co156)) w.heap.size (fun k_ => (w.heap.size ≤ k_) ∧ k_ ≠ gb310 ∧ k_ ≠ gb311 ∧ k_ ≠ gb312 ∧ k_ ≠ gb313 ∧ k_ ≠ gb314 ∧ k_ ≠ gb315 ∧ k_ ≠ gb342) (.slice Ao141 x315001_1.length co141) x315001_1) := ⟨by (with_reducible repeat (first | apply Kd.V_alloc | apply Kd.V_drewN | apply Kd.V_drew)); exact Kd.V_mono (Kd.V_far (p := ⟨gb342, 1, none⟩) (Kd.V_far (p := ⟨gb342, 0, none⟩) (Kd.V_mono HO_315001.out (fun k_ hk => (⟨hk, hk.2.2.2.2.2.2.2⟩ : _ ∧ k_ ≠ gb342))) (fun _ hk => hk.2) (.bool t351)) (fun _ hk => hk.2) (.slice Ao156 t352.length co156)) (fun _ hk => ⟨hk.1.1, ⟨hk.1.2.1, ⟨hk.1.2.2.1, ⟨hk.1.2.2.2.1, ⟨hk.1.2.2.2.2.1, ⟨hk.1.2.2.2.2.2.1, ⟨hk.1.2.2.2.2.2.2.1, hk.1.2.2.2.2.2.2.2⟩⟩⟩⟩⟩⟩⟩)⟩
     have n1_ : Aside0 (Kd.V (Kd.int .i64) 3 ((w154.setCell ⟨gb342, 0, none⟩ (.bool t351)).setCell ⟨gb342, 1, none⟩ (.slice Ao156 t352.length co156)) w.heap.size (fun k_ => (w.heap.size ≤ k_) ∧ k_ ≠ gb310 ∧ k_ ≠ gb311 ∧ k_ ≠ gb312 ∧ k_ ≠ gb313 ∧ k_ ≠ gb314 ∧ k_ ≠ gb315 ∧ k_ ≠ gb342) (.slice Ao100 t339.length co100) t339) := ⟨by (with_reducible repeat (first | apply Kd.V_alloc | apply Kd.V_drewN | apply Kd.V_drew)); exact Kd.V_mono (Kd.V_far (p := ⟨gb342, 1, none⟩) (Kd.V_far (p := ⟨gb342, 0, none⟩) (Kd.V_mono HO_343001.out (fun k_ hk => (⟨hk, hk.2.2.2.2.2.2.2⟩ : _ ∧ k_ ≠ gb342))) (fun _ hk => hk.2) (.bool t351)) (fun _ hk => hk.2) (.slice Ao156 t352.length co156)) (fun _ hk => ⟨hk.1.1, ⟨hk.1.2.1, ⟨hk.1.2.2.1, ⟨hk.1.2.2.2.1, ⟨hk.1.2.2.2.2.1, ⟨hk.1.2.2.2.2.2.1, ⟨hk.1.2.2.2.2.2.2.1, hk.1.2.2.2.2.2.2.2⟩⟩⟩⟩⟩⟩⟩)⟩
     have n2_ : Aside0 (Kd.V (Kd.int .i64) 3 ((w154.setCell ⟨gb342, 0, none⟩ (.bool t351)).setCell ⟨gb342, 1, none⟩ (.slice Ao156 t352.length co156)) w.heap.size (fun k_ => (w.heap.size ≤ k_) ∧ k_ ≠ gb310 ∧ k_ ≠ gb311 ∧ k_ ≠ gb312 ∧ k_ ≠ gb313 ∧ k_ ≠ gb314 ∧ k_ ≠ gb315 ∧ k_ ≠ gb342) (.slice Ao144 t344.length co144) t344) := ⟨by (with_reducible repeat (first | apply Kd.V_alloc | apply Kd.V_drewN | apply Kd.V_drew)); exact Kd.V_mono (Kd.V_far (p := ⟨gb342, 1, none⟩) (Kd.V_far (p := ⟨gb342, 0, none⟩) (Kd.V_mono HO346.out (fun k_ hk => (⟨hk, hk.2.2.2.2.2.2.2⟩ : _ ∧ k_ ≠ gb342))) (fun _ hk => hk.2) (.bool t351)) (fun _ hk => hk.2) (.slice Ao156 t352.length co156)) (fun _ hk => ⟨hk.1.1, ⟨hk.1.2.1, ⟨hk.1.2.2.1, ⟨hk.1.2.2.2.1, ⟨hk.1.2.2.2.2.1, ⟨hk.1.2.2.2.2.2.1, ⟨hk.1.2.2.2.2.2.2.1, hk.1.2.2.2.2.2.2.2⟩⟩⟩⟩⟩⟩⟩)⟩
     have n3_ : Aside0 (Kd.V (Kd.int .i64) 3 ((w154.setCell ⟨gb342, 0, none⟩ (.bool t351)).setCell ⟨gb342, 1, none⟩ (.slice Ao156 t352.length co156)) w.heap.size (fun k_ => (w.heap.size ≤ k_) ∧ k_ ≠ gb310 ∧ k_ ≠ gb311 ∧ k_ ≠ gb312 ∧ k_ ≠ gb313 ∧ k_ ≠ gb314 ∧ k_ ≠ gb315 ∧ k_ ≠ gb342) (.slice Ao153 t348.length co153) t348) := ⟨by (with_reducible repeat (first | apply Kd.V_alloc | apply Kd.V_drewN | apply Kd.V_drew)); exact Kd.V_mono (Kd.V_far (p := ⟨gb342, 1, none⟩) (Kd.V_far (p := ⟨gb342, 0, none⟩) (Kd.V_mono HO350.out (fun k_ hk => (⟨hk, hk.2.2.2.2.2.2.2⟩ : _ ∧ k_ ≠ gb342))) (fun _ hk => hk.2) (.bool t351)) (fun _ hk => hk.2) (.slice Ao156 t352.length co156)) (fun _ hk => ⟨hk.1.1, ⟨hk.1.2.1, ⟨hk.1.2.2.1, ⟨hk.1.2.2.2.1, ⟨hk.1.2.2.2.2.1, ⟨hk.1.2.2.2.2.2.1, ⟨hk.1.2.2.2.2.2.2.1, hk.1.2.2.2.2.2.2.2⟩⟩⟩⟩⟩⟩⟩)⟩
     have n4_ : Aside0 (Kd.V (Kd.int .i64) 3 ((w154.setCell ⟨gb342, 0, none⟩ (.bool t351)).setCell ⟨gb342, 1, none⟩ (.slice Ao156 t352.length co156)) w.heap.size (fun k_ => (w.heap.size ≤ k_) ∧ k_ ≠ gb310 ∧ k_ ≠ gb311 ∧ k_ ≠ gb312 ∧ k_ ≠ gb313 ∧ k_ ≠ gb314 ∧ k_ ≠ gb315 ∧ k_ ≠ gb342) (.slice Ao156 t352.length co156) t352) := ⟨by (with_reducible repeat (first | apply Kd.V_alloc | apply Kd.V_drewN | apply Kd.V_drew)); exact Kd.V_mono (Kd.V_far (p := ⟨gb342, 1, none⟩) (Kd.V_far (p := ⟨gb342, 0, none⟩) (Kd.V_mono HO354.out (fun k_ hk => (⟨hk, hk.2.2.2.2.2.2.2⟩ : _ ∧ k_ ≠ gb342))) (fun _ hk => hk.2) (.bool t351)) (fun _ hk => hk.2) (.slice Ao156 t352.length co156)) (fun _ hk => ⟨hk.1.1, ⟨hk.1.2.1, ⟨hk.1.2.2.1, ⟨hk.1.2.2.2.1, ⟨hk.1.2.2.2.2.1, ⟨hk.1.2.2.2.2.2.1, ⟨hk.1.2.2.2.2.2.2.1, hk.1.2.2.2.2.2.2.2⟩⟩⟩⟩⟩⟩⟩)⟩
     have n5_ : Aside0 (((w154.setCell ⟨gb342, 0, none⟩ (.bool t351)).setCell ⟨gb342, 1, none⟩ (.slice Ao156 t352.length co156)).heap[gb310]? = some (.cells #[.bool a0_0, .slice A0_1 l0_1.length c0_1] 36 (0, 0))) := ⟨bf BK310.out⟩
     have n6_ : Aside0 (((w154.setCell ⟨gb342, 0, none⟩ (.bool t351)).setCell ⟨gb342, 1, none⟩ (.slice Ao156 t352.length co156)).heap[gb311]? = some (.cells #[.bool true, .slice A1_1 l1_1.length c1_1] 36 (0, 0))) := ⟨bf BK311.out⟩
     have n7_ : Aside0 (((w154.setCell ⟨gb342, 0, none⟩ (.bool t351)).setCell ⟨gb342, 1, none⟩ (.slice Ao156 t352.length co156)).heap[gb312]? = some (.cells #[.bool false, .slice none 0 0] 36 (0, 0))) := ⟨bf BK312.out⟩
     have n8_ : Aside0 (((w154.setCell ⟨gb342, 0, none⟩ (.bool t351)).setCell ⟨gb342, 1, none⟩ (.slice Ao156 t352.length co156)).heap[gb313]? = some (.cells #[.bool false, .slice none 0 0] 36 (0, 0))) := ⟨bf BK313.out⟩
     have n9_ : Aside0 (((w154.setCell ⟨gb342, 0, none⟩ (.bool t351)).setCell ⟨gb342, 1, none⟩ (.slice Ao156 t352.length co156)).heap[gb314]? = some (.cells #[.bool t343, .slice Ao144 t344.length co144] 36 (0, 0))) := ⟨bf BK314.out⟩
     have n10_ : Aside0 (((w154.setCell ⟨gb342, 0, none⟩ (.bool t351)).setCell ⟨gb342, 1, none⟩ (.slice Ao156 t352.length co156)).heap[gb315]? = some (.cells #[.bool false, .slice A1_1 l1_1.length c1_1] 36 (0, 0))) := ⟨bf BK315.out⟩
     have n11_ : Aside0 (((w154.setCell ⟨gb342, 0, none⟩ (.bool t351)).setCell ⟨gb342, 1, none⟩ (.slice Ao156 t352.length co156)).heap[gb342]? = some (.cells #[.bool t351, .slice Ao156 t352.length co156] 36 (0, 0))) := ⟨by (with_reducible repeat (first | refine blk_drewN ?_ _ | refine blk_drew ?_ | refine blk_alloc ?_ _)); refine blk_put (cs := #[.bool t351, .slice Ao100 t339.length co100]) ?_ 1 _ rfl; (with_reducible repeat (first | refine blk_drewN ?_ _ | refine blk_drew ?_ | refine blk_alloc ?_ _)); refine blk_put (cs := #[.bool t338, .slice Ao100 t339.length co100]) ?_ 0 _ rfl; (with_reducible repeat (first | refine blk_drewN ?_ _ | refine blk_drew ?_ | refine blk_alloc ?_ _)); exact BK342.out⟩
     have n12_ : Aside0 (Below w.heap.size w ((w154.setCell ⟨gb342, 0, none⟩ (.bool t351)).setCell ⟨gb342, 1, none⟩ (.slice Ao156 t352.length co156))) := ⟨bl⟩
     (try clear HO_315001)
     (try clear HO_343001)
     (try clear HO346)
     (try clear HO350)
     (try clear HO354)
     (try clear BK310)
     (try clear BK311)
     (try clear BK312)
     (try clear BK313)
     (try clear BK314)
     (try clear BK315)
     (try clear BK342)
     (try clear HB)
     generalize ((w154.setCell ⟨gb342, 0, none⟩ (.bool t351)).setCell ⟨gb342, 1, none⟩ (.slice Ao156 t352.length co156)) = w158 at n0_ n1_ n2_ n3_ n4_ n5_ n6_ n7_ n8_ n9_ n10_ n11_ n12_ ⊢
     have HO_315001 := n0_
     have HO_343001 := n1_
     have HO346 := n2_
     have HO350 := n3_
     have HO354 := n4_
     have BK310 := n5_
     have BK311 := n6_
     have BK312 := n7_
     have BK313 := n8_
     have BK314 := n9_
     have BK315 := n10_
     have BK342 := n11_
     have HB := n12_
     clear n0_ n1_ n2_ n3_ n4_ n5_ n6_ n7_ n8_ n9_ n10_ n11_ n12_
     replace HO_315001 := Aside0.mk (Kd.V_drew HO_315001.out); replace HO_343001 := Aside0.mk (Kd.V_drew HO_343001.out); replace HO346 := Aside0.mk (Kd.V_drew HO346.out); replace HO350 := Aside0.mk (Kd.V_drew HO350.out); replace HO354 := Aside0.mk (Kd.V_drew HO354.out); replace BK310 := Aside0.mk (blk_drew BK310.out); replace BK311 := Aside0.mk (blk_drew BK311.out); replace BK312 := Aside0.mk (blk_drew BK312.out); replace BK313 := Aside0.mk (blk_drew BK313.out); replace BK314 := Aside0.mk (blk_drew BK314.out); replace BK315 := Aside0.mk (blk_drew BK315.out); replace BK342 := Aside0.mk (blk_drew BK342.out); replace HB := Aside0.mk (below_drew1 HB.out)
     refine start_ (n := 4) (S := fun w' => w'.cell? ⟨gb342, 0, none⟩ = some (.bool t351) ∧ w'.cell? ⟨gb342, 1, none⟩ = some (.slice Ao156 t352.length co156) ∧ w'.cell? ⟨gb314, 0, none⟩ = some (.bool t343) ∧ w'.cell? ⟨gb314, 1, none⟩ = some (.slice Ao144 t344.length co144)) (ds := []) #[false,false,false,false] (by kernel_rfl) rfl rfl ⟨(blk_cell BK342.out 0).trans rfl, (blk_cell BK342.out 1).trans rfl, (blk_cell BK314.out 0).trans rfl, (blk_cell BK314.out 1).trans rfl⟩ (fun hHeld => ?_)
     generalize w158.drew = w159 at HO_315001 HO_343001 HO346 HO350 HO354 BK310 BK311 BK312 BK313 BK314 BK315 BK342 HB hHeld ⊢
     refine take_ (i := 0) (N := some 75) (v := ?_) (a' := ?_) #[true,false,false,false] rfl rfl (by kernel_rfl) (fun _ _ _ h => h) (Or.inl ⟨by rfl, ?_⟩) hHeld ?_ ?_
     rotate_left
     · rintro w' ⟨s0, s1, s2, s3⟩
       go_simp
       with_reducible rfl
     rotate_left; focus (simp only [Act.put, z1, z2, z3, i64_w, i32_w]; rfl)
     refine take_ (i := 1) (N := some 76) (v := ?_) (a' := ?_) #[true,true,false,false] rfl rfl (by kernel_rfl) (fun _ _ _ h => h) (Or.inl ⟨by rfl, ?_⟩) hHeld ?_ ?_
     rotate_left
     · rintro w' ⟨s0, s1, s2, s3⟩
       go_simp
       with_reducible rfl
     rotate_left; focus (simp only [Act.put, z1, z2, z3, i64_w, i32_w]; rfl)
     refine one_ (i := 2) (N := none) #[true,true,true,false] rfl rfl (by kernel_rfl) (by decide) (fun K hK => ?_)
     have hs160 : w159.cell? ⟨gb312, 0, none⟩ = some (.bool false) := (blk_cell BK312.out 0).trans rfl
     have hfs160 := blk_frozen BK312.out 0
     have hs161 : w159.cell? ⟨gb312, 1, none⟩ = some (.slice none 0 0) := (blk_cell BK312.out 1).trans rfl
     have hfs161 := blk_frozen BK312.out 1
     refine skip_ (w1 := ?_) (by rfl) rfl ?_ ?_
     rotate_left; focus (go_simp; rfl)
     refine hK.out _ _ ⟨((cell_far (p := ⟨gb312, _, none⟩) NB342_312.out _).trans (((cell_far (p := ⟨gb312, _, none⟩) NB342_312.out _).trans (hHeld.1)))), ((cell_far (p := ⟨gb312, _, none⟩) NB342_312.out _).trans (((cell_far (p := ⟨gb312, _, none⟩) NB342_312.out _).trans (hHeld.2.1)))), ((cell_far (p := ⟨gb312, _, none⟩) NB314_312.out _).trans (((cell_far (p := ⟨gb312, _, none⟩) NB314_312.out _).trans (hHeld.2.2.1)))), ((cell_far (p := ⟨gb312, _, none⟩) NB314_312.out _).trans (((cell_far (p := ⟨gb312, _, none⟩) NB314_312.out _).trans (hHeld.2.2.2))))⟩ (fun hHeld => ?_)
     clear hK K
     refine one_ (i := 3) (N := none) #[true,true,true,true] rfl rfl (by kernel_rfl) (by decide) (fun K hK => ?_)
     have hs162 : w159.cell? ⟨gb313, 0, none⟩ = some (.bool false) := (blk_cell BK313.out 0).trans rfl
     have hfs162 := blk_frozen BK313.out 0
     have hs163 : w159.cell? ⟨gb313, 1, none⟩ = some (.slice none 0 0) := (blk_cell BK313.out 1).trans rfl
     have hfs163 := blk_frozen BK313.out 1
     have hms163_2 := NB313_312.out
     have hms163_4 := NB313_314.out
     have hms163_5 := NB313_315.out
     have hms163_6 := NB313_342.out
     refine skip_ (w1 := ?_) (by rfl) rfl ?_ ?_
     rotate_left; focus (go_simp; rfl)
     refine hK.out _ _ ⟨((cell_far (p := ⟨gb313, _, none⟩) NB342_313.out _).trans (((cell_far (p := ⟨gb313, _, none⟩) NB342_313.out _).trans (hHeld.1)))), ((cell_far (p := ⟨gb313, _, none⟩) NB342_313.out _).trans (((cell_far (p := ⟨gb313, _, none⟩) NB342_313.out _).trans (hHeld.2.1)))), ((cell_far (p := ⟨gb313, _, none⟩) NB314_313.out _).trans (((cell_far (p := ⟨gb313, _, none⟩) NB314_313.out _).trans (hHeld.2.2.1)))), ((cell_far (p := ⟨gb313, _, none⟩) NB314_313.out _).trans (((cell_far (p := ⟨gb313, _, none⟩) NB314_313.out _).trans (hHeld.2.2.2))))⟩ (fun hHeld => ?_)
     clear hK K
     refine done_ (by kernel_rfl) ?_
     try go_wp2
     refine bodyPost_ret (results_cc rfl _ _ gb312 gb313 36 36 #[.bool t351, .slice Ao156 t352.length co156] #[.bool t343, .slice Ao144 t344.length co144] (0, 0) (0, 0) _ _ rfl (by (with_reducible repeat (first | refine blk_drewN ?_ _ | refine blk_drew ?_ | refine blk_alloc ?_ _)); refine blk_far ?_ NB312_313.out _; (with_reducible repeat (first | refine blk_drewN ?_ _ | refine blk_drew ?_ | refine blk_alloc ?_ _)); refine blk_far ?_ NB312_313.out _; (with_reducible repeat (first | refine blk_drewN ?_ _ | refine blk_drew ?_ | refine blk_alloc ?_ _)); refine blk_put (cs := #[.bool t351, .slice none 0 0]) ?_ 1 _ rfl; (with_reducible repeat (first | refine blk_drewN ?_ _ | refine blk_drew ?_ | refine blk_alloc ?_ _)); refine blk_put (cs := #[.bool false, .slice none 0 0]) ?_ 0 _ rfl; (with_reducible repeat (first | refine blk_drewN ?_ _ | refine blk_drew ?_ | refine blk_alloc ?_ _)); exact BK312.out) Try.underlying36 rfl (by kernel_rfl) rfl (by (with_reducible repeat (first | refine blk_drewN ?_ _ | refine blk_drew ?_ | refine blk_alloc ?_ _)); refine blk_put (cs := #[.bool t343, .slice none 0 0]) ?_ 1 _ rfl; (with_reducible repeat (first | refine blk_drewN ?_ _ | refine blk_drew ?_ | refine blk_alloc ?_ _)); refine blk_put (cs := #[.bool false, .slice none 0 0]) ?_ 0 _ rfl; (with_reducible repeat (first | refine blk_drewN ?_ _ | refine blk_drew ?_ | refine blk_alloc ?_ _)); refine blk_far ?_ NB313_312.out _; (with_reducible repeat (first | refine blk_drewN ?_ _ | refine blk_drew ?_ | refine blk_alloc ?_ _)); refine blk_far ?_ NB313_312.out _; (with_reducible repeat (first | refine blk_drewN ?_ _ | refine blk_drew ?_ | refine blk_alloc ?_ _)); exact BK313.out) Try.underlying36 rfl (by kernel_rfl)) rfl ?_
     exact ⟨_, _, by first | rfl | (simp [errW_none, errW_some] <;> rfl) | (simp [*, errW_none, errW_some] <;> rfl), by (with_reducible repeat (first | apply Kd.V_alloc | apply Kd.V_drewN | apply Kd.V_drew)); exact Kd.V_mono (Kd.V_far (p := ⟨gb313, 1, none⟩) (Kd.V_far (p := ⟨gb313, 0, none⟩) (Kd.V_far (p := ⟨gb312, 1, none⟩) (Kd.V_far (p := ⟨gb312, 0, none⟩) (Kd.V_mono (Kd.V_mono HO354.out (fun k_ hk => (⟨hk, hk.2.2.2.1⟩ : _ ∧ k_ ≠ gb312))) (fun k_ hk => (⟨hk, hk.1.2.2.2.2.1⟩ : _ ∧ k_ ≠ gb313))) (fun _ hk => hk.1.2) (.bool t351)) (fun _ hk => hk.1.2) (.slice Ao156 t352.length co156)) (fun _ hk => hk.2) (.bool t343)) (fun _ hk => hk.2) (.slice Ao144 t344.length co144)) (fun _ hk => hk.1.1.1), by (with_reducible repeat (first | apply Kd.V_alloc | apply Kd.V_drewN | apply Kd.V_drew)); exact Kd.V_mono (Kd.V_far (p := ⟨gb313, 1, none⟩) (Kd.V_far (p := ⟨gb313, 0, none⟩) (Kd.V_far (p := ⟨gb312, 1, none⟩) (Kd.V_far (p := ⟨gb312, 0, none⟩) (Kd.V_mono (Kd.V_mono HO346.out (fun k_ hk => (⟨hk, hk.2.2.2.1⟩ : _ ∧ k_ ≠ gb312))) (fun k_ hk => (⟨hk, hk.1.2.2.2.2.1⟩ : _ ∧ k_ ≠ gb313))) (fun _ hk => hk.1.2) (.bool t351)) (fun _ hk => hk.1.2) (.slice Ao156 t352.length co156)) (fun _ hk => hk.2) (.bool t343)) (fun _ hk => hk.2) (.slice Ao144 t344.length co144)) (fun _ hk => hk.1.1.1), bl⟩
   replace c125 := Bool.eq_false_iff.mpr c125
   subst c125
   have H1 : ((maskref4_DecInt.f kj77 1).bind fun bt355 => ((maskref4_Dec_Minus.f kj77 t338 t339 bt355.1 bt355.2).bind fun bt359 => (some (bt359.1, bt359.2, t343, t344)))) = some (r1, r2, r3, r4) := by rw [if_neg (show ¬ (false = true) by decide)] at H; exact H
   clear H
   have H := H1
   clear H1
   replace H := Option.bind_eq_some_iff.mp H
   obtain ⟨⟨t355, t356⟩, A1640, H⟩ := H
   replace H : ((maskref4_Dec_Minus.f kj77 t338 t339 t355 t356).bind fun bt359 => (some (bt359.1, bt359.2, t343, t344))) = some (r1, r2, r3, r4) := H
   have A164 := Aside0.mk A1640
   clear A1640
   replace H := Option.bind_eq_some_iff.mp H
   obtain ⟨⟨t359, t360⟩, A1650, H⟩ := H
   replace H : (some (t359, t360, t343, t344)) = some (r1, r2, r3, r4) := H
   have A165 := Aside0.mk A1650
   clear A1650
   simp only [Option.some.injEq, Prod.mk.injEq] at H
   obtain ⟨rfl, rfl, rfl, rfl⟩ := H
   obtain ⟨hcz172_0, hcz172_1, hfz172_0, hfz172_1⟩ := bz2 BK315.out
   have hnc174 := NB311_314.out
   have hnb175 := NB314_312.out
   have hnc175 := NB312_314.out
   have hnb176 := NB314_313.out
   have hnc176 := NB313_314.out
   have hnb177 := NB314_342.out
   have hnc177 := NB342_314.out
   obtain ⟨hcz178_0, hcz178_1, hfz178_0, hfz178_1⟩ := bz2 BK314.out
   obtain ⟨Ao179, co179, eo179⟩ := Kd.V_slice HO_315001.out
   subst eo179
   try go_wp2_with ((with_reducible refine gate_callee (f := 47) rfl ?_); refine goesL_ (some 66) rfl rfl Try.func47 (by kernel_rfl) rfl #[.agg #[.bool false, .slice A1_1 l1_1.length c1_1], .agg #[.bool x315000_1, .slice Ao179 x315001_1.length co179]] rfl (by (try simp only [List.map_toArray, List.map_cons, List.map_nil]); first | done | rfl | (simp only [List.length_drop, List.length_take]; rfl)) ?_; (with_reducible refine (maskref4_Dec_Minus.calls kj77 false _ _ l1_1 x315000_1 _ _ x315001_1 t343 t344 _ ?side1 ?side2 ?side3 ?side4 A124.out).mono ?_); (case side1 => exact kc (Kd.C_below HR1_1.out HB.out)); (case side2 => exact HC1_1.out); (case side3 => exact kc ((Kd.V_reads' HO_315001.out).2.2)); (case side4 => exact (Kd.V_reads' HO_315001.out).2.1); rintro e w180 ⟨v345, rfl, ho0, hb⟩; refine ⟨_, rfl, ?_⟩; replace HO_315001 := Aside0.mk (vb HO_315001.out hb); replace HO_343001 := Aside0.mk (vb HO_343001.out hb); have HO346 := Aside0.mk (Kd.V_lower (Kd.V_mono (ok' := fun k_ => (w.heap.size ≤ k_) ∧ k_ ≠ gb310 ∧ k_ ≠ gb311 ∧ k_ ≠ gb312 ∧ k_ ≠ gb313 ∧ k_ ≠ gb314 ∧ k_ ≠ gb315 ∧ k_ ≠ gb342) ho0 (fun k_ hk_ => ⟨(Nat.le_trans (below_size bl) hk_), (Kd.freshB (g := gb310) (o := .cells #[.bool a0_0, .slice A0_1 l0_1.length c0_1] 36 (0, 0)) (bk BK310.out) k_ hk_), (Kd.freshB (g := gb311) (o := .cells #[.bool false, .slice A1_1 l1_1.length c1_1] 36 (0, 0)) (bk BK311.out) k_ hk_), (Kd.freshB (g := gb312) (o := .cells #[.bool false, .slice none 0 0] 36 (0, 0)) (bk BK312.out) k_ hk_), (Kd.freshB (g := gb313) (o := .cells #[.bool false, .slice none 0 0] 36 (0, 0)) (bk BK313.out) k_ hk_), (Kd.freshB (g := gb314) (o := .cells #[.bool x315000_1, .slice Ao179 x315001_1.length co179] 36 (0, 0)) (bk BK314.out) k_ hk_), (Kd.freshB (g := gb315) (o := .cells #[.bool false, .slice A1_1 l1_1.length c1_1] 36 (0, 0)) (bk BK315.out) k_ hk_), (Kd.freshB (g := gb342) (o := .cells #[.bool t338, .slice Ao100 t339.length co100] 36 (0, 0)) (bk BK342.out) k_ hk_)⟩)) (below_size bl)); replace BK310 := Aside0.mk (bb BK310.out hb); replace BK311 := Aside0.mk (bb BK311.out hb); replace BK312 := Aside0.mk (bb BK312.out hb); replace BK313 := Aside0.mk (bb BK313.out hb); replace BK314 := Aside0.mk (bb BK314.out hb); replace BK315 := Aside0.mk (bb BK315.out hb); replace BK342 := Aside0.mk (bb BK342.out hb); replace HB := Aside0.mk (below_step bl hb); (try clear hb); (try clear ho0); obtain ⟨hcz181_0, hcz181_1, hfz181_0, hfz181_1⟩ := bz2 BK314.out; obtain ⟨Ao182, co182, eo182⟩ := Kd.V_slice HO346.out; subst eo182; have hnb183 := NB311_310.out; have hnc183 := NB310_311.out; have hnb184 := NB311_312.out; have hnc184 := NB312_311.out; have hnb185 := NB311_313.out; have hnc185 := NB313_311.out; have hnb186 := NB311_342.out; have hnc186 := NB342_311.out; obtain ⟨hcz187_0, hcz187_1, hfz187_0, hfz187_1⟩ := bz2 BK311.out)
   have n0_ : Aside0 (Kd.V (Kd.int .i64) 3 ((w180.setCell ⟨gb314, 0, none⟩ (.bool t343)).setCell ⟨gb314, 1, none⟩ (.slice Ao182 t344.length co182)) w.heap.size (fun k_ => (w.heap.size ≤ k_) ∧ k_ ≠ gb310 ∧ k_ ≠ gb311 ∧ k_ ≠ gb312 ∧ k_ ≠ gb313 ∧ k_ ≠ gb314 ∧ k_ ≠ gb315 ∧ k_ ≠ gb342) (.slice Ao179 x315001_1.length co179) x315001_1) := ⟨by (with_reducible repeat (first | apply Kd.V_alloc | apply Kd.V_drewN | apply Kd.V_drew)); exact Kd.V_mono (Kd.V_far (p := ⟨gb314, 1, none⟩) (Kd.V_far (p := ⟨gb314, 0, none⟩) (Kd.V_mono HO_315001.out (fun k_ hk => (⟨hk, hk.2.2.2.2.2.1⟩ : _ ∧ k_ ≠ gb314))) (fun _ hk => hk.2) (.bool t343)) (fun _ hk => hk.2) (.slice Ao182 t344.length co182)) (fun _ hk => ⟨hk.1.1, ⟨hk.1.2.1, ⟨hk.1.2.2.1, ⟨hk.1.2.2.2.1, ⟨hk.1.2.2.2.2.1, ⟨hk.1.2.2.2.2.2.1, ⟨hk.1.2.2.2.2.2.2.1, hk.1.2.2.2.2.2.2.2⟩⟩⟩⟩⟩⟩⟩)⟩
   have n1_ : Aside0 (Kd.V (Kd.int .i64) 3 ((w180.setCell ⟨gb314, 0, none⟩ (.bool t343)).setCell ⟨gb314, 1, none⟩ (.slice Ao182 t344.length co182)) w.heap.size (fun k_ => (w.heap.size ≤ k_) ∧ k_ ≠ gb310 ∧ k_ ≠ gb311 ∧ k_ ≠ gb312 ∧ k_ ≠ gb313 ∧ k_ ≠ gb314 ∧ k_ ≠ gb315 ∧ k_ ≠ gb342) (.slice Ao100 t339.length co100) t339) := ⟨by (with_reducible repeat (first | apply Kd.V_alloc | apply Kd.V_drewN | apply Kd.V_drew)); exact Kd.V_mono (Kd.V_far (p := ⟨gb314, 1, none⟩) (Kd.V_far (p := ⟨gb314, 0, none⟩) (Kd.V_mono HO_343001.out (fun k_ hk => (⟨hk, hk.2.2.2.2.2.1⟩ : _ ∧ k_ ≠ gb314))) (fun _ hk => hk.2) (.bool t343)) (fun _ hk => hk.2) (.slice Ao182 t344.length co182)) (fun _ hk => ⟨hk.1.1, ⟨hk.1.2.1, ⟨hk.1.2.2.1, ⟨hk.1.2.2.2.1, ⟨hk.1.2.2.2.2.1, ⟨hk.1.2.2.2.2.2.1, ⟨hk.1.2.2.2.2.2.2.1, hk.1.2.2.2.2.2.2.2⟩⟩⟩⟩⟩⟩⟩)⟩
   have n2_ : Aside0 (Kd.V (Kd.int .i64) 3 ((w180.setCell ⟨gb314, 0, none⟩ (.bool t343)).setCell ⟨gb314, 1, none⟩ (.slice Ao182 t344.length co182)) w.heap.size (fun k_ => (w.heap.size ≤ k_) ∧ k_ ≠ gb310 ∧ k_ ≠ gb311 ∧ k_ ≠ gb312 ∧ k_ ≠ gb313 ∧ k_ ≠ gb314 ∧ k_ ≠ gb315 ∧ k_ ≠ gb342) (.slice Ao182 t344.length co182) t344) := ⟨by (with_reducible repeat (first | apply Kd.V_alloc | apply Kd.V_drewN | apply Kd.V_drew)); exact Kd.V_mono (Kd.V_far (p := ⟨gb314, 1, none⟩) (Kd.V_far (p := ⟨gb314, 0, none⟩) (Kd.V_mono HO346.out (fun k_ hk => (⟨hk, hk.2.2.2.2.2.1⟩ : _ ∧ k_ ≠ gb314))) (fun _ hk => hk.2) (.bool t343)) (fun _ hk => hk.2) (.slice Ao182 t344.length co182)) (fun _ hk => ⟨hk.1.1, ⟨hk.1.2.1, ⟨hk.1.2.2.1, ⟨hk.1.2.2.2.1, ⟨hk.1.2.2.2.2.1, ⟨hk.1.2.2.2.2.2.1, ⟨hk.1.2.2.2.2.2.2.1, hk.1.2.2.2.2.2.2.2⟩⟩⟩⟩⟩⟩⟩)⟩
   have n3_ : Aside0 (((w180.setCell ⟨gb314, 0, none⟩ (.bool t343)).setCell ⟨gb314, 1, none⟩ (.slice Ao182 t344.length co182)).heap[gb310]? = some (.cells #[.bool a0_0, .slice A0_1 l0_1.length c0_1] 36 (0, 0))) := ⟨bf BK310.out⟩
   have n4_ : Aside0 (((w180.setCell ⟨gb314, 0, none⟩ (.bool t343)).setCell ⟨gb314, 1, none⟩ (.slice Ao182 t344.length co182)).heap[gb311]? = some (.cells #[.bool false, .slice A1_1 l1_1.length c1_1] 36 (0, 0))) := ⟨bf BK311.out⟩
   have n5_ : Aside0 (((w180.setCell ⟨gb314, 0, none⟩ (.bool t343)).setCell ⟨gb314, 1, none⟩ (.slice Ao182 t344.length co182)).heap[gb312]? = some (.cells #[.bool false, .slice none 0 0] 36 (0, 0))) := ⟨bf BK312.out⟩
   have n6_ : Aside0 (((w180.setCell ⟨gb314, 0, none⟩ (.bool t343)).setCell ⟨gb314, 1, none⟩ (.slice Ao182 t344.length co182)).heap[gb313]? = some (.cells #[.bool false, .slice none 0 0] 36 (0, 0))) := ⟨bf BK313.out⟩
   have n7_ : Aside0 (((w180.setCell ⟨gb314, 0, none⟩ (.bool t343)).setCell ⟨gb314, 1, none⟩ (.slice Ao182 t344.length co182)).heap[gb314]? = some (.cells #[.bool t343, .slice Ao182 t344.length co182] 36 (0, 0))) := ⟨by (with_reducible repeat (first | refine blk_drewN ?_ _ | refine blk_drew ?_ | refine blk_alloc ?_ _)); refine blk_put (cs := #[.bool t343, .slice Ao179 x315001_1.length co179]) ?_ 1 _ rfl; (with_reducible repeat (first | refine blk_drewN ?_ _ | refine blk_drew ?_ | refine blk_alloc ?_ _)); refine blk_put (cs := #[.bool x315000_1, .slice Ao179 x315001_1.length co179]) ?_ 0 _ rfl; (with_reducible repeat (first | refine blk_drewN ?_ _ | refine blk_drew ?_ | refine blk_alloc ?_ _)); exact BK314.out⟩
   have n8_ : Aside0 (((w180.setCell ⟨gb314, 0, none⟩ (.bool t343)).setCell ⟨gb314, 1, none⟩ (.slice Ao182 t344.length co182)).heap[gb315]? = some (.cells #[.bool false, .slice A1_1 l1_1.length c1_1] 36 (0, 0))) := ⟨bf BK315.out⟩
   have n9_ : Aside0 (((w180.setCell ⟨gb314, 0, none⟩ (.bool t343)).setCell ⟨gb314, 1, none⟩ (.slice Ao182 t344.length co182)).heap[gb342]? = some (.cells #[.bool t338, .slice Ao100 t339.length co100] 36 (0, 0))) := ⟨bf BK342.out⟩
   have n10_ : Aside0 (Below w.heap.size w ((w180.setCell ⟨gb314, 0, none⟩ (.bool t343)).setCell ⟨gb314, 1, none⟩ (.slice Ao182 t344.length co182))) := ⟨bl⟩
   (try clear HO_315001)
   (try clear HO_343001)
   (try clear HO346)
   (try clear BK310)
   (try clear BK311)
   (try clear BK312)
   (try clear BK313)
   (try clear BK314)
   (try clear BK315)
   (try clear BK342)
   (try clear HB)
   generalize ((w180.setCell ⟨gb314, 0, none⟩ (.bool t343)).setCell ⟨gb314, 1, none⟩ (.slice Ao182 t344.length co182)) = w188 at n0_ n1_ n2_ n3_ n4_ n5_ n6_ n7_ n8_ n9_ n10_ ⊢
   have HO_315001 := n0_
   have HO_343001 := n1_
   have HO346 := n2_
   have BK310 := n3_
   have BK311 := n4_
   have BK312 := n5_
   have BK313 := n6_
   have BK314 := n7_
   have BK315 := n8_
   have BK342 := n9_
   have HB := n10_
   clear n0_ n1_ n2_ n3_ n4_ n5_ n6_ n7_ n8_ n9_ n10_
   replace HO_315001 := Aside0.mk (Kd.V_drew HO_315001.out); replace HO_343001 := Aside0.mk (Kd.V_drew HO_343001.out); replace HO346 := Aside0.mk (Kd.V_drew HO346.out); replace BK310 := Aside0.mk (blk_drew BK310.out); replace BK311 := Aside0.mk (blk_drew BK311.out); replace BK312 := Aside0.mk (blk_drew BK312.out); replace BK313 := Aside0.mk (blk_drew BK313.out); replace BK314 := Aside0.mk (blk_drew BK314.out); replace BK315 := Aside0.mk (blk_drew BK315.out); replace BK342 := Aside0.mk (blk_drew BK342.out); replace HB := Aside0.mk (below_drew1 HB.out)
   refine start_ (n := 4) (S := fun w' => w'.cell? ⟨gb342, 0, none⟩ = some (.bool t338) ∧ w'.cell? ⟨gb342, 1, none⟩ = some (.slice Ao100 t339.length co100)) (ds := [3]) #[false,false,false,false] (by kernel_rfl) rfl rfl ⟨(blk_cell BK342.out 0).trans rfl, (blk_cell BK342.out 1).trans rfl⟩ (fun hHeld => ?_)
   generalize w188.drew = w189 at HO_315001 HO_343001 HO346 BK310 BK311 BK312 BK313 BK314 BK315 BK342 HB hHeld ⊢
   refine take_ (i := 0) (N := some 72) (v := ?_) (a' := ?_) #[true,false,false,false] rfl rfl (by kernel_rfl) (fun _ _ _ h => h) (Or.inl ⟨by rfl, ?_⟩) hHeld ?_ ?_
   rotate_left
   · rintro w' ⟨s0, s1⟩
     go_simp
     with_reducible rfl
   rotate_left; focus (simp only [Act.put, z1, z2, z3, i64_w, i32_w]; rfl)
   refine one_ (i := 1) (N := some 73) #[true,true,false,false] rfl rfl (by kernel_rfl) (by decide) (fun K hK => ?_)
   refine goes_ Try.func18 (by kernel_rfl) rfl #[.int .i64 1] (by rfl) rfl rfl (by (try simp only [List.map_toArray, List.map_cons, List.map_nil]); first | done | rfl | (simp only [List.length_drop, List.length_take]; rfl)) ?_
   with_reducible refine (maskref4_DecInt.calls kj77 1 t355 t356 _ A164.out).mono ?_
   rintro e w190 ⟨v357, rfl, ho0, hb⟩
   refine ⟨_, rfl, ?_⟩
   replace HO_315001 := Aside0.mk (vb HO_315001.out hb); replace HO_343001 := Aside0.mk (vb HO_343001.out hb); replace HO346 := Aside0.mk (vb HO346.out hb); have HO358 := Aside0.mk (Kd.V_lower (Kd.V_mono (ok' := fun k_ => (w.heap.size ≤ k_) ∧ k_ ≠ gb310 ∧ k_ ≠ gb311 ∧ k_ ≠ gb312 ∧ k_ ≠ gb313 ∧ k_ ≠ gb314 ∧ k_ ≠ gb315 ∧ k_ ≠ gb342) ho0 (fun k_ hk_ => ⟨(Nat.le_trans (below_size bl) hk_), (Kd.freshB (g := gb310) (o := .cells #[.bool a0_0, .slice A0_1 l0_1.length c0_1] 36 (0, 0)) (bk BK310.out) k_ hk_), (Kd.freshB (g := gb311) (o := .cells #[.bool false, .slice A1_1 l1_1.length c1_1] 36 (0, 0)) (bk BK311.out) k_ hk_), (Kd.freshB (g := gb312) (o := .cells #[.bool false, .slice none 0 0] 36 (0, 0)) (bk BK312.out) k_ hk_), (Kd.freshB (g := gb313) (o := .cells #[.bool false, .slice none 0 0] 36 (0, 0)) (bk BK313.out) k_ hk_), (Kd.freshB (g := gb314) (o := .cells #[.bool t343, .slice Ao182 t344.length co182] 36 (0, 0)) (bk BK314.out) k_ hk_), (Kd.freshB (g := gb315) (o := .cells #[.bool false, .slice A1_1 l1_1.length c1_1] 36 (0, 0)) (bk BK315.out) k_ hk_), (Kd.freshB (g := gb342) (o := .cells #[.bool t338, .slice Ao100 t339.length co100] 36 (0, 0)) (bk BK342.out) k_ hk_)⟩)) (below_size bl)); replace BK310 := Aside0.mk (bb BK310.out hb); replace BK311 := Aside0.mk (bb BK311.out hb); replace BK312 := Aside0.mk (bb BK312.out hb); replace BK313 := Aside0.mk (bb BK313.out hb); replace BK314 := Aside0.mk (bb BK314.out hb); replace BK315 := Aside0.mk (bb BK315.out hb); replace BK342 := Aside0.mk (bb BK342.out hb); replace HB := Aside0.mk (below_step bl hb)
   (try clear hb)
   (try clear hb2)
   (try clear hk)
   (try clear hi)
   (try clear ho0)
   obtain ⟨Ao191, co191, eo191⟩ := Kd.V_slice HO358.out
   (first | subst eo191 | (injection eo191 with f1_ f2_ f3_; have f4_ := f1_.symm; have f5_ := f3_.symm; clear f1_ f2_ f3_; subst f4_; subst f5_))
   refine hK.out _ _ ⟨(blk_cell BK342.out 0).trans rfl, (blk_cell BK342.out 1).trans rfl⟩ (fun hHeld => ?_)
   clear hK K
   refine norm_ (a' := ?_) ?_ ?_
   rotate_left; focus (show Act.put _ (some 73) _ = _; simp only [Act.put, z1, z2, z3, i64_w, i32_w]; rfl)
   refine one_ (i := 2) (N := some 74) #[true,true,true,false] rfl rfl (by kernel_rfl) (by decide) (fun K hK => ?_)
   refine goes_ Try.func47 (by kernel_rfl) rfl #[.agg #[.bool t338, .slice Ao100 t339.length co100], .agg #[.bool t355, .slice Ao191 t356.length co191]] (by rfl) rfl rfl (by (try simp only [List.map_toArray, List.map_cons, List.map_nil]); first | done | rfl | (simp only [List.length_drop, List.length_take]; rfl)) ?_
   with_reducible refine (maskref4_Dec_Minus.calls kj77 t338 _ _ t339 t355 _ _ t356 t359 t360 _ ?side1 ?side2 ?side3 ?side4 A165.out).mono ?_
   (case side1 => exact kc ((Kd.V_reads' HO_343001.out).2.2))
   (case side2 => exact (Kd.V_reads' HO_343001.out).2.1)
   (case side3 => exact kc ((Kd.V_reads' HO358.out).2.2))
   (case side4 => exact (Kd.V_reads' HO358.out).2.1)
   rintro e w192 ⟨v361, rfl, ho0, hb⟩
   refine ⟨_, rfl, ?_⟩
   replace HO_315001 := Aside0.mk (vb HO_315001.out hb); replace HO_343001 := Aside0.mk (vb HO_343001.out hb); replace HO346 := Aside0.mk (vb HO346.out hb); replace HO358 := Aside0.mk (vb HO358.out hb); have HO362 := Aside0.mk (Kd.V_lower (Kd.V_mono (ok' := fun k_ => (w.heap.size ≤ k_) ∧ k_ ≠ gb310 ∧ k_ ≠ gb311 ∧ k_ ≠ gb312 ∧ k_ ≠ gb313 ∧ k_ ≠ gb314 ∧ k_ ≠ gb315 ∧ k_ ≠ gb342) ho0 (fun k_ hk_ => ⟨(Nat.le_trans (below_size bl) hk_), (Kd.freshB (g := gb310) (o := .cells #[.bool a0_0, .slice A0_1 l0_1.length c0_1] 36 (0, 0)) (bk BK310.out) k_ hk_), (Kd.freshB (g := gb311) (o := .cells #[.bool false, .slice A1_1 l1_1.length c1_1] 36 (0, 0)) (bk BK311.out) k_ hk_), (Kd.freshB (g := gb312) (o := .cells #[.bool false, .slice none 0 0] 36 (0, 0)) (bk BK312.out) k_ hk_), (Kd.freshB (g := gb313) (o := .cells #[.bool false, .slice none 0 0] 36 (0, 0)) (bk BK313.out) k_ hk_), (Kd.freshB (g := gb314) (o := .cells #[.bool t343, .slice Ao182 t344.length co182] 36 (0, 0)) (bk BK314.out) k_ hk_), (Kd.freshB (g := gb315) (o := .cells #[.bool false, .slice A1_1 l1_1.length c1_1] 36 (0, 0)) (bk BK315.out) k_ hk_), (Kd.freshB (g := gb342) (o := .cells #[.bool t338, .slice Ao100 t339.length co100] 36 (0, 0)) (bk BK342.out) k_ hk_)⟩)) (below_size bl)); replace BK310 := Aside0.mk (bb BK310.out hb); replace BK311 := Aside0.mk (bb BK311.out hb); replace BK312 := Aside0.mk (bb BK312.out hb); replace BK313 := Aside0.mk (bb BK313.out hb); replace BK314 := Aside0.mk (bb BK314.out hb); replace BK315 := Aside0.mk (bb BK315.out hb); replace BK342 := Aside0.mk (bb BK342.out hb); replace HB := Aside0.mk (below_step bl hb)
   (try clear hb)
   (try clear hb2)
   (try clear hk)
   (try clear hi)
   (try clear ho0)
   obtain ⟨Ao194, co194, eo194⟩ := Kd.V_slice HO362.out
   (first | subst eo194 | (injection eo194 with f1_ f2_ f3_; have f4_ := f1_.symm; have f5_ := f3_.symm; clear f1_ f2_ f3_; subst f4_; subst f5_))
   refine hK.out _ _ ⟨(blk_cell BK342.out 0).trans rfl, (blk_cell BK342.out 1).trans rfl⟩ (fun hHeld => ?_)
   clear hK K
   refine norm_ (a' := ?_) ?_ ?_
   rotate_left; focus (show Act.put _ (some 74) _ = _; simp only [Act.put, z1, z2, z3, i64_w, i32_w]; rfl)
   refine last_ (i := 3) (N := none) #[true,true,true,true] rfl rfl (by kernel_rfl) (by decide) (fun K hK => ?_)
   have hfs193 := blk_frozen BK342.out 0
   have hfs195 := blk_frozen BK342.out 1
   refine skip_ (w1 := ?_) (by rfl) rfl ?_ ?_
   rotate_left; focus (go_simp; rfl)
   refine hK.out _ _ ?_
   clear hK K
   refine done_ (by kernel_rfl) ?_
   try go_wp2
   have n0_ : Aside0 (Kd.V (Kd.int .i64) 3 ((w192.setCell ⟨gb342, 0, none⟩ (.bool t359)).setCell ⟨gb342, 1, none⟩ (.slice Ao194 t360.length co194)) w.heap.size (fun k_ => (w.heap.size ≤ k_) ∧ k_ ≠ gb310 ∧ k_ ≠ gb311 ∧ k_ ≠ gb312 ∧ k_ ≠ gb313 ∧ k_ ≠ gb314 ∧ k_ ≠ gb315 ∧ k_ ≠ gb342) (.slice Ao179 x315001_1.length co179) x315001_1) := ⟨by (with_reducible repeat (first | apply Kd.V_alloc | apply Kd.V_drewN | apply Kd.V_drew)); exact Kd.V_mono (Kd.V_far (p := ⟨gb342, 1, none⟩) (Kd.V_far (p := ⟨gb342, 0, none⟩) (Kd.V_mono HO_315001.out (fun k_ hk => (⟨hk, hk.2.2.2.2.2.2.2⟩ : _ ∧ k_ ≠ gb342))) (fun _ hk => hk.2) (.bool t359)) (fun _ hk => hk.2) (.slice Ao194 t360.length co194)) (fun _ hk => ⟨hk.1.1, ⟨hk.1.2.1, ⟨hk.1.2.2.1, ⟨hk.1.2.2.2.1, ⟨hk.1.2.2.2.2.1, ⟨hk.1.2.2.2.2.2.1, ⟨hk.1.2.2.2.2.2.2.1, hk.1.2.2.2.2.2.2.2⟩⟩⟩⟩⟩⟩⟩)⟩
   have n1_ : Aside0 (Kd.V (Kd.int .i64) 3 ((w192.setCell ⟨gb342, 0, none⟩ (.bool t359)).setCell ⟨gb342, 1, none⟩ (.slice Ao194 t360.length co194)) w.heap.size (fun k_ => (w.heap.size ≤ k_) ∧ k_ ≠ gb310 ∧ k_ ≠ gb311 ∧ k_ ≠ gb312 ∧ k_ ≠ gb313 ∧ k_ ≠ gb314 ∧ k_ ≠ gb315 ∧ k_ ≠ gb342) (.slice Ao100 t339.length co100) t339) := ⟨by (with_reducible repeat (first | apply Kd.V_alloc | apply Kd.V_drewN | apply Kd.V_drew)); exact Kd.V_mono (Kd.V_far (p := ⟨gb342, 1, none⟩) (Kd.V_far (p := ⟨gb342, 0, none⟩) (Kd.V_mono HO_343001.out (fun k_ hk => (⟨hk, hk.2.2.2.2.2.2.2⟩ : _ ∧ k_ ≠ gb342))) (fun _ hk => hk.2) (.bool t359)) (fun _ hk => hk.2) (.slice Ao194 t360.length co194)) (fun _ hk => ⟨hk.1.1, ⟨hk.1.2.1, ⟨hk.1.2.2.1, ⟨hk.1.2.2.2.1, ⟨hk.1.2.2.2.2.1, ⟨hk.1.2.2.2.2.2.1, ⟨hk.1.2.2.2.2.2.2.1, hk.1.2.2.2.2.2.2.2⟩⟩⟩⟩⟩⟩⟩)⟩
   have n2_ : Aside0 (Kd.V (Kd.int .i64) 3 ((w192.setCell ⟨gb342, 0, none⟩ (.bool t359)).setCell ⟨gb342, 1, none⟩ (.slice Ao194 t360.length co194)) w.heap.size (fun k_ => (w.heap.size ≤ k_) ∧ k_ ≠ gb310 ∧ k_ ≠ gb311 ∧ k_ ≠ gb312 ∧ k_ ≠ gb313 ∧ k_ ≠ gb314 ∧ k_ ≠ gb315 ∧ k_ ≠ gb342) (.slice Ao182 t344.length co182) t344) := ⟨by (with_reducible repeat (first | apply Kd.V_alloc | apply Kd.V_drewN | apply Kd.V_drew)); exact Kd.V_mono (Kd.V_far (p := ⟨gb342, 1, none⟩) (Kd.V_far (p := ⟨gb342, 0, none⟩) (Kd.V_mono HO346.out (fun k_ hk => (⟨hk, hk.2.2.2.2.2.2.2⟩ : _ ∧ k_ ≠ gb342))) (fun _ hk => hk.2) (.bool t359)) (fun _ hk => hk.2) (.slice Ao194 t360.length co194)) (fun _ hk => ⟨hk.1.1, ⟨hk.1.2.1, ⟨hk.1.2.2.1, ⟨hk.1.2.2.2.1, ⟨hk.1.2.2.2.2.1, ⟨hk.1.2.2.2.2.2.1, ⟨hk.1.2.2.2.2.2.2.1, hk.1.2.2.2.2.2.2.2⟩⟩⟩⟩⟩⟩⟩)⟩
   have n3_ : Aside0 (Kd.V (Kd.int .i64) 3 ((w192.setCell ⟨gb342, 0, none⟩ (.bool t359)).setCell ⟨gb342, 1, none⟩ (.slice Ao194 t360.length co194)) w.heap.size (fun k_ => (w.heap.size ≤ k_) ∧ k_ ≠ gb310 ∧ k_ ≠ gb311 ∧ k_ ≠ gb312 ∧ k_ ≠ gb313 ∧ k_ ≠ gb314 ∧ k_ ≠ gb315 ∧ k_ ≠ gb342) (.slice Ao191 t356.length co191) t356) := ⟨by (with_reducible repeat (first | apply Kd.V_alloc | apply Kd.V_drewN | apply Kd.V_drew)); exact Kd.V_mono (Kd.V_far (p := ⟨gb342, 1, none⟩) (Kd.V_far (p := ⟨gb342, 0, none⟩) (Kd.V_mono HO358.out (fun k_ hk => (⟨hk, hk.2.2.2.2.2.2.2⟩ : _ ∧ k_ ≠ gb342))) (fun _ hk => hk.2) (.bool t359)) (fun _ hk => hk.2) (.slice Ao194 t360.length co194)) (fun _ hk => ⟨hk.1.1, ⟨hk.1.2.1, ⟨hk.1.2.2.1, ⟨hk.1.2.2.2.1, ⟨hk.1.2.2.2.2.1, ⟨hk.1.2.2.2.2.2.1, ⟨hk.1.2.2.2.2.2.2.1, hk.1.2.2.2.2.2.2.2⟩⟩⟩⟩⟩⟩⟩)⟩
   have n4_ : Aside0 (Kd.V (Kd.int .i64) 3 ((w192.setCell ⟨gb342, 0, none⟩ (.bool t359)).setCell ⟨gb342, 1, none⟩ (.slice Ao194 t360.length co194)) w.heap.size (fun k_ => (w.heap.size ≤ k_) ∧ k_ ≠ gb310 ∧ k_ ≠ gb311 ∧ k_ ≠ gb312 ∧ k_ ≠ gb313 ∧ k_ ≠ gb314 ∧ k_ ≠ gb315 ∧ k_ ≠ gb342) (.slice Ao194 t360.length co194) t360) := ⟨by (with_reducible repeat (first | apply Kd.V_alloc | apply Kd.V_drewN | apply Kd.V_drew)); exact Kd.V_mono (Kd.V_far (p := ⟨gb342, 1, none⟩) (Kd.V_far (p := ⟨gb342, 0, none⟩) (Kd.V_mono HO362.out (fun k_ hk => (⟨hk, hk.2.2.2.2.2.2.2⟩ : _ ∧ k_ ≠ gb342))) (fun _ hk => hk.2) (.bool t359)) (fun _ hk => hk.2) (.slice Ao194 t360.length co194)) (fun _ hk => ⟨hk.1.1, ⟨hk.1.2.1, ⟨hk.1.2.2.1, ⟨hk.1.2.2.2.1, ⟨hk.1.2.2.2.2.1, ⟨hk.1.2.2.2.2.2.1, ⟨hk.1.2.2.2.2.2.2.1, hk.1.2.2.2.2.2.2.2⟩⟩⟩⟩⟩⟩⟩)⟩
   have n5_ : Aside0 (((w192.setCell ⟨gb342, 0, none⟩ (.bool t359)).setCell ⟨gb342, 1, none⟩ (.slice Ao194 t360.length co194)).heap[gb310]? = some (.cells #[.bool a0_0, .slice A0_1 l0_1.length c0_1] 36 (0, 0))) := ⟨bf BK310.out⟩
   have n6_ : Aside0 (((w192.setCell ⟨gb342, 0, none⟩ (.bool t359)).setCell ⟨gb342, 1, none⟩ (.slice Ao194 t360.length co194)).heap[gb311]? = some (.cells #[.bool false, .slice A1_1 l1_1.length c1_1] 36 (0, 0))) := ⟨bf BK311.out⟩
   have n7_ : Aside0 (((w192.setCell ⟨gb342, 0, none⟩ (.bool t359)).setCell ⟨gb342, 1, none⟩ (.slice Ao194 t360.length co194)).heap[gb312]? = some (.cells #[.bool false, .slice none 0 0] 36 (0, 0))) := ⟨bf BK312.out⟩
   have n8_ : Aside0 (((w192.setCell ⟨gb342, 0, none⟩ (.bool t359)).setCell ⟨gb342, 1, none⟩ (.slice Ao194 t360.length co194)).heap[gb313]? = some (.cells #[.bool false, .slice none 0 0] 36 (0, 0))) := ⟨bf BK313.out⟩
   have n9_ : Aside0 (((w192.setCell ⟨gb342, 0, none⟩ (.bool t359)).setCell ⟨gb342, 1, none⟩ (.slice Ao194 t360.length co194)).heap[gb314]? = some (.cells #[.bool t343, .slice Ao182 t344.length co182] 36 (0, 0))) := ⟨bf BK314.out⟩
   have n10_ : Aside0 (((w192.setCell ⟨gb342, 0, none⟩ (.bool t359)).setCell ⟨gb342, 1, none⟩ (.slice Ao194 t360.length co194)).heap[gb315]? = some (.cells #[.bool false, .slice A1_1 l1_1.length c1_1] 36 (0, 0))) := ⟨bf BK315.out⟩
   have n11_ : Aside0 (((w192.setCell ⟨gb342, 0, none⟩ (.bool t359)).setCell ⟨gb342, 1, none⟩ (.slice Ao194 t360.length co194)).heap[gb342]? = some (.cells #[.bool t359, .slice Ao194 t360.length co194] 36 (0, 0))) := ⟨by (with_reducible repeat (first | refine blk_drewN ?_ _ | refine blk_drew ?_ | refine blk_alloc ?_ _)); refine blk_put (cs := #[.bool t359, .slice Ao100 t339.length co100]) ?_ 1 _ rfl; (with_reducible repeat (first | refine blk_drewN ?_ _ | refine blk_drew ?_ | refine blk_alloc ?_ _)); refine blk_put (cs := #[.bool t338, .slice Ao100 t339.length co100]) ?_ 0 _ rfl; (with_reducible repeat (first | refine blk_drewN ?_ _ | refine blk_drew ?_ | refine blk_alloc ?_ _)); exact BK342.out⟩
   have n12_ : Aside0 (Below w.heap.size w ((w192.setCell ⟨gb342, 0, none⟩ (.bool t359)).setCell ⟨gb342, 1, none⟩ (.slice Ao194 t360.length co194))) := ⟨bl⟩
   (try clear HO_315001)
   (try clear HO_343001)
   (try clear HO346)
   (try clear HO358)
   (try clear HO362)
   (try clear BK310)
   (try clear BK311)
   (try clear BK312)
   (try clear BK313)
   (try clear BK314)
   (try clear BK315)
   (try clear BK342)
   (try clear HB)
   generalize ((w192.setCell ⟨gb342, 0, none⟩ (.bool t359)).setCell ⟨gb342, 1, none⟩ (.slice Ao194 t360.length co194)) = w196 at n0_ n1_ n2_ n3_ n4_ n5_ n6_ n7_ n8_ n9_ n10_ n11_ n12_ ⊢
   have HO_315001 := n0_
   have HO_343001 := n1_
   have HO346 := n2_
   have HO358 := n3_
   have HO362 := n4_
   have BK310 := n5_
   have BK311 := n6_
   have BK312 := n7_
   have BK313 := n8_
   have BK314 := n9_
   have BK315 := n10_
   have BK342 := n11_
   have HB := n12_
   clear n0_ n1_ n2_ n3_ n4_ n5_ n6_ n7_ n8_ n9_ n10_ n11_ n12_
   replace HO_315001 := Aside0.mk (Kd.V_drew HO_315001.out); replace HO_343001 := Aside0.mk (Kd.V_drew HO_343001.out); replace HO346 := Aside0.mk (Kd.V_drew HO346.out); replace HO358 := Aside0.mk (Kd.V_drew HO358.out); replace HO362 := Aside0.mk (Kd.V_drew HO362.out); replace BK310 := Aside0.mk (blk_drew BK310.out); replace BK311 := Aside0.mk (blk_drew BK311.out); replace BK312 := Aside0.mk (blk_drew BK312.out); replace BK313 := Aside0.mk (blk_drew BK313.out); replace BK314 := Aside0.mk (blk_drew BK314.out); replace BK315 := Aside0.mk (blk_drew BK315.out); replace BK342 := Aside0.mk (blk_drew BK342.out); replace HB := Aside0.mk (below_drew1 HB.out)
   refine start_ (n := 4) (S := fun w' => w'.cell? ⟨gb342, 0, none⟩ = some (.bool t359) ∧ w'.cell? ⟨gb342, 1, none⟩ = some (.slice Ao194 t360.length co194) ∧ w'.cell? ⟨gb314, 0, none⟩ = some (.bool t343) ∧ w'.cell? ⟨gb314, 1, none⟩ = some (.slice Ao182 t344.length co182)) (ds := []) #[false,false,false,false] (by kernel_rfl) rfl rfl ⟨(blk_cell BK342.out 0).trans rfl, (blk_cell BK342.out 1).trans rfl, (blk_cell BK314.out 0).trans rfl, (blk_cell BK314.out 1).trans rfl⟩ (fun hHeld => ?_)
   generalize w196.drew = w197 at HO_315001 HO_343001 HO346 HO358 HO362 BK310 BK311 BK312 BK313 BK314 BK315 BK342 HB hHeld ⊢
   refine take_ (i := 0) (N := some 75) (v := ?_) (a' := ?_) #[true,false,false,false] rfl rfl (by kernel_rfl) (fun _ _ _ h => h) (Or.inl ⟨by rfl, ?_⟩) hHeld ?_ ?_
   rotate_left
   · rintro w' ⟨s0, s1, s2, s3⟩
     go_simp
     with_reducible rfl
   rotate_left; focus (simp only [Act.put, z1, z2, z3, i64_w, i32_w]; rfl)
   refine take_ (i := 1) (N := some 76) (v := ?_) (a' := ?_) #[true,true,false,false] rfl rfl (by kernel_rfl) (fun _ _ _ h => h) (Or.inl ⟨by rfl, ?_⟩) hHeld ?_ ?_
   rotate_left
   · rintro w' ⟨s0, s1, s2, s3⟩
     go_simp
     with_reducible rfl
   rotate_left; focus (simp only [Act.put, z1, z2, z3, i64_w, i32_w]; rfl)
   refine one_ (i := 2) (N := none) #[true,true,true,false] rfl rfl (by kernel_rfl) (by decide) (fun K hK => ?_)
   have hs198 : w197.cell? ⟨gb312, 0, none⟩ = some (.bool false) := (blk_cell BK312.out 0).trans rfl
   have hfs198 := blk_frozen BK312.out 0
   have hs199 : w197.cell? ⟨gb312, 1, none⟩ = some (.slice none 0 0) := (blk_cell BK312.out 1).trans rfl
   have hfs199 := blk_frozen BK312.out 1
   refine skip_ (w1 := ?_) (by rfl) rfl ?_ ?_
   rotate_left; focus (go_simp; rfl)
   refine hK.out _ _ ⟨((cell_far (p := ⟨gb312, _, none⟩) NB342_312.out _).trans (((cell_far (p := ⟨gb312, _, none⟩) NB342_312.out _).trans (hHeld.1)))), ((cell_far (p := ⟨gb312, _, none⟩) NB342_312.out _).trans (((cell_far (p := ⟨gb312, _, none⟩) NB342_312.out _).trans (hHeld.2.1)))), ((cell_far (p := ⟨gb312, _, none⟩) NB314_312.out _).trans (((cell_far (p := ⟨gb312, _, none⟩) NB314_312.out _).trans (hHeld.2.2.1)))), ((cell_far (p := ⟨gb312, _, none⟩) NB314_312.out _).trans (((cell_far (p := ⟨gb312, _, none⟩) NB314_312.out _).trans (hHeld.2.2.2))))⟩ (fun hHeld => ?_)
   clear hK K
   refine one_ (i := 3) (N := none) #[true,true,true,true] rfl rfl (by kernel_rfl) (by decide) (fun K hK => ?_)
   have hs200 : w197.cell? ⟨gb313, 0, none⟩ = some (.bool false) := (blk_cell BK313.out 0).trans rfl
   have hfs200 := blk_frozen BK313.out 0
   have hs201 : w197.cell? ⟨gb313, 1, none⟩ = some (.slice none 0 0) := (blk_cell BK313.out 1).trans rfl
   have hfs201 := blk_frozen BK313.out 1
   have hms201_2 := NB313_312.out
   have hms201_4 := NB313_314.out
   have hms201_5 := NB313_315.out
   have hms201_6 := NB313_342.out
   refine skip_ (w1 := ?_) (by rfl) rfl ?_ ?_
   rotate_left; focus (go_simp; rfl)
   refine hK.out _ _ ⟨((cell_far (p := ⟨gb313, _, none⟩) NB342_313.out _).trans (((cell_far (p := ⟨gb313, _, none⟩) NB342_313.out _).trans (hHeld.1)))), ((cell_far (p := ⟨gb313, _, none⟩) NB342_313.out _).trans (((cell_far (p := ⟨gb313, _, none⟩) NB342_313.out _).trans (hHeld.2.1)))), ((cell_far (p := ⟨gb313, _, none⟩) NB314_313.out _).trans (((cell_far (p := ⟨gb313, _, none⟩) NB314_313.out _).trans (hHeld.2.2.1)))), ((cell_far (p := ⟨gb313, _, none⟩) NB314_313.out _).trans (((cell_far (p := ⟨gb313, _, none⟩) NB314_313.out _).trans (hHeld.2.2.2))))⟩ (fun hHeld => ?_)
   clear hK K
   refine done_ (by kernel_rfl) ?_
   try go_wp2
   refine bodyPost_ret (results_cc rfl _ _ gb312 gb313 36 36 #[.bool t359, .slice Ao194 t360.length co194] #[.bool t343, .slice Ao182 t344.length co182] (0, 0) (0, 0) _ _ rfl (by (with_reducible repeat (first | refine blk_drewN ?_ _ | refine blk_drew ?_ | refine blk_alloc ?_ _)); refine blk_far ?_ NB312_313.out _; (with_reducible repeat (first | refine blk_drewN ?_ _ | refine blk_drew ?_ | refine blk_alloc ?_ _)); refine blk_far ?_ NB312_313.out _; (with_reducible repeat (first | refine blk_drewN ?_ _ | refine blk_drew ?_ | refine blk_alloc ?_ _)); refine blk_put (cs := #[.bool t359, .slice none 0 0]) ?_ 1 _ rfl; (with_reducible repeat (first | refine blk_drewN ?_ _ | refine blk_drew ?_ | refine blk_alloc ?_ _)); refine blk_put (cs := #[.bool false, .slice none 0 0]) ?_ 0 _ rfl; (with_reducible repeat (first | refine blk_drewN ?_ _ | refine blk_drew ?_ | refine blk_alloc ?_ _)); exact BK312.out) Try.underlying36 rfl (by kernel_rfl) rfl (by (with_reducible repeat (first | refine blk_drewN ?_ _ | refine blk_drew ?_ | refine blk_alloc ?_ _)); refine blk_put (cs := #[.bool t343, .slice none 0 0]) ?_ 1 _ rfl; (with_reducible repeat (first | refine blk_drewN ?_ _ | refine blk_drew ?_ | refine blk_alloc ?_ _)); refine blk_put (cs := #[.bool false, .slice none 0 0]) ?_ 0 _ rfl; (with_reducible repeat (first | refine blk_drewN ?_ _ | refine blk_drew ?_ | refine blk_alloc ?_ _)); refine blk_far ?_ NB313_312.out _; (with_reducible repeat (first | refine blk_drewN ?_ _ | refine blk_drew ?_ | refine blk_alloc ?_ _)); refine blk_far ?_ NB313_312.out _; (with_reducible repeat (first | refine blk_drewN ?_ _ | refine blk_drew ?_ | refine blk_alloc ?_ _)); exact BK313.out) Try.underlying36 rfl (by kernel_rfl)) rfl ?_
   exact ⟨_, _, by first | rfl | (simp [errW_none, errW_some] <;> rfl) | (simp [*, errW_none, errW_some] <;> rfl), by (with_reducible repeat (first | apply Kd.V_alloc | apply Kd.V_drewN | apply Kd.V_drew)); exact Kd.V_mono (Kd.V_far (p := ⟨gb313, 1, none⟩) (Kd.V_far (p := ⟨gb313, 0, none⟩) (Kd.V_far (p := ⟨gb312, 1, none⟩) (Kd.V_far (p := ⟨gb312, 0, none⟩) (Kd.V_mono (Kd.V_mono HO362.out (fun k_ hk => (⟨hk, hk.2.2.2.1⟩ : _ ∧ k_ ≠ gb312))) (fun k_ hk => (⟨hk, hk.1.2.2.2.2.1⟩ : _ ∧ k_ ≠ gb313))) (fun _ hk => hk.1.2) (.bool t359)) (fun _ hk => hk.1.2) (.slice Ao194 t360.length co194)) (fun _ hk => hk.2) (.bool t343)) (fun _ hk => hk.2) (.slice Ao182 t344.length co182)) (fun _ hk => hk.1.1.1), by (with_reducible repeat (first | apply Kd.V_alloc | apply Kd.V_drewN | apply Kd.V_drew)); exact Kd.V_mono (Kd.V_far (p := ⟨gb313, 1, none⟩) (Kd.V_far (p := ⟨gb313, 0, none⟩) (Kd.V_far (p := ⟨gb312, 1, none⟩) (Kd.V_far (p := ⟨gb312, 0, none⟩) (Kd.V_mono (Kd.V_mono HO346.out (fun k_ hk => (⟨hk, hk.2.2.2.1⟩ : _ ∧ k_ ≠ gb312))) (fun k_ hk => (⟨hk, hk.1.2.2.2.2.1⟩ : _ ∧ k_ ≠ gb313))) (fun _ hk => hk.1.2) (.bool t359)) (fun _ hk => hk.1.2) (.slice Ao194 t360.length co194)) (fun _ hk => hk.2) (.bool t343)) (fun _ hk => hk.2) (.slice Ao182 t344.length co182)) (fun _ hk => hk.1.1.1), bl⟩

end Go.Proofs.Ytlbljdjbcbgnlaa.PX
namespace Go.Proofs.Ytlbljdjbcbgnlaa.PX
open Go.RowKit Go.Proofs.YtlbljdjbcbgnlaaW.PrintWords Go.Proofs.YtlbljdjbcbgnlaaW.PrintLast Go.Proofs.YtlbljdjbcbgnlaaW.PrintMore
attribute [local go_sem] max2_int min2_int max_two min_two max_three min_three max_four min_four   -- for this text's walks alone
set_option linter.unusedVariables false
set_option linter.unusedSimpArgs false

-- the contract of function 33 ((maskwright/maskref4.Dec).BitsOf): written by hand
/-! ### maskref4_Dec_BitsOf: function 33 -/
def maskref4_Dec_BitsOf.l0 : Nat → Int → Bool → List Int → Bool → List Int → Option (Int)
 | 0, _, _, _, _, _ => none
 | k + 1, x3, x369000, x369001, x370000, x370001 => if (x370001.length : Int) > 0 then ((maskref4_Dec_Split.f k x370000 x370001 x369000 x369001).bind fun bt370 => (maskref4_Dec_BitsOf.l0 k (wrap64 (x3 + 1)) x369000 x369001 bt370.1 bt370.2.1)) else (some x3)
def maskref4_Dec_BitsOf.f (k : Nat) (a0_0 : Bool) (l0_1 : List Int) : Option (Int) := (maskref4_DecInt.f k 2).bind fun bt364 => (maskref4_Dec_BitsOf.l0 k 0 bt364.1 bt364.2 false l0_1)
theorem maskref4_Dec_BitsOf.mono_l : ∀ k, (∀ y0 y1 y2 y3 y4, LeO (maskref4_Dec_BitsOf.l0 k y0 y1 y2 y3 y4) (maskref4_Dec_BitsOf.l0 (k + 1) y0 y1 y2 y3 y4))
 | 0 => fun _ _ _ _ _ r h => by simp [maskref4_Dec_BitsOf.l0] at h
 | k + 1 => by
  have ih0 := maskref4_Dec_BitsOf.mono_l k
  · intro y0 y1 y2 y3 y4
    unfold maskref4_Dec_BitsOf.l0
    repeat' first
    | (with_reducible exact ih0 _ _ _ _ _)
    | (with_reducible exact maskref4_Dec_Split.mono _ _ _ _ _)
    | (with_reducible exact LeO.refl _)
    | (with_reducible exact LeO.none _)
    | (with_reducible refine LeO.ite ?_ ?_)
    | (with_reducible refine LeO.bind ?_ (fun _ => ?_))
theorem maskref4_Dec_BitsOf.mono : ∀ a0 a1 k, LeO (maskref4_Dec_BitsOf.f k a0 a1) (maskref4_Dec_BitsOf.f (k + 1) a0 a1) := by
 intro a0 a1 k
 have ih0 := maskref4_Dec_BitsOf.mono_l k
 unfold maskref4_Dec_BitsOf.f
 repeat' first
  | (with_reducible exact ih0 _ _ _ _ _)
  | (with_reducible exact maskref4_DecInt.mono _ _)
  | (with_reducible exact LeO.refl _)
  | (with_reducible exact LeO.none _)
  | (with_reducible refine LeO.ite ?_ ?_)
  | (with_reducible refine LeO.bind ?_ (fun _ => ?_))
set_option maxHeartbeats 8000000 in
set_option maxRecDepth 100000 in
theorem maskref4_Dec_BitsOf.calls (k : Nat) (a0_0 : Bool) (A0_1 : Option Addr) (c0_1 : Nat) (l0_1 : List Int) (r : Int) (w : World) (hr0_1 : Kd.C (Kd.int .i64) w A0_1 l0_1.length l0_1) (hc0_1 : l0_1.length ≤ c0_1) (h : maskref4_Dec_BitsOf.f k a0_0 l0_1 = some r) :
 Calls Try.prog 33 #[.agg #[.bool a0_0, .slice A0_1 l0_1.length c0_1]] w fun e w' => e = .returned (.int .i64 r) ∧ Below w.heap.size w w' := by
 unfold maskref4_Dec_BitsOf.f at h
 obtain ⟨⟨tn, tl⟩, h2, h⟩ := Option.bind_eq_some_iff.mp h
 have H := Aside0.mk (show maskref4_Dec_BitsOf.l0 k 0 tn tl false l0_1 = some r from h)
 clear h
 have HB := Aside0.mk (below_alloc (Below.refl w.heap.size w) (.cells #[.bool a0_0, .slice A0_1 l0_1.length c0_1] 36))
 have X0 := Aside0.mk (blk_new w (.cells #[.bool a0_0, .slice A0_1 l0_1.length c0_1] 36))
 have HV := Aside0.mk (Kd.V_alloc (Kd.V_mk (base := w.heap.size) (e := 3) hc0_1 (Kd.C_F (Kd.heap_int .i64) hr0_1)) (.cells #[.bool a0_0, .slice A0_1 l0_1.length c0_1] 36))
 clear hr0_1
 go_enter Try.func33, Try.ntmps33
 go_wp2_with fail
 refine (maskref4_DecInt.calls k 2 tn tl _ h2).mono ?_
 rintro e w1 ⟨v, rfl, hV, hw⟩
 obtain ⟨A2, c2, rfl⟩ := Kd.V_slice hV
 replace HB := Aside0.mk (below_step HB.out hw)
 replace X0 := Aside0.mk (blk_below X0.out hw)
 replace HV := Aside0.mk (Kd.V_below HV.out hw)
 have H2 := Aside0.mk (Kd.V_bound hV)
 have SZ := Aside0.mk (Nat.le_trans (show w.heap.size + 1 ≤ (w.alloc (.cells #[.bool a0_0, .slice A0_1 l0_1.length c0_1] 36)).heap.size by simp) hw.size)
 clear hV hw
 replace HB := Aside0.mk (below_alloc HB.out (.cells #[.bool tn, .slice A2 tl.length c2] 36))
 replace X0 := Aside0.mk (blk_alloc X0.out (.cells #[.bool tn, .slice A2 tl.length c2] 36))
 have X2 := Aside0.mk (blk_new w1 (.cells #[.bool tn, .slice A2 tl.length c2] 36))
 replace HV := Aside0.mk (Kd.V_alloc HV.out (.cells #[.bool tn, .slice A2 tl.length c2] 36))
 replace H2 := Aside0.mk (Kd.V_alloc H2.out (.cells #[.bool tn, .slice A2 tl.length c2] 36))
 have L2 := Aside0.mk (blk_lt X2.out)
 go_upto_region 3 with (fail)
 generalize w1.heap.size = g2 at *
 generalize w1.alloc (.cells #[.bool tn, .slice A2 tl.length c2] 36) = w2 at *
 have x0 : w2.cell? ⟨w.heap.size, 1, none⟩ = some (.slice A0_1 l0_1.length c0_1) := (blk_cell X0.out 1).trans rfl
 go_wp2_with fail
 clear x0
 replace HB := Aside0.mk (below_alloc HB.out (.cells #[.bool false, .slice A0_1 l0_1.length c0_1] 36))
 replace X2 := Aside0.mk (blk_alloc X2.out (.cells #[.bool false, .slice A0_1 l0_1.length c0_1] 36))
 have X5 := Aside0.mk (blk_new w2 (.cells #[.bool false, .slice A0_1 l0_1.length c0_1] 36))
 replace HV := Aside0.mk (Kd.V_mono (Kd.V_alloc (Kd.V_bound HV.out) (.cells #[.bool false, .slice A0_1 l0_1.length c0_1] 36)) (ok' := fun k => k ≠ w2.heap.size) (fun k hk => by have := hk.2; omega))
 replace H2 := Aside0.mk (Kd.V_mono (Kd.V_alloc H2.out (.cells #[.bool false, .slice A0_1 l0_1.length c0_1] 36)) (ok' := fun k => k < w2.heap.size) (fun k hk => by have := hk.2; have := L2.out; omega))
 have GE := Aside0.mk (show w.heap.size ≤ w2.heap.size by have := SZ.out; have := L2.out; omega)
 clear X0
 go_loopg [3, 5] k (fun kq v3 v5 W => ∃ (x3 : Int) (g : Nat) (A : Option Addr) (c : Nat) (xn : Bool) (xl : List Int), v3 = .int .i64 x3 ∧ v5 = .pointer (some ⟨g, 0, none⟩) ∧ Aside0 (maskref4_Dec_BitsOf.l0 kq x3 tn tl xn xl = some r) ∧ Aside0 (kq ≤ k) ∧ Aside0 (W.heap[g]? = some (.cells #[.bool xn, .slice A xl.length c] 36 (0, 0))) ∧ Aside0 (w2.heap.size ≤ g) ∧ Aside0 (Kd.V (Kd.int .i64) 3 W w.heap.size (fun k => k ≠ g) (.slice A xl.length c) xl) ∧ Aside0 (Kd.V (Kd.int .i64) 3 W w.heap.size (fun k => k < w2.heap.size) (.slice A2 tl.length c2) tl) ∧ Aside0 (W.heap[g2]? = some (.cells #[.bool tn, .slice A2 tl.length c2] 36 (0, 0))) ∧ Aside0 (Below w.heap.size w W))
 case atStart => exact ⟨0, w2.heap.size, A0_1, c0_1, false, l0_1, rfl, rfl, H, ⟨Nat.le_refl _⟩, X5, ⟨Nat.le_refl _⟩, HV, H2, X2, HB⟩
 clear HV H2 X2 X5 HB H
 obtain ⟨x3, g, A, c, xn, xl, rfl, rfl, HA, HK, X5, GG, HV, H2, X2, HB⟩ := hrel
 have p0 : wr.cell? ⟨g, 0, none⟩ = some (.bool xn) := (blk_cell X5.out 0).trans rfl
 have p1 : wr.cell? ⟨g, 1, none⟩ = some (.slice A xl.length c) := (blk_cell X5.out 1).trans rfl
 cases gk with
 | zero => exact absurd HA.out (by simp [maskref4_Dec_BitsOf.l0])
 | succ k1 =>
  have H := HA.out
  clear HA
  simp only [maskref4_Dec_BitsOf.l0] at H
  by_cases c1 : (xl.length : Int) > 0
  rotate_left
  · rw [if_neg c1] at H
    have d2 : decide (0 < xl.length) = false := decide_eq_false (by omega)
    obtain rfl := Option.some.inj H
    go_wp2
    go_ret
    exact ⟨rfl, HB.out⟩
  rw [if_pos c1] at H
  have d2 : decide (0 < xl.length) = true := decide_eq_true (by omega)
  obtain ⟨⟨q1, q2, q3, q4⟩, hq, H⟩ := Option.bind_eq_some_iff.mp H
  have H' := Aside0.mk (show maskref4_Dec_BitsOf.l0 k1 (wrap64 (x3 + 1)) tn tl q1 q2 = some r from H)
  have HQ0 := Aside0.mk hq
  clear H hq
  have m0 : wr.cell? ⟨g2, 0, none⟩ = some (.bool tn) := (blk_cell X2.out 0).trans rfl
  have m1 : wr.cell? ⟨g2, 1, none⟩ = some (.slice A2 tl.length c2) := (blk_cell X2.out 1).trans rfl
  have LG := Aside0.mk (blk_lt X5.out)
  go_wp2_with fail
  refine (maskref4_Dec_Split.calls k1 xn A c xl tn A2 c2 tl q1 q2 q3 q4 _ (Kd.V_reads' HV.out).2.2 (Kd.V_at HV.out).2.1 (Kd.V_reads' H2.out).2.2 (Kd.V_at H2.out).2.1 HQ0.out).mono ?_
  rintro e w5 ⟨v1, v3, rfl, hV1, hV3, hw⟩
  obtain ⟨A5, c5, rfl⟩ := Kd.V_slice hV1
  obtain ⟨A6, c6, rfl⟩ := Kd.V_slice hV3
  clear p0 p1 m0 m1 HV
  have HQ := Aside0.mk (Kd.V_mono hV1 (ok' := fun k => k ≠ g) (fun k hk => by have := LG.out; omega))
  replace X5 := Aside0.mk (blk_below X5.out hw)
  replace X2 := Aside0.mk (blk_below X2.out hw)
  replace H2 := Aside0.mk (Kd.V_below H2.out hw)
  replace HB := Aside0.mk (below_step HB.out hw)
  clear hV1 hV3 hw
  have p0 : w5.cell? ⟨g, 0, none⟩ = some (.bool xn) := (blk_cell X5.out 0).trans rfl
  have p1 : w5.cell? ⟨g, 1, none⟩ = some (.slice A xl.length c) := (blk_cell X5.out 1).trans rfl
  have y0 := blk_frozen X5.out 0
  have y1 := blk_frozen X5.out 1
  go_upto_region 7 with (fail)
  clear p0 p1 y0 y1
  have hge : w.heap.size ≤ g := Nat.le_trans GE.out GG.out
  have hne : g2 ≠ g := by have := L2.out; have := GG.out; omega
  replace HB := Aside0.mk (below_set (g := g) (j := 1) (v := .slice A5 q2.length c5) (below_set (g := g) (j := 0) (v := .bool q1) HB.out hge) hge)
  replace X5 := Aside0.mk (blk_put (cs := #[.bool q1, .slice A xl.length c]) (cs' := #[.bool q1, .slice A5 q2.length c5]) (blk_put (cs := #[.bool xn, .slice A xl.length c]) (cs' := #[.bool q1, .slice A xl.length c]) X5.out 0 _ rfl) 1 _ rfl)
  replace X2 := Aside0.mk (blk_far (blk_far X2.out (p := ⟨g, 0, none⟩) hne (.bool q1)) (p := ⟨g, 1, none⟩) hne (.slice A5 q2.length c5))
  replace H2 := Aside0.mk (outW H2.out (g := g) (fun k hk => by have := GG.out; omega) (.bool q1) (.slice A5 q2.length c5) (fun k hk => hk))
  replace HQ := Aside0.mk (outW HQ.out (g := g) (fun k hk => hk) (.bool q1) (.slice A5 q2.length c5) (fun k hk => hk))
  generalize (w5.setCell ⟨g, 0, none⟩ (.bool q1)).setCell ⟨g, 1, none⟩ (.slice A5 q2.length c5) = w6 at *
  have p0 : w6.cell? ⟨g, 0, none⟩ = some (.bool q1) := (blk_cell X5.out 0).trans rfl
  have p1 : w6.cell? ⟨g, 1, none⟩ = some (.slice A5 q2.length c5) := (blk_cell X5.out 1).trans rfl
  have LG6 := Aside0.mk (blk_lt X5.out)
  clear hge hne
  go_wp2
  go_roundg k1
  case measure => have := HK.out; omega
  case rel => exact ⟨wrap64 (x3 + 1), w6.heap.size, A5, c5, q1, q2, (by first | rfl | (simp; done) | (simp [*]; done)), rfl, H', ⟨by have := HK.out; omega⟩, ⟨blk_new w6 _⟩, ⟨by have := LG6.out; have := GG.out; omega⟩, ⟨Kd.V_mono (Kd.V_alloc (Kd.V_bound HQ.out) _) (fun k hk => by have := hk.2; omega)⟩, ⟨Kd.V_alloc H2.out _⟩, ⟨blk_alloc X2.out _⟩, ⟨below_alloc HB.out _⟩⟩

end Go.Proofs.Ytlbljdjbcbgnlaa.PX
