-- PRINTED by print.py (a twelfth state) out of the translation. Not trusted: Lean checks it.
import Derived.Test.YtlbljdjbcbgnlaaCmp
import Derived.Test.YtlbljdjbcbgnlaaPXx0
import Derived.Test.YtlbljdjbcbgnlaaShf
import Derived.Test.YtlbljdjbcbgnlaaPXx4
import Derived.Test.YtlbljdjbcbgnlaaPXx9
import Derived.Test.YtlbljdjbcbgnlaaPXx16
import Derived.Test.YtlbljdjbcbgnlaaPXx22
import Derived.Test.YtlbljdjbcbgnlaaPXx25
namespace Go.Proofs.Ytlbljdjbcbgnlaa.PX
open Go.RowKit Go.Proofs.YtlbljdjbcbgnlaaW.PrintWords Go.Proofs.YtlbljdjbcbgnlaaW.PrintLast Go.Proofs.YtlbljdjbcbgnlaaW.PrintMore
attribute [local go_sem] max2_int min2_int max_two min_two max_three min_three max_four min_four   -- for this text's walks alone
set_option linter.unusedVariables false
set_option linter.unusedSimpArgs false

-- the contract of function 70 (maskwright/exact.digits): written by hand
/-! ### exact_digits: function 70 -/
theorem w8_32 (x : Int) : IntKind.u8.wrap (IntKind.u32.wrap x) = x % 256 := by
 show (x % 4294967296) % 256 = x % 256
 omega
def exact_digits.f : Nat → Int → Option (ByteArray)
 | 0, _ => none
 | k + 1, a0 => if a0 < 10 then (some (strOfNums (([((48 + a0) % 4294967296) % 256] : List Int)))) else ((exact_digits.f k ((Int.tdiv a0 10) % 4294967296)).bind fun t299 => ((some (([((48 + (Int.tmod a0 10)) % 4294967296) % 256] : List Int) : List Int)).bind fun y300 => (if t299.size + (strOfNums y300).size ≤ 9223372036854775807 then (some (t299 ++ (strOfNums y300))) else (none))))
theorem exact_digits.mono_l : ∀ k, (∀ y0, LeO (exact_digits.f k y0) (exact_digits.f (k + 1) y0))
 | 0 => fun _ r h => by simp [exact_digits.f] at h
 | k + 1 => by
  have ih0 := exact_digits.mono_l k
  · intro y0
    unfold exact_digits.f
    repeat' first
    | (with_reducible exact ih0 _)
    | (with_reducible exact LeO.refl _)
    | (with_reducible exact LeO.none _)
    | (with_reducible refine LeO.ite ?_ ?_)
    | (with_reducible refine LeO.bind ?_ (fun _ => ?_))
theorem exact_digits.mono : ∀ a0 k, LeO (exact_digits.f k a0) (exact_digits.f (k + 1) a0) := by
 intro a0 k
 have ih0 := exact_digits.mono_l k
 exact ih0 a0
def exact_digits.T3 : Bool × List (List Nat × List Nat) := (true, [([], []), ([0], [0]), ([1], [1]), ([], []), ([3], [3]), ([4], [4]), ([5], [5]), ([6], [6]), ([7], [7]), ([2, 8], [2, 8]), ([9, 2, 0, 1, 2, 3, 4, 5, 6, 7, 8, 9], [9])])
def exact_digits.B3 : List Nat := [0, 1, 3, 0, 8, 24, 56, 120, 248, 511, 1023]
theorem exact_digits.tab3 : rtab .any (opsOf Try.f70 3) = exact_digits.T3 := by kernel_rfl
theorem exact_digits.bits3 : waitsOk exact_digits.T3.2 exact_digits.B3 = true := by kernel_rfl
set_option maxHeartbeats 8000000 in
set_option maxRecDepth 100000 in
theorem exact_digits.calls (k : Nat) : ∀ (a0 : Int) (r : ByteArray) (w : World) (h : exact_digits.f k a0 = some r),
 Calls Try.prog 70 #[.int .u32 a0] w fun e w' => e = .returned (.string r) ∧ Below w.heap.size w w' := by
 induction k using Nat.strongRecOn with
 | _ k ih =>
 intro a0 r w h
 cases k with
 | zero => exact absurd h (by simp [exact_digits.f])
 | succ k =>
 simp only [exact_digits.f] at h
 have HB := Aside0.mk (Below.refl w.heap.size w)
 have H : (if a0 < 10 then (some (strOfNums (([((48 + a0) % 4294967296) % 256] : List Int)))) else ((exact_digits.f k ((Int.tdiv a0 10) % 4294967296)).bind fun t299 => ((some (([((48 + (Int.tmod a0 10)) % 4294967296) % 256] : List Int) : List Int)).bind fun y300 => (if t299.size + (strOfNums y300).size ≤ 9223372036854775807 then (some (t299 ++ (strOfNums y300))) else (none))))) = some r := h
 clear h
 by_cases c2 : a0 < 10
 · rw [if_pos c2] at H
   have c2b0 : decide (a0 < 10) = true := decide_eq_true c2
   clear c2
   obtain ⟨y296, hy296⟩ : ∃ y_ : List Int, y_ = (([((48 + a0) % 4294967296) % 256] : List Int)) := ⟨_, rfl⟩
   replace H : (some (strOfNums y296)) = some r := by first | (rw [hy296]; with_reducible exact H) | (have H2_ := (Option.bind_some _ _).symm.trans H; rw [hy296]; with_reducible exact H2_) | (have H2_ := (Option.bind_some _ _).symm.trans H; with_reducible exact H2_) | with_reducible exact H | (rw [hy296]; exact H) | exact H
   have Ny296 := Aside0.mk hy296
   clear hy296
   obtain rfl := Option.some.inj H
   go_enter Try.func70, Try.ntmps70
   go_wp2_with ((with_reducible refine gate_dst (N := 8) rfl ?_); refine Kd.R_lit (Kd.int .u8) _ 5 ?hg (N := 8) ?hd (xs := ([((48 + a0) % 4294967296) % 256] : List Int)) (inner := [.int .u8 (((48 + a0) % 4294967296) % 256)]) (ok := fun _ => True) (okp := fun _ => True) ?hr ?hp (fun _ hk => hk) trivial (Below.refl _ _) (Nat.le_refl _) (by simp) ?_; (case hd => rfl); (case hg => rfl); (case hr => first | (go_simp; done) | (go_simp; rfl) | (go_simp; rw [w8_32]; done) | (go_simp; simp only [w8_32]; done)); (case hp => exact (Reps.one (show Kd.M (Kd.int .u8) _ _ _ (((48 + a0) % 4294967296) % 256) [.int .u8 (((48 + a0) % 4294967296) % 256)] from rfl) (Reps.none _ _))); intro v297 w3 ho4 hb hg_ hnew_; clear hg_ hnew_; (first | rw [← Ny296.out] at ho4 | (simp only [Int.reduceToNat] at ho4; rw [← Ny296.out] at ho4)); have HO298 := Aside0.mk (Kd.R_lower ho4 (below_size bl)); replace HB := Aside0.mk (below_step bl hb); clear hb ho4; have hcv5 := own_string (P := Try.prog) Try.underlying102 Try.underlying5 Try.underlying9 (Kd.own_of_R HO298.out))
   go_ret
   exact ⟨by first | rfl | (simp [errW_none, errW_some] <;> rfl) | (simp [*, errW_none, errW_some] <;> rfl), bl⟩
 rw [if_neg c2] at H
 have c2b0 : decide (a0 < 10) = false := decide_eq_false c2
 clear c2
 replace H := Option.bind_eq_some_iff.mp H
 obtain ⟨t299, A60, H⟩ := H
 replace H : ((some (([((48 + (Int.tmod a0 10)) % 4294967296) % 256] : List Int) : List Int)).bind fun y300 => (if t299.size + (strOfNums y300).size ≤ 9223372036854775807 then (some (t299 ++ (strOfNums y300))) else (none))) = some r := H
 have A6 := Aside0.mk A60
 clear A60
 obtain ⟨y300, hy300⟩ : ∃ y_ : List Int, y_ = (([((48 + (Int.tmod a0 10)) % 4294967296) % 256] : List Int)) := ⟨_, rfl⟩
 replace H : (if t299.size + (strOfNums y300).size ≤ 9223372036854775807 then (some (t299 ++ (strOfNums y300))) else (none)) = some r := by first | (rw [hy300]; with_reducible exact H) | (have H2_ := (Option.bind_some _ _).symm.trans H; rw [hy300]; with_reducible exact H2_) | (have H2_ := (Option.bind_some _ _).symm.trans H; with_reducible exact H2_) | with_reducible exact H | (rw [hy300]; exact H) | exact H
 have Ny300 := Aside0.mk hy300
 clear hy300
 by_cases c7 : t299.size + (strOfNums y300).size ≤ 9223372036854775807
 rotate_left
 · rw [if_neg c7] at H
   exact absurd H (by simp)
 rw [if_pos c7] at H
 try have c7b2 : (9223372036854775807 < t299.size + (strOfNums y300).size) = False := eq_false (Nat.not_lt.2 c7)
 obtain rfl := Option.some.inj H
 go_enter Try.func70, Try.ntmps70
 try go_wp2
 replace HB := Aside0.mk (below_drew1 HB.out)
 refine start_ (n := 11) (S := fun w' => True) (ds := []) #[false,false,false,false,false,false,false,false,false,false,false] (by kernel_rfl) rfl rfl trivial (fun hHeld => ?_); refine with_tabW exact_digits.tab3 exact_digits.bits3 (fun HT_ HW_ => ?_)
 generalize w.drew = w8 at HB hHeld ⊢
 refine pure_ (i := 0) (N := some 10) (v := ?_) (a' := ?_) #[true,false,false,false,false,false,false,false,false,false,false] rfl rfl (any_of HT_.out (by kernel_rfl)) (fun _ _ _ h => h) (Or.inl ⟨by rfl, ?_⟩) ?_ ?_
 rotate_left; focus (intro w'; go_simp; with_reducible rfl)
 rotate_left; focus (simp only [Act.put, List.setIfInBounds_toArray, List.set_cons_zero, List.set_cons_succ, i64_w, i32_w]; rfl)
 refine pure_ (i := 1) (N := some 11) (v := ?_) (a' := ?_) #[true,true,false,false,false,false,false,false,false,false,false] rfl rfl (any_of HT_.out (by kernel_rfl)) (fun _ _ _ h => h) (Or.inl ⟨by rfl, ?_⟩) ?_ ?_
 rotate_left; focus (intro w'; go_simp; with_reducible rfl)
 rotate_left; focus (simp only [Act.put, List.setIfInBounds_toArray, List.set_cons_zero, List.set_cons_succ, i64_w, i32_w]; rfl)
 refine pure_ (i := 3) (N := some 13) (v := ?_) (a' := ?_) #[true,true,false,true,false,false,false,false,false,false,false] rfl rfl (any_of HT_.out (by kernel_rfl)) (fun _ _ _ h => h) (Or.inl ⟨by rfl, ?_⟩) ?_ ?_
 rotate_left; focus (intro w'; go_simp; with_reducible rfl)
 rotate_left; focus (simp only [Act.put, List.setIfInBounds_toArray, List.set_cons_zero, List.set_cons_succ, i64_w, i32_w]; rfl)
 refine pure_ (i := 4) (N := some 14) (v := ?_) (a' := ?_) #[true,true,false,true,true,false,false,false,false,false,false] rfl rfl (any_of HT_.out (by kernel_rfl)) (fun _ _ _ h => h) (Or.inl ⟨by rfl, ?_⟩) ?_ ?_
 rotate_left; focus (intro w'; go_simp; with_reducible rfl)
 rotate_left; focus (simp only [Act.put, List.setIfInBounds_toArray, List.set_cons_zero, List.set_cons_succ, i64_w, i32_w]; rfl)
 refine pure_ (i := 5) (N := some 15) (v := ?_) (a' := ?_) #[true,true,false,true,true,true,false,false,false,false,false] rfl rfl (any_of HT_.out (by kernel_rfl)) (fun _ _ _ h => h) (Or.inl ⟨by rfl, ?_⟩) ?_ ?_
 rotate_left; focus (intro w'; go_simp; with_reducible rfl)
 rotate_left; focus (simp only [Act.put, List.setIfInBounds_toArray, List.set_cons_zero, List.set_cons_succ, i64_w, i32_w]; rfl)
 refine pure_ (i := 6) (N := some 16) (v := ?_) (a' := ?_) #[true,true,false,true,true,true,true,false,false,false,false] rfl rfl (any_of HT_.out (by kernel_rfl)) (fun _ _ _ h => h) (Or.inl ⟨by rfl, ?_⟩) ?_ ?_
 rotate_left; focus (intro w'; go_simp; with_reducible rfl)
 rotate_left; focus (simp only [Act.put, List.setIfInBounds_toArray, List.set_cons_zero, List.set_cons_succ, i64_w, i32_w]; rfl)
 refine join_ (σ := Value) 2 #[true,true,true,true,true,true,true,true,true,false,false] (fun s_ => [(12, .string t299), (17, s_), (18, .string (strOfNums y300))]) (fun s_ w' => (Kd.R (Kd.int .u8) 5 w' w.heap.size (fun _ => True) s_ y300) ∧ (Below w.heap.size w w')) ?_ ?_
 rotate_left
 · intro hCont
   refine two_ (i := 2) (j := 7) (Ni := some 12) (Nj := some 17) #[true,true,true,true,true,true,true,false,false,false,false] #[true,true,false,true,true,true,true,true,false,false,false] rfl rfl rfl rfl (two_of HT_.out (by kernel_rfl)) (by decide) (by decide) (fun K hK => ?_) (fun K hK => ?_)
   · skip
     refine goes_ Try.func70 (by kernel_rfl) rfl #[.int .u32 ((Int.tdiv a0 10) % 4294967296)] (by rfl) rfl rfl (by (try simp only [List.map_toArray, List.map_cons, List.map_nil]); first | done | rfl | (simp only [List.length_drop, List.length_take]; rfl)) ?_
     with_reducible refine (ih k (by omega) ((Int.tdiv a0 10) % 4294967296) t299 _ A6.out).mono ?_
     rintro e w9 ⟨rfl, hb⟩
     refine ⟨_, rfl, ?_⟩
     replace HB := Aside0.mk (below_step bl hb)
     (try clear hb)
     (try clear hb2)
     (try clear hk)
     (try clear hi)
     refine hK.out _ _ trivial (fun hHeld => ?_)
     clear hK K
     refine norm_ (a' := ?_) ?_ ?_
     rotate_left; focus (show Act.put _ (some 12) _ = _; simp only [Act.put, List.setIfInBounds_toArray, List.set_cons_zero, List.set_cons_succ, i64_w, i32_w]; rfl)
     refine one_ (i := 7) (N := some 17) #[true,true,true,true,true,true,true,true,false,false,false] rfl rfl (one_of HT_.out (by kernel_rfl)) (by decide) (fun K hK => ?_)
     refine Kd.R_lit_step (Kd.int .u8) _ 5 ?hg (N := 17) ?hd (xs := ([((48 + (Int.tmod a0 10)) % 4294967296) % 256] : List Int)) (inner := [.int .u8 (((48 + (Int.tmod a0 10)) % 4294967296) % 256)]) (ok := fun _ => True) (okp := fun _ => True) ?hr ?hp (fun _ hk => hk) trivial (Below.refl _ _) (Nat.le_refl _) (by simp) ?_; (case hd => rfl); (case hg => rfl); (case hr => first | (go_simp; done) | (go_simp; rfl) | (go_simp; rw [w8_32]; done) | (go_simp; simp only [w8_32]; done)); (case hp => exact (Reps.one (show Kd.M (Kd.int .u8) _ _ _ (((48 + (Int.tmod a0 10)) % 4294967296) % 256) [.int .u8 (((48 + (Int.tmod a0 10)) % 4294967296) % 256)] from rfl) (Reps.none _ _)))
     intro v301 w10 ho11 hb hg_ hnew_
     clear hg_ hnew_
     (first | rw [← Ny300.out] at ho11 | (simp only [Int.reduceToNat] at ho11; rw [← Ny300.out] at ho11))
     have HO302 := Aside0.mk (Kd.R_lower ho11 (below_size bl)); replace HB := Aside0.mk (below_step bl hb)
     clear hb ho11
     refine hK.out _ _ trivial (fun hHeld => ?_)
     clear hK K
     refine norm_ (a' := ?_) ?_ ?_
     rotate_left; focus (show Act.put _ (some 17) _ = _; simp only [Act.put, List.setIfInBounds_toArray, List.set_cons_zero, List.set_cons_succ, i64_w, i32_w]; rfl)
     refine one_ (i := 8) (N := some 18) #[true,true,true,true,true,true,true,true,true,false,false] rfl rfl (one_of HT_.out (by kernel_rfl)) (by decide) (fun K hK => ?_)
     have hcv12 := own_string (P := Try.prog) Try.underlying102 Try.underlying5 Try.underlying9 (Kd.own_of_R HO302.out)
     refine value_ (w1 := ?_) (v := ?_) (by rfl) rfl ?_ ?_
     rotate_left 2
     · go_simp
       constructor
       · rfl
       rfl
     clear hcv12
     refine hK.out _ _ trivial (fun hHeld => ?_)
     clear hK K
     refine norm_ (a' := ?_) ?_ ?_
     rotate_left; focus (show Act.put _ (some 18) _ = _; simp only [Act.put, List.setIfInBounds_toArray, List.set_cons_zero, List.set_cons_succ, i64_w, i32_w]; rfl)
     exact norm_ (by simp only [putAll, Act.put, List.setIfInBounds_toArray, List.set_cons_zero, List.set_cons_succ]) (hCont (v301) _ ⟨(by (with_reducible repeat (first | apply Kd.R_alloc | apply Kd.R_drewN | apply Kd.R_drew)); exact HO302.out), bl⟩)
   skip
   refine Kd.R_lit_step (Kd.int .u8) _ 5 ?hg (N := 17) ?hd (xs := ([((48 + (Int.tmod a0 10)) % 4294967296) % 256] : List Int)) (inner := [.int .u8 (((48 + (Int.tmod a0 10)) % 4294967296) % 256)]) (ok := fun _ => True) (okp := fun _ => True) ?hr ?hp (fun _ hk => hk) trivial (Below.refl _ _) (Nat.le_refl _) (by simp) ?_; (case hd => rfl); (case hg => rfl); (case hr => first | (go_simp; done) | (go_simp; rfl) | (go_simp; rw [w8_32]; done) | (go_simp; simp only [w8_32]; done)); (case hp => exact (Reps.one (show Kd.M (Kd.int .u8) _ _ _ (((48 + (Int.tmod a0 10)) % 4294967296) % 256) [.int .u8 (((48 + (Int.tmod a0 10)) % 4294967296) % 256)] from rfl) (Reps.none _ _)))
   intro v301 w9 ho10 hb hg_ hnew_
   clear hg_ hnew_
   (first | rw [← Ny300.out] at ho10 | (simp only [Int.reduceToNat] at ho10; rw [← Ny300.out] at ho10))
   have HO302 := Aside0.mk (Kd.R_lower ho10 (below_size bl)); replace HB := Aside0.mk (below_step bl hb)
   clear hb ho10
   refine hK.out _ _ trivial (fun hHeld => ?_)
   clear hK K
   refine norm_ (a' := ?_) ?_ ?_
   rotate_left; focus (show Act.put _ (some 17) _ = _; simp only [Act.put, List.setIfInBounds_toArray, List.set_cons_zero, List.set_cons_succ, i64_w, i32_w]; rfl)
   refine two_ (i := 2) (j := 8) (Ni := some 12) (Nj := some 18) #[true,true,true,true,true,true,true,true,false,false,false] #[true,true,false,true,true,true,true,true,true,false,false] rfl rfl rfl rfl (two_of HT_.out (by kernel_rfl)) (by decide) (by decide) (fun K hK => ?_) (fun K hK => ?_)
   · skip
     refine goes_ Try.func70 (by kernel_rfl) rfl #[.int .u32 ((Int.tdiv a0 10) % 4294967296)] (by rfl) rfl rfl (by (try simp only [List.map_toArray, List.map_cons, List.map_nil]); first | done | rfl | (simp only [List.length_drop, List.length_take]; rfl)) ?_
     with_reducible refine (ih k (by omega) ((Int.tdiv a0 10) % 4294967296) t299 _ A6.out).mono ?_
     rintro e w11 ⟨rfl, hb⟩
     refine ⟨_, rfl, ?_⟩
     replace HO302 := Aside0.mk (rb HO302.out hb); replace HB := Aside0.mk (below_step bl hb)
     (try clear hb)
     (try clear hb2)
     (try clear hk)
     (try clear hi)
     refine hK.out _ _ trivial (fun hHeld => ?_)
     clear hK K
     refine norm_ (a' := ?_) ?_ ?_
     rotate_left; focus (show Act.put _ (some 12) _ = _; simp only [Act.put, List.setIfInBounds_toArray, List.set_cons_zero, List.set_cons_succ, i64_w, i32_w]; rfl)
     refine one_ (i := 8) (N := some 18) #[true,true,true,true,true,true,true,true,true,false,false] rfl rfl (one_of HT_.out (by kernel_rfl)) (by decide) (fun K hK => ?_)
     have hcv12 := own_string (P := Try.prog) Try.underlying102 Try.underlying5 Try.underlying9 (Kd.own_of_R HO302.out)
     refine value_ (w1 := ?_) (v := ?_) (by rfl) rfl ?_ ?_
     rotate_left 2
     · go_simp
       constructor
       · rfl
       rfl
     clear hcv12
     refine hK.out _ _ trivial (fun hHeld => ?_)
     clear hK K
     refine norm_ (a' := ?_) ?_ ?_
     rotate_left; focus (show Act.put _ (some 18) _ = _; simp only [Act.put, List.setIfInBounds_toArray, List.set_cons_zero, List.set_cons_succ, i64_w, i32_w]; rfl)
     exact norm_ (by simp only [putAll, Act.put, List.setIfInBounds_toArray, List.set_cons_zero, List.set_cons_succ]) (hCont (v301) _ ⟨(by (with_reducible repeat (first | apply Kd.R_alloc | apply Kd.R_drewN | apply Kd.R_drew)); exact HO302.out), bl⟩)
   skip
   have hcv11 := own_string (P := Try.prog) Try.underlying102 Try.underlying5 Try.underlying9 (Kd.own_of_R HO302.out)
   refine value_ (w1 := ?_) (v := ?_) (by rfl) rfl ?_ ?_
   rotate_left 2
   · go_simp
     constructor
     · rfl
     rfl
   clear hcv11
   refine hK.out _ _ trivial (fun hHeld => ?_)
   clear hK K
   refine norm_ (a' := ?_) ?_ ?_
   rotate_left; focus (show Act.put _ (some 18) _ = _; simp only [Act.put, List.setIfInBounds_toArray, List.set_cons_zero, List.set_cons_succ, i64_w, i32_w]; rfl)
   refine one_ (i := 2) (N := some 12) #[true,true,true,true,true,true,true,true,true,false,false] rfl rfl (one_of HT_.out (by kernel_rfl)) (by decide) (fun K hK => ?_)
   refine goes_ Try.func70 (by kernel_rfl) rfl #[.int .u32 ((Int.tdiv a0 10) % 4294967296)] (by rfl) rfl rfl (by (try simp only [List.map_toArray, List.map_cons, List.map_nil]); first | done | rfl | (simp only [List.length_drop, List.length_take]; rfl)) ?_
   with_reducible refine (ih k (by omega) ((Int.tdiv a0 10) % 4294967296) t299 _ A6.out).mono ?_
   rintro e w12 ⟨rfl, hb⟩
   refine ⟨_, rfl, ?_⟩
   replace HO302 := Aside0.mk (rb HO302.out hb); replace HB := Aside0.mk (below_step bl hb)
   (try clear hb)
   (try clear hb2)
   (try clear hk)
   (try clear hi)
   refine hK.out _ _ trivial (fun hHeld => ?_)
   clear hK K
   refine norm_ (a' := ?_) ?_ ?_
   rotate_left; focus (show Act.put _ (some 12) _ = _; simp only [Act.put, List.setIfInBounds_toArray, List.set_cons_zero, List.set_cons_succ, i64_w, i32_w]; rfl)
   exact norm_ (by simp only [putAll, Act.put, List.setIfInBounds_toArray, List.set_cons_zero, List.set_cons_succ]) (hCont (v301) _ ⟨(by (with_reducible repeat (first | apply Kd.R_alloc | apply Kd.R_drewN | apply Kd.R_drew)); exact HO302.out), bl⟩)
 rintro v301 w13 ⟨h0_, h1_⟩
 have n0_ : Aside0 (Kd.R (Kd.int .u8) 5 w13 w.heap.size (fun _ => True) v301 y300) := ⟨h0_⟩
 have n1_ : Aside0 (Below w.heap.size w w13) := ⟨h1_⟩
 clear HB
 clear h0_ h1_
 have HB := n1_
 clear n0_ n1_
 refine norm_ (a' := ?_) ?_ ?_
 rotate_left
 · simp only [putAll, Act.put, List.setIfInBounds_toArray, List.set_cons_zero, List.set_cons_succ]
   rfl
 refine pure_ (i := 9) (N := some 19) (v := ?_) (a' := ?_) #[true,true,true,true,true,true,true,true,true,true,false] rfl rfl (any_of HT_.out (by kernel_rfl)) (fun _ _ _ h => h) (Or.inl ⟨by rfl, ?_⟩) ?_ ?_
 rotate_left; focus (intro w'; go_simp; with_reducible rfl)
 rotate_left; focus (simp only [Act.put, List.setIfInBounds_toArray, List.set_cons_zero, List.set_cons_succ, i64_w, i32_w]; rfl)
 refine pure_ (i := 10) (N := some 2) (v := ?_) (a' := ?_) #[true,true,true,true,true,true,true,true,true,true,true] rfl rfl (any_of HT_.out (by kernel_rfl)) (fun _ _ _ h => h) (Or.inl ⟨by rfl, ?_⟩) ?_ ?_
 rotate_left; focus (intro w'; go_simp; with_reducible rfl)
 rotate_left; focus (simp only [Act.put, List.setIfInBounds_toArray, List.set_cons_zero, List.set_cons_succ, i64_w, i32_w]; rfl)
 refine done_ (done_of HT_.out (by kernel_rfl)) ?_
 try go_wp2
 go_ret
 exact ⟨by first | rfl | (simp [errW_none, errW_some] <;> rfl) | (simp [*, errW_none, errW_some] <;> rfl), bl⟩


end Go.Proofs.Ytlbljdjbcbgnlaa.PX
namespace Go.Proofs.Ytlbljdjbcbgnlaa.PX
open Go.RowKit Go.Proofs.YtlbljdjbcbgnlaaW.PrintWords Go.Proofs.YtlbljdjbcbgnlaaW.PrintLast Go.Proofs.YtlbljdjbcbgnlaaW.PrintMore
attribute [local go_sem] max2_int min2_int max_two min_two max_three min_three max_four min_four   -- for this text's walks alone
set_option linter.unusedVariables false
set_option linter.unusedSimpArgs false

-- the contract of function 25 (maskwright/exact.Text): written by hand
/-! ### exact_Text: function 25 -/
-- IMPORT Derived.Test.YtlbljdjbcbgnlaaShf
theorem fldM (a : Bool) (A : Option Addr) (n c : Nat) (W : World) : (Instr.field 43 (.agg #[.bool a, .slice A n c]) 1).run Try.prog W = .ok (.slice A n c) W := by
 have hu := run_underlying Try.underlying43
 simp [Instr.field, hu, part, asAgg]
/-- The digits of the parts of nine: the highest part first, the others filled up with zeros. -/
def outF (k : Nat) : List Int → Option (List UInt8)
 | [] => some []
 | p :: hi => (outF k hi).bind fun h => (exact_digits.f k p).bind fun s => if s.size ≤ 9 then some (h ++ (if hi = [] then [] else List.replicate (9 - s.size) 48) ++ s.data.toList) else none
theorem outF_drop (k : Nat) : ∀ (ps : List Int) (o : List UInt8), outF k ps = some o → ∀ n, ∃ o', outF k (ps.drop n) = some o'
 | ps, o, h, 0 => ⟨o, by simpa using h⟩
 | [], o, h, n + 1 => ⟨[], by simp [outF]⟩
 | p :: hi, o, h, n + 1 => by
  simp only [outF] at h
  obtain ⟨o1, h1, _⟩ := Option.bind_eq_some_iff.mp h
  rw [List.drop_succ_cons]
  exact outF_drop k hi o1 h1 n
theorem outF_len (k : Nat) : ∀ (ps : List Int) (o : List UInt8), outF k ps = some o → o.length ≤ 9 * ps.length
 | [], o, h => by simp [outF] at h; subst h; simp
 | p :: hi, o, h => by
  simp only [outF] at h
  obtain ⟨o1, h1, h⟩ := Option.bind_eq_some_iff.mp h
  obtain ⟨s, h2, h⟩ := Option.bind_eq_some_iff.mp h
  have := outF_len k hi o1 h1
  by_cases c : s.size ≤ 9
  · rw [if_pos c] at h
    have h := Option.some.inj h
    subst h
    have hs : s.data.toList.length = s.size := rfl
    simp only [List.length_append, List.length_cons, hs]
    split
    · simp; omega
    · simp; omega
  · rw [if_neg c] at h; cases h
theorem drop_cons (ps : List Int) (i : Int) (h0 : 0 ≤ i) (h1 : i < ps.length) : ps.drop i.toNat = rd ps i :: ps.drop (i + 1).toNat := by
 have hl : i.toNat < ps.length := by omega
 rw [List.drop_eq_getElem_cons hl, show (i + 1).toNat = i.toNat + 1 by omega]
 congr 1
 unfold rd
 rw [List.getD_eq_getElem?_getD, List.getElem?_eq_getElem hl]
 rfl
theorem bldAt_below {T e : TypeId} {B b : Nat} {p : Value} {bs : List Value} {w w' : World} (h : Lib.BuilderAtF T e B b p bs w) (k : Below w.heap.size w w') : Lib.BuilderAtF T e B b p bs w' := by
 obtain ⟨hB, v, hb, hown, hne⟩ := h
 refine ⟨hB, v, blk_below hb k, hown.kept (row := none) ⟨k.os, k.tape, k.output, k.size, fun i hi _ => k.block i hi⟩ ?_, hne⟩
 cases hv : v.ownBlock <;> simp
theorem bld_below {T e : TypeId} {B b : Nat} {bs : List Value} {w w' : World} (h : Lib.IsBuilderF T e B b bs w) (k : Below w.heap.size w w') : Lib.IsBuilderF T e B b bs w' :=
 h.elim (fun x => .inl (bldAt_below x k)) (fun x => .inr (bldAt_below x k))
theorem bld_at {T e : TypeId} {B b : Nat} {l : List UInt8} {s : ByteArray} {w : World} {p : Value} (hp : p = .pointer (some ⟨b, 0, none⟩)) (h : Lib.BuilderAtF T e B b p (Lib.byteCells l ++ Lib.strCells s) w) : Lib.IsBuilderF T e B b (Lib.byteCells (l ++ s.data.toList)) w := by
 subst hp
 rw [Lib.strCells_eq, ← Lib.byteCells_append] at h
 exact Or.inr h
theorem bld_lt {T e : TypeId} {B b : Nat} {bs : List Value} {w : World} (h : Lib.IsBuilderF T e B b bs w) : b < w.heap.size := h.elim (fun x => x.lt) (fun x => x.lt)
theorem zer : ∀ n, n ≤ 9 → (((⟨#[48, 48, 48, 48, 48, 48, 48, 48, 48]⟩ : ByteArray).extract 0 n).data.toList = List.replicate n 48 ∧ ((⟨#[48, 48, 48, 48, 48, 48, 48, 48, 48]⟩ : ByteArray).extract 0 n).size ≤ 9) := by decide +kernel
def textF (neg : Bool) (o : List UInt8) : ByteArray := ⟨((if neg then [45] else []) ++ o).toArray⟩
def textP.l0 : Nat → List Int → List Int → Option (List Int)
 | 0, _, _ => none
 | k + 1, x3, x4 => if (x4.length : Int) > 0 then ((exact_divSmall.f k x4 1000000000).bind fun bt303 => (if x3.length < 35184372088832 then ((exact_made.f false bt303.1).bind fun bt310 => (textP.l0 k (x3 ++ [bt303.2]) bt310.2)) else (none))) else (some x3)
theorem textP.mono_l : ∀ k, (∀ y0 y1, LeO (textP.l0 k y0 y1) (textP.l0 (k + 1) y0 y1))
 | 0 => fun _ _ r h => by simp [textP.l0] at h
 | k + 1 => by
  have ih0 := textP.mono_l k
  · intro y0 y1
    unfold textP.l0
    repeat' first
    | (with_reducible exact ih0 _ _)
    | (with_reducible exact exact_divSmall.mono _ _ _)
    | (with_reducible exact LeO.refl _)
    | (with_reducible exact LeO.none _)
    | (with_reducible refine LeO.ite ?_ ?_)
    | (with_reducible refine LeO.bind ?_ (fun _ => ?_))
set_option maxHeartbeats 8000000 in
set_option maxRecDepth 100000 in
theorem textP.go (k : Nat) (a0_0 : Bool) (P0_1_ : Nat → Prop) (A0_1 : Option Addr) (c0_1 : Nat) (l0_1 : List Int) (r : List Int) (t302 : Int) (w : World) (hs0_1 : Kd.V (Kd.int .u32) 97 w w.heap.size (fun k_ => P0_1_ k_) (.slice A0_1 l0_1.length c0_1) l0_1) (hz : exact_Sign.f a0_0 l0_1 = some t302) (c3 : ¬ t302 = 0) (H : textP.l0 k ([] : List Int) l0_1 = some r) (hps : r.length ≤ 1099511627776) (o : List UInt8) (ho : outF k r = some o) :
 Calls Try.prog 25 #[.agg #[.bool a0_0, .slice A0_1 l0_1.length c0_1]] w fun e w' => e = .returned (.string (textF a0_0 o)) ∧ Below w.heap.size w w' := by
 have HO0_1 := Aside0.mk (show Kd.V (Kd.int .u32) 97 w w.heap.size (fun k_ => (P0_1_ k_ ∨ w.heap.size ≤ k_)) (.slice A0_1 l0_1.length c0_1) l0_1 from Kd.V_mono hs0_1 (fun k_ hk => .inl hk))
 have HB := Aside0.mk (Below.refl w.heap.size w)
 have A2 := Aside0.mk hz
 have PS := Aside0.mk hps
 have OO := Aside0.mk ho
 clear hz hps ho
 have c3b0 : (t302 == 0) = false := beq_eq_false_iff_ne.mpr c3
 have c3b1 : (t302 != 0) = true := bne_iff_ne.mpr c3
 have H' := Aside0.mk H
 clear H
 go_enter Try.func25, Try.ntmps25
 go_wp2_with (first | ((with_reducible refine gate_dst (N := 1) rfl ?_); refine box_event ?hg (N := 1) ?hd (cs := #[.bool a0_0, .slice A0_1 l0_1.length c0_1]) (t := 43) ?hr ?_; (case hd => rfl); (case hg => rfl); (case hr => first | (go_simp; done) | (go_simp; rfl)); intro gb301 hg w7 hbox hb; replace HO0_1 := Aside0.mk (Kd.V_below (Kd.V_elderB (vk HO0_1.out) gb301 (Nat.le_of_eq hg.symm)) hb); have BK301 := Aside0.mk (hbox); replace HB := Aside0.mk (below_step bl hb); clear hb hbox hg; obtain ⟨hcz8_0, hcz8_1, hfz8_0, hfz8_1⟩ := bz2 BK301.out) | ((with_reducible refine gate_callee (f := 23) rfl ?_); refine goesL_ (some 11) rfl rfl Try.func23 (by kernel_rfl) rfl #[.agg #[.bool a0_0, .slice A0_1 l0_1.length c0_1]] rfl (by (try simp only [List.map_toArray, List.map_cons, List.map_nil]); first | done | rfl | (simp only [List.length_drop, List.length_take]; rfl)) ?_; (with_reducible refine (exact_Sign.calls a0_0 _ _ l0_1 t302 _ ?side1 ?side2 A2.out).mono ?_); (case side1 => exact kc ((Kd.V_reads' HO0_1.out).2.2)); (case side2 => exact (Kd.V_reads' HO0_1.out).2.1); rintro e w9 ⟨rfl, hb⟩; refine ⟨_, rfl, ?_⟩; replace HO0_1 := Aside0.mk (vb HO0_1.out hb); replace BK301 := Aside0.mk (bb BK301.out hb); replace HB := Aside0.mk (below_step bl hb); (try clear hb); obtain ⟨hcz10_0, hcz10_1, hfz10_0, hfz10_1⟩ := bz2 BK301.out))
 go_loopg [3, 4] k (fun kq v3 v4 w' => ∃ (x3_1 : List Int) (x4_1 : List Int), Aside0 (textP.l0 kq x3_1 x4_1 = some r) ∧ Aside0 (kq ≤ k) ∧ Aside0 (Kd.R (Kd.int .u32) 97 w' w.heap.size (fun k_ => (w.heap.size ≤ k_)) v3 x3_1) ∧ Aside0 (Kd.V (Kd.int .u32) 97 w' w.heap.size (fun k_ => (P0_1_ k_ ∨ w.heap.size ≤ k_) ∧ some k_ ≠ (v3 : Value).ownBlock ∧ k_ ≠ gb301) v4 x4_1) ∧ Aside0 (Kd.V (Kd.int .u32) 97 w' w.heap.size (fun k_ => (P0_1_ k_ ∨ w.heap.size ≤ k_) ∧ some k_ ≠ (v3 : Value).ownBlock ∧ k_ ≠ gb301) (.slice A0_1 l0_1.length c0_1) l0_1) ∧ Aside0 (w'.heap[gb301]? = some (.cells #[.bool a0_0, (.slice A0_1 l0_1.length c0_1)] 43 (0, 0))) ∧ Aside0 (Below w.heap.size w w'))
 case atStart => exact ⟨(([] : List Int)), (l0_1), H', ⟨Nat.le_refl _⟩, ⟨by first | exact Kd.R_nil _ _ _ _ _ | exact Kd.N_nil _ _ _ _ _ | exact Kd.V_nil _ _ _ _ _ | exact Kd.Q_nil _ _ _ _ _ | exact Kd.S_nil _ _ _ _ _⟩, ⟨by (with_reducible repeat (first | apply Kd.V_alloc | apply Kd.V_drewN | apply Kd.V_drew)); exact Kd.V_mono HO0_1.out (fun _ hk => ⟨hk.1, ⟨(by simp [Value.ownBlock]), hk.2⟩⟩)⟩, ⟨by (with_reducible repeat (first | apply Kd.V_alloc | apply Kd.V_drewN | apply Kd.V_drew)); exact Kd.V_mono HO0_1.out (fun _ hk => ⟨hk.1, ⟨(by simp [Value.ownBlock]), hk.2⟩⟩)⟩, ⟨bk BK301.out⟩, ⟨bl⟩⟩
 clear H'
 clear c3 c3b0 c3b1 hcz10_0 hcz10_1 hcz8_0 hcz8_1 hfz10_0 hfz10_1 hfz8_0 hfz8_1
 obtain ⟨x3_1, x4_1, HA, HK1, HO_3, HO_4, HO_302001, BK301, HB⟩ := hrel
 cases gk with
 | zero => exact absurd HA.out (by simp [textP.l0])
 | succ k1 =>
  have H := HA.out
  clear HA
  simp only [textP.l0] at H
  by_cases c11 : (x4_1.length : Int) > 0
  · rw [if_pos c11] at H
    have c11b1 : decide (0 < x4_1.length) = true := decide_eq_true (by omega)
    clear c11
    replace H := Option.bind_eq_some_iff.mp H
    obtain ⟨⟨t303, t304⟩, A120, H⟩ := H
    replace H : (if x3_1.length < 35184372088832 then ((exact_made.f false t303).bind fun bt310 => (textP.l0 k1 (x3_1 ++ [t304]) bt310.2)) else (none)) = some r := H
    have A12 := Aside0.mk A120
    clear A120
    by_cases c13 : x3_1.length < 35184372088832
    rotate_left
    · rw [if_neg c13] at H
      exact absurd H (by simp)
    rw [if_pos c13] at H
    have LMc13 := Aside0.mk c13
    clear c13
    obtain ⟨y307, hy307⟩ : ∃ y_ : List Int, y_ = (x3_1 ++ [t304]) := ⟨_, rfl⟩
    replace H : ((exact_made.f false t303).bind fun bt310 => (textP.l0 k1 y307 bt310.2)) = some r := by first | (rw [hy307]; with_reducible exact H) | (have H2_ := (Option.bind_some _ _).symm.trans H; rw [hy307]; with_reducible exact H2_) | (have H2_ := (Option.bind_some _ _).symm.trans H; with_reducible exact H2_) | with_reducible exact H | (rw [hy307]; exact H) | exact H
    have Ny307 := Aside0.mk hy307
    clear hy307
    replace H := Option.bind_eq_some_iff.mp H
    obtain ⟨⟨t310, t311⟩, A140, H⟩ := H
    replace H : (textP.l0 k1 y307 t311) = some r := H
    have A14 := Aside0.mk A140
    clear A140
    have H' := Aside0.mk H
    clear H
    obtain ⟨Ao15, co15, eo15⟩ := Kd.V_slice HO_4.out
    subst eo15
    go_wp2_with (first | ((with_reducible refine gate_callee (f := 67) rfl ?_); refine goesL_ (some 20) rfl rfl Try.func67 (by kernel_rfl) rfl #[.slice Ao15 x4_1.length co15, .int .u32 1000000000] rfl (by (try simp only [List.map_toArray, List.map_cons, List.map_nil]); first | done | rfl | (simp only [List.length_drop, List.length_take]; rfl)) ?_; (with_reducible refine (exact_divSmall.calls k1 _ _ x4_1 1000000000 t303 t304 _ ?side1 ?side2 A12.out).mono ?_); (case side1 => exact kc ((Kd.V_reads' HO_4.out).2.2)); (case side2 => exact (Kd.V_reads' HO_4.out).2.1); rintro e w16 ⟨v305, rfl, ho0, hb⟩; refine ⟨_, rfl, ?_⟩; replace HO_4 := Aside0.mk (Kd.V_elder' (vk HO_4.out) (Kd.R_base ho0) hb); replace HO_302001 := Aside0.mk (Kd.V_elder' (vk HO_302001.out) (Kd.R_base ho0) hb); have HO306 := Aside0.mk (Kd.R_lower (Kd.R_new' (Kd.R_newM (M := fun k_ => (w.heap.size ≤ k_)) ho0 (below_size bl) (fun k_ h_ => h_)) (Kd.R_lt (by (with_reducible repeat (first | apply Kd.R_alloc | apply Kd.R_drewN | apply Kd.R_drew)); exact HO_3.out))) (below_size bl)); replace HO_3 := Aside0.mk (Kd.R_elder' (by (with_reducible repeat (first | apply Kd.R_alloc | apply Kd.R_drewN | apply Kd.R_drew)); exact HO_3.out) (Kd.R_base ho0) hb); replace BK301 := Aside0.mk (bb BK301.out hb); replace HB := Aside0.mk (below_step bl hb); (try clear hb); (try clear ho0)) | ((with_reducible refine gate_builtin (b := .append) (xs := #[.tmp 23, .tmp 25]) rfl ?_); at_builtin; refine Kd.R_append (Kd.int .u32) (w0 := w) w.heap.size rfl (.tmp 23) (.tmp 25) 41 97 (.int .u32 0) 4 rfl Try.underlying41 info97 rfl (by decide) (by omega) u3 x3_1 t304 [.int .u32 t304] (fun k_ => (w.heap.size ≤ k_) ∧ some k_ ≠ (v305 : Value).ownBlock) (fun _ => False) rfl rfl ?aP (fun _ hk => hk.elim) ?aF ?aO ?aB ?aS ?aL ?_; (case aP => exact rfl); (case aB => exact bl); (case aF => exact (fun k_ hk => ⟨(Nat.le_trans (below_size bl) hk), Kd.fresh' (Kd.R_lt (by (with_reducible repeat (first | apply Kd.R_alloc | apply Kd.R_drewN | apply Kd.R_drew)); exact HO306.out)) k_ hk⟩)); (case aO => exact (by (with_reducible repeat (first | apply Kd.R_alloc | apply Kd.R_drewN | apply Kd.R_drew)); exact HO_3.out)); (case aS => exact (below_size bl)); (case aL => have := LMc13.out; omega); intro v308 w17 ho hb hg hat; rw [← Ny307.out] at ho; replace HO_4 := Aside0.mk (Kd.V_afterv (ok := (fun k_ => (P0_1_ k_ ∨ w.heap.size ≤ k_) ∧ some k_ ≠ (v305 : Value).ownBlock ∧ k_ ≠ gb301)) (by (with_reducible repeat (first | apply Kd.V_alloc | apply Kd.V_drewN | apply Kd.V_drew)); exact Kd.V_mono HO_4.out (fun _ hk => ⟨⟨hk.1.1, ⟨hk.2, hk.1.2.2⟩⟩, hk.1.2.1⟩)) hg hat); replace HO_302001 := Aside0.mk (Kd.V_afterv (ok := (fun k_ => (P0_1_ k_ ∨ w.heap.size ≤ k_) ∧ some k_ ≠ (v305 : Value).ownBlock ∧ k_ ≠ gb301)) (by (with_reducible repeat (first | apply Kd.V_alloc | apply Kd.V_drewN | apply Kd.V_drew)); exact Kd.V_mono HO_302001.out (fun _ hk => ⟨⟨hk.1.1, ⟨hk.2, hk.1.2.2⟩⟩, hk.1.2.1⟩)) hg hat); replace BK301 := Aside0.mk (blk_grown (bk BK301.out) hg (Kd.R_ne HO_3.out BK301.out (by decide))); replace HO306 := Aside0.mk (Kd.R_after (ok := (fun k_ => (w.heap.size ≤ k_))) (by (with_reducible repeat (first | apply Kd.R_alloc | apply Kd.R_drewN | apply Kd.R_drew)); exact Kd.R_mono HO306.out (fun _ hk => ⟨hk.1.1, hk.2⟩)) hg hat); replace HB := Aside0.mk (hb); have HO309 := Aside0.mk (ho); clear HO_3; clear ho hb hg hat; obtain ⟨Ao18, co18, eo18⟩ := Kd.R_slice HO306.out; subst eo18) | ((with_reducible refine gate_callee (f := 68) rfl ?_); refine goesL_ (some 28) rfl rfl Try.func68 (by kernel_rfl) rfl #[.bool false, .slice Ao18 t303.length co18] rfl (by (try simp only [List.map_toArray, List.map_cons, List.map_nil]); first | done | rfl | (simp only [List.length_drop, List.length_take]; rfl)) ?_; (with_reducible refine (exact_made.calls false (fun k_ => some k_ = (.slice Ao18 t303.length co18 : Value).ownBlock) _ _ t303 t310 t311 _ ?side1 A14.out).mono ?_); (case side1 => exact Kd.R_V (Kd.R_tight rfl (Kd.R_types (HO306.out) BK301.out (by decide)))); rintro e w19 ⟨v312, rfl, ho0, hb⟩; refine ⟨_, rfl, ?_⟩; replace HO_4 := Aside0.mk (vb HO_4.out hb); replace HO_302001 := Aside0.mk (vb HO_302001.out hb); have HO313 := Aside0.mk (Kd.V_lower (Kd.V_mono (ok' := fun k_ => (P0_1_ k_ ∨ w.heap.size ≤ k_) ∧ some k_ ≠ (v308 : Value).ownBlock ∧ k_ ≠ gb301) ho0 (fun k_ hk_ => ⟨Or.elim hk_ (fun hs_ => (.inr (((Kd.R_types (HO306.out) BK301.out (by decide)).1 k_ hs_.symm).1.1))) (fun hn_ => (.inr (Nat.le_trans (below_size bl) hn_))), Or.elim hk_ (fun hs_ => ((Kd.R_types (HO306.out) BK301.out (by decide)).1 k_ hs_.symm).1.2) (fun hn_ => (Kd.fresh' (Kd.R_lt (by (with_reducible repeat (first | apply Kd.R_alloc | apply Kd.R_drewN | apply Kd.R_drew)); exact HO309.out)) k_ hn_)), Or.elim hk_ (fun hs_ => ((Kd.R_types (HO306.out) BK301.out (by decide)).1 k_ hs_.symm).2) (fun hn_ => (Kd.freshB (g := gb301) (o := .cells #[.bool a0_0, .slice A0_1 l0_1.length c0_1] 43 (0, 0)) (bk BK301.out) k_ hn_))⟩)) (below_size bl)); replace HO306 := Aside0.mk (rb HO306.out hb); replace HO309 := Aside0.mk (rb HO309.out hb); replace BK301 := Aside0.mk (bb BK301.out hb); replace HB := Aside0.mk (below_step bl hb); (try clear hb); (try clear ho0); (try (obtain ⟨Ax_, cx_, ex_⟩ := Kd.V_slice HO313.out; subst ex_; have hfd_ := fldM t310 Ax_ t311.length cx_))))
    go_roundg k1
    case measure => have := HK1.out; omega
    case rel => exact ⟨(y307), (t311), H', ⟨by have := HK1.out; omega⟩, ⟨by (with_reducible repeat (first | apply Kd.R_alloc | apply Kd.R_drewN | apply Kd.R_drew)); exact Kd.R_mono HO309.out (fun _ hk => hk.1)⟩, ⟨by (with_reducible repeat (first | apply Kd.V_alloc | apply Kd.V_drewN | apply Kd.V_drew)); exact HO313.out⟩, ⟨by (with_reducible repeat (first | apply Kd.V_alloc | apply Kd.V_drewN | apply Kd.V_drew)); exact Kd.V_mono HO_302001.out (fun _ hk => ⟨hk.1.1, ⟨hk.2, hk.1.2.2⟩⟩)⟩, ⟨bk BK301.out⟩, ⟨bl⟩⟩
  rw [if_neg c11] at H
  have c11b1 : decide (0 < x4_1.length) = false := decide_eq_false (by omega)
  clear c11
  obtain rfl := Option.some.inj H
  obtain ⟨Ao20, co20, eo20⟩ := Kd.V_slice HO_4.out
  subst eo20
  obtain ⟨Ap, cp, ep⟩ := Kd.R_slice HO_3.out
  subst ep
  have HP := Aside0.mk (Kd.R_reads' HO_3.out).2.2
  generalize wr = W0 at *
  have hzb : W0.cell? ⟨gb301, 0, none⟩ = some (.bool a0_0) := (blk_cell BK301.out 0).trans rfl
  have hbz : ∀ o : Obj, (W0.alloc o).cell? ⟨gb301, 0, none⟩ = some (.bool a0_0) := fun o => (blk_cell (blk_alloc BK301.out o) 0).trans rfl
  have hbz1 := hbz (.cells #[.pointer none, .slice none 0 0] 104)
  have HC0 := Aside0.mk (below_alloc (Below.refl W0.heap.size W0) (.cells #[.pointer none, .slice none 0 0] 104))
  have BD0 := Aside0.mk (Lib.IsBuilderF.of (Lib.fresh_isBuilder 104 5 W0))
  have LE := Aside0.mk (show w.heap.size ≤ W0.heap.size from HB.out.size)
  clear hbz
  have hps := PS.out
  have ew : IntKind.i64.wrap ((x3_1.length : Int) - 1) = (x3_1.length : Int) - 1 := by rw [i64_w, w64x (by omega) (by omega)]
  clear hps
  (try clear H')
  (try clear HA)
  (try clear HO_4 HO_302001)
  cases a0_0 with
  | false =>
   go_wp2_with fail
   go_loopw [8] (fun v W => ∃ i : Int, -1 ≤ i ∧ i < x3_1.length ∧ v = .int .i64 i ∧ Aside0 (Below W0.heap.size W0 W) ∧ ∃ o1, Aside0 (outF k (x3_1.drop (i + 1).toNat) = some o1) ∧ Aside0 (Lib.IsBuilderF 104 5 W0.heap.size W0.heap.size (Lib.byteCells (([] : List UInt8) ++ o1)) W)) (fun v _ => (intOf v + 1).toNat)
   case atStart => exact ⟨(x3_1.length : Int) - 1, by omega, by omega, rfl, HC0, [], ⟨by rw [List.drop_of_length_le (by omega)]; rfl⟩, BD0⟩
   clear HC0 BD0
   obtain ⟨i, h0, h1, rfl, HC, o1, HO1, BD⟩ := hrel
   by_cases c : 0 ≤ i
   rotate_left
   · have e1 : decide (i ≥ 0) = false := decide_eq_false c
     have ho : o1 = o := by
      have h := HO1.out
      rw [show (i + 1).toNat = 0 by omega, List.drop_zero, OO.out] at h
      exact (Option.some.inj h).symm
     subst ho
     go_wp2_with fail
     refine (Try.Builder_String_any_k W0.heap.size W0.heap.size _ _ BD.out HC.out.size).mono ?_
     rintro e w3 ⟨rfl, _, hw, _⟩
     have HF := Aside0.mk (HB.out.trans ((HC.out.trans hw).mono LE.out))
     clear hw
     go_wp2
     go_ret
     exact ⟨rfl, HF.out⟩
   have e1 : decide (i ≥ 0) = true := decide_eq_true c
   obtain ⟨o2, ho2⟩ := outF_drop k x3_1 o OO.out i.toNat
   rw [drop_cons x3_1 i c h1] at ho2
   simp only [outF, HO1.out, Option.bind_some] at ho2
   obtain ⟨s, hs, ho2⟩ := Option.bind_eq_some_iff.mp ho2
   by_cases s9 : s.size ≤ 9
   rotate_left
   · rw [if_neg s9] at ho2; cases ho2
   rw [if_pos s9] at ho2
   have HO2 := Aside0.mk (Option.some.inj ho2)
   have hl1 := Aside0.mk (outF_len k _ _ HO1.out)
   have hld : (x3_1.drop (i + 1).toNat).length ≤ x3_1.length := by simp
   obtain ⟨ad, ea, hx⟩ := Kd.at_int (Kd.C_below HP.out HC.out) i c h1
   cases ea
   have p : (0 ≤ i) = True := eq_true c
   have q : (i < (x3_1.length : Int)) = True := eq_true h1
   have LB := Aside0.mk (show (([] : List UInt8) ++ o1).length ≤ 10000000000000 from by have := hl1.out; have := PS.out; rw [List.length_append]; simp; omega)
   clear hl1 hld ho2
   go_wp2_with fail
   refine (exact_digits.calls k (rd x3_1 i) s _ hs).mono ?_
   rintro e w2 ⟨rfl, hb⟩
   replace HC := Aside0.mk (below_step HC.out hb)
   replace BD := Aside0.mk (bld_below BD.out hb)
   clear hb hx
   by_cases cl : i < (x3_1.length : Int) - 1
   rotate_left
   · have e3 : decide (i < (x3_1.length : Int) - 1) = false := decide_eq_false cl
     have ei : IntKind.i64.wrap (i - 1) = i - 1 := by have := PS.out; rw [i64_w, w64x (by omega) (by omega)]
     have hne : x3_1.drop (i + 1).toNat = [] := List.drop_of_length_le (by omega)
     rw [if_pos hne] at HO2
     go_wp2_with fail
     refine (Try.Builder_WriteString_k W0.heap.size W0.heap.size _ s _ BD.out (by rw [Lib.byteCells_length]; have := LB.out; omega) HC.out.size).mono ?_
     rintro e w4 ⟨rfl, hb, hw, _⟩
     replace HC := Aside0.mk (HC.out.trans hw)
     replace BD := Aside0.mk (bld_at rfl hb)
     clear hb hw
     go_wp2
     go_roundw
     case rel => exact ⟨i - 1, by omega, by omega, by go_num, HC, o2, ⟨by rw [show (i - 1 + 1).toNat = i.toNat by omega, drop_cons x3_1 i c h1]; simp only [outF, HO1.out, Option.bind_some, hs, if_pos s9, if_pos hne]; exact congrArg some HO2.out⟩, ⟨by rw [← HO2.out, List.append_nil, ← List.append_assoc]; exact BD.out⟩⟩
     case measure => simp [intOf]; omega
   have e3 : decide (i < (x3_1.length : Int) - 1) = true := decide_eq_true cl
   have en : IntKind.i64.wrap (9 - (s.size : Int)) = 9 - (s.size : Int) := by rw [i64_w, w64x (by omega) (by omega)]
   have n0 : (0 ≤ 9 - (s.size : Int)) = True := eq_true (by omega)
   have n9 : (9 - (s.size : Int) ≤ 9) = True := eq_true (by omega)
   have ei : IntKind.i64.wrap (i - 1) = i - 1 := by have := PS.out; rw [i64_w, w64x (by omega) (by omega)]
   have hz := Aside0.mk (zer (9 - s.size) (by omega))
   have hne : x3_1.drop (i + 1).toNat ≠ [] := fun e => by
    have := congrArg List.length e
    simp at this
    omega
   rw [if_neg hne] at HO2
   go_wp2_with fail
   refine (Try.Builder_WriteString_k W0.heap.size W0.heap.size _ ((⟨#[48, 48, 48, 48, 48, 48, 48, 48, 48]⟩ : ByteArray).extract 0 (9 - s.size)) _ BD.out (by rw [Lib.byteCells_length]; have := LB.out; have := hz.out.2; omega) HC.out.size).mono ?_
   rintro e w3 ⟨rfl, hb, hw, _⟩
   replace HC := Aside0.mk (HC.out.trans hw)
   replace BD := Aside0.mk (bld_at rfl hb)
   clear hb hw
   go_wp2_with fail
   refine (Try.Builder_WriteString_k W0.heap.size W0.heap.size _ s _ BD.out (by rw [Lib.byteCells_length, List.length_append, hz.out.1, List.length_replicate]; have := LB.out; omega) HC.out.size).mono ?_
   rintro e w4 ⟨rfl, hb, hw, _⟩
   replace HC := Aside0.mk (HC.out.trans hw)
   replace BD := Aside0.mk (bld_at rfl hb)
   clear hb hw
   go_wp2
   go_roundw
   case rel => exact ⟨i - 1, by omega, by omega, by go_num, HC, o2, ⟨by rw [show (i - 1 + 1).toNat = i.toNat by omega, drop_cons x3_1 i c h1]; simp only [outF, HO1.out, Option.bind_some, hs, if_pos s9, if_neg hne]; exact congrArg some HO2.out⟩, ⟨by have h := BD.out; rw [hz.out.1] at h; rw [← HO2.out, ← List.append_assoc, ← List.append_assoc]; exact h⟩⟩
   case measure => simp [intOf]; omega
  | true =>
   go_wp2_with fail
   refine (Try.Builder_WriteByte_k W0.heap.size W0.heap.size _ 45 _ BD0.out (by simp) (by simp)).mono ?_
   rintro e w1 ⟨rfl, hb1, hw1, _⟩
   have HC1 := Aside0.mk (HC0.out.trans hw1)
   have BD1 : Aside0 (Lib.IsBuilderF 104 5 W0.heap.size W0.heap.size (Lib.byteCells [45]) w1) := ⟨Or.inr hb1⟩
   clear hb1 hw1
   go_wp2_with fail
   go_loopw [8] (fun v W => ∃ i : Int, -1 ≤ i ∧ i < x3_1.length ∧ v = .int .i64 i ∧ Aside0 (Below W0.heap.size W0 W) ∧ ∃ o1, Aside0 (outF k (x3_1.drop (i + 1).toNat) = some o1) ∧ Aside0 (Lib.IsBuilderF 104 5 W0.heap.size W0.heap.size (Lib.byteCells (([45] : List UInt8) ++ o1)) W)) (fun v _ => (intOf v + 1).toNat)
   case atStart => exact ⟨(x3_1.length : Int) - 1, by omega, by omega, rfl, HC1, [], ⟨by rw [List.drop_of_length_le (by omega)]; rfl⟩, BD1⟩
   clear HC1 BD1
   obtain ⟨i, h0, h1, rfl, HC, o1, HO1, BD⟩ := hrel
   by_cases c : 0 ≤ i
   rotate_left
   · have e1 : decide (i ≥ 0) = false := decide_eq_false c
     have ho : o1 = o := by
      have h := HO1.out
      rw [show (i + 1).toNat = 0 by omega, List.drop_zero, OO.out] at h
      exact (Option.some.inj h).symm
     subst ho
     go_wp2_with fail
     refine (Try.Builder_String_any_k W0.heap.size W0.heap.size _ _ BD.out HC.out.size).mono ?_
     rintro e w3 ⟨rfl, _, hw, _⟩
     have HF := Aside0.mk (HB.out.trans ((HC.out.trans hw).mono LE.out))
     clear hw
     go_wp2
     go_ret
     exact ⟨rfl, HF.out⟩
   have e1 : decide (i ≥ 0) = true := decide_eq_true c
   obtain ⟨o2, ho2⟩ := outF_drop k x3_1 o OO.out i.toNat
   rw [drop_cons x3_1 i c h1] at ho2
   simp only [outF, HO1.out, Option.bind_some] at ho2
   obtain ⟨s, hs, ho2⟩ := Option.bind_eq_some_iff.mp ho2
   by_cases s9 : s.size ≤ 9
   rotate_left
   · rw [if_neg s9] at ho2; cases ho2
   rw [if_pos s9] at ho2
   have HO2 := Aside0.mk (Option.some.inj ho2)
   have hl1 := Aside0.mk (outF_len k _ _ HO1.out)
   have hld : (x3_1.drop (i + 1).toNat).length ≤ x3_1.length := by simp
   obtain ⟨ad, ea, hx⟩ := Kd.at_int (Kd.C_below HP.out HC.out) i c h1
   cases ea
   have p : (0 ≤ i) = True := eq_true c
   have q : (i < (x3_1.length : Int)) = True := eq_true h1
   have LB := Aside0.mk (show (([45] : List UInt8) ++ o1).length ≤ 10000000000000 from by have := hl1.out; have := PS.out; rw [List.length_append]; simp; omega)
   clear hl1 hld ho2
   go_wp2_with fail
   refine (exact_digits.calls k (rd x3_1 i) s _ hs).mono ?_
   rintro e w2 ⟨rfl, hb⟩
   replace HC := Aside0.mk (below_step HC.out hb)
   replace BD := Aside0.mk (bld_below BD.out hb)
   clear hb hx
   by_cases cl : i < (x3_1.length : Int) - 1
   rotate_left
   · have e3 : decide (i < (x3_1.length : Int) - 1) = false := decide_eq_false cl
     have ei : IntKind.i64.wrap (i - 1) = i - 1 := by have := PS.out; rw [i64_w, w64x (by omega) (by omega)]
     have hne : x3_1.drop (i + 1).toNat = [] := List.drop_of_length_le (by omega)
     rw [if_pos hne] at HO2
     go_wp2_with fail
     refine (Try.Builder_WriteString_k W0.heap.size W0.heap.size _ s _ BD.out (by rw [Lib.byteCells_length]; have := LB.out; omega) HC.out.size).mono ?_
     rintro e w4 ⟨rfl, hb, hw, _⟩
     replace HC := Aside0.mk (HC.out.trans hw)
     replace BD := Aside0.mk (bld_at rfl hb)
     clear hb hw
     go_wp2
     go_roundw
     case rel => exact ⟨i - 1, by omega, by omega, by go_num, HC, o2, ⟨by rw [show (i - 1 + 1).toNat = i.toNat by omega, drop_cons x3_1 i c h1]; simp only [outF, HO1.out, Option.bind_some, hs, if_pos s9, if_pos hne]; exact congrArg some HO2.out⟩, ⟨by rw [← HO2.out, List.append_nil, ← List.append_assoc]; exact BD.out⟩⟩
     case measure => simp [intOf]; omega
   have e3 : decide (i < (x3_1.length : Int) - 1) = true := decide_eq_true cl
   have en : IntKind.i64.wrap (9 - (s.size : Int)) = 9 - (s.size : Int) := by rw [i64_w, w64x (by omega) (by omega)]
   have n0 : (0 ≤ 9 - (s.size : Int)) = True := eq_true (by omega)
   have n9 : (9 - (s.size : Int) ≤ 9) = True := eq_true (by omega)
   have ei : IntKind.i64.wrap (i - 1) = i - 1 := by have := PS.out; rw [i64_w, w64x (by omega) (by omega)]
   have hz := Aside0.mk (zer (9 - s.size) (by omega))
   have hne : x3_1.drop (i + 1).toNat ≠ [] := fun e => by
    have := congrArg List.length e
    simp at this
    omega
   rw [if_neg hne] at HO2
   go_wp2_with fail
   refine (Try.Builder_WriteString_k W0.heap.size W0.heap.size _ ((⟨#[48, 48, 48, 48, 48, 48, 48, 48, 48]⟩ : ByteArray).extract 0 (9 - s.size)) _ BD.out (by rw [Lib.byteCells_length]; have := LB.out; have := hz.out.2; omega) HC.out.size).mono ?_
   rintro e w3 ⟨rfl, hb, hw, _⟩
   replace HC := Aside0.mk (HC.out.trans hw)
   replace BD := Aside0.mk (bld_at rfl hb)
   clear hb hw
   go_wp2_with fail
   refine (Try.Builder_WriteString_k W0.heap.size W0.heap.size _ s _ BD.out (by rw [Lib.byteCells_length, List.length_append, hz.out.1, List.length_replicate]; have := LB.out; omega) HC.out.size).mono ?_
   rintro e w4 ⟨rfl, hb, hw, _⟩
   replace HC := Aside0.mk (HC.out.trans hw)
   replace BD := Aside0.mk (bld_at rfl hb)
   clear hb hw
   go_wp2
   go_roundw
   case rel => exact ⟨i - 1, by omega, by omega, by go_num, HC, o2, ⟨by rw [show (i - 1 + 1).toNat = i.toNat by omega, drop_cons x3_1 i c h1]; simp only [outF, HO1.out, Option.bind_some, hs, if_pos s9, if_neg hne]; exact congrArg some HO2.out⟩, ⟨by have h := BD.out; rw [hz.out.1] at h; rw [← HO2.out, ← List.append_assoc, ← List.append_assoc]; exact h⟩⟩
   case measure => simp [intOf]; omega
theorem outF_mono (k : Nat) : ∀ ps : List Int, LeO (outF k ps) (outF (k + 1) ps)
 | [] => LeO.refl _
 | p :: hi => by
  unfold outF
  exact LeO.bind (outF_mono k hi) (fun h => LeO.bind (exact_digits.mono _ k) (fun s => LeO.refl _))
set_option maxHeartbeats 4000000 in
set_option maxRecDepth 100000 in
theorem textP.zero (a0_0 : Bool) (P0_1_ : Nat → Prop) (A0_1 : Option Addr) (c0_1 : Nat) (l0_1 : List Int) (w : World) (hs0_1 : Kd.V (Kd.int .u32) 97 w w.heap.size (fun k_ => P0_1_ k_) (.slice A0_1 l0_1.length c0_1) l0_1) (hz : exact_Sign.f a0_0 l0_1 = some 0) :
 Calls Try.prog 25 #[.agg #[.bool a0_0, .slice A0_1 l0_1.length c0_1]] w fun e w' => e = .returned (.string ⟨#[48]⟩) ∧ Below w.heap.size w w' := by
 have HB := Aside0.mk (below_alloc (Below.refl w.heap.size w) (.cells #[.bool a0_0, .slice A0_1 l0_1.length c0_1] 43))
 have HO := Aside0.mk (Kd.V_alloc hs0_1 (.cells #[.bool a0_0, .slice A0_1 l0_1.length c0_1] 43))
 have BX := blk_new w (.cells #[.bool a0_0, .slice A0_1 l0_1.length c0_1] 43)
 have x0 : (w.alloc (.cells #[.bool a0_0, .slice A0_1 l0_1.length c0_1] 43)).cell? ⟨w.heap.size, 0, none⟩ = some (.bool a0_0) := (blk_cell BX 0).trans rfl
 have x1 : (w.alloc (.cells #[.bool a0_0, .slice A0_1 l0_1.length c0_1] 43)).cell? ⟨w.heap.size, 1, none⟩ = some (.slice A0_1 l0_1.length c0_1) := (blk_cell BX 1).trans rfl
 clear hs0_1 BX
 go_enter Try.func25, Try.ntmps25
 go_wp2_with fail
 refine (exact_Sign.calls a0_0 A0_1 c0_1 l0_1 0 _ (Kd.V_reads' HO.out).2.2 (Kd.V_at HO.out).2.1 hz).mono ?_
 rintro e w1 ⟨rfl, hw⟩
 have HF := Aside0.mk (below_step HB.out hw)
 clear hw
 go_wp2
 go_ret
 exact ⟨rfl, HF.out⟩
def exact_Text.f (k : Nat) (a0_0 : Bool) (l0_1 : List Int) : Option ByteArray := (exact_Sign.f a0_0 l0_1).bind fun t => if t = 0 then some ⟨#[48]⟩ else (textP.l0 k ([] : List Int) l0_1).bind fun ps => if ps.length ≤ 1099511627776 then (outF k ps).bind fun o => some (textF a0_0 o) else none
theorem exact_Text.mono : ∀ a0 a1 k, LeO (exact_Text.f k a0 a1) (exact_Text.f (k + 1) a0 a1) := by
 intro a0 a1 k
 unfold exact_Text.f
 exact LeO.bind (LeO.refl _) (fun t => LeO.ite (LeO.refl _) (LeO.bind (textP.mono_l k _ _) (fun ps => LeO.ite (LeO.bind (outF_mono k ps) (fun o => LeO.refl _)) (LeO.refl _))))
theorem exact_Text.calls (k : Nat) (a0_0 : Bool) (P0_1_ : Nat → Prop) (A0_1 : Option Addr) (c0_1 : Nat) (l0_1 : List Int) (r : ByteArray) (w : World) (hs0_1 : Kd.V (Kd.int .u32) 97 w w.heap.size (fun k_ => P0_1_ k_) (.slice A0_1 l0_1.length c0_1) l0_1) (h : exact_Text.f k a0_0 l0_1 = some r) :
 Calls Try.prog 25 #[.agg #[.bool a0_0, .slice A0_1 l0_1.length c0_1]] w fun e w' => e = .returned (.string r) ∧ Below w.heap.size w w' := by
 unfold exact_Text.f at h
 obtain ⟨t, hz, h⟩ := Option.bind_eq_some_iff.mp h
 by_cases c : t = 0
 · subst c
   rw [if_pos rfl] at h
   obtain rfl := Option.some.inj h
   exact textP.zero a0_0 P0_1_ A0_1 c0_1 l0_1 w hs0_1 hz
 rw [if_neg c] at h
 obtain ⟨ps, h1, h⟩ := Option.bind_eq_some_iff.mp h
 by_cases hl : ps.length ≤ 1099511627776
 rotate_left
 · rw [if_neg hl] at h
   cases h
 rw [if_pos hl] at h
 obtain ⟨o, h2, h⟩ := Option.bind_eq_some_iff.mp h
 obtain rfl := Option.some.inj h
 exact textP.go k a0_0 P0_1_ A0_1 c0_1 l0_1 ps t w hs0_1 hz c h1 hl o h2

end Go.Proofs.Ytlbljdjbcbgnlaa.PX
namespace Go.Proofs.Ytlbljdjbcbgnlaa.PX
open Go.RowKit Go.Proofs.YtlbljdjbcbgnlaaW.PrintWords Go.Proofs.YtlbljdjbcbgnlaaW.PrintLast Go.Proofs.YtlbljdjbcbgnlaaW.PrintMore
attribute [local go_sem] max2_int min2_int max_two min_two max_three min_three max_four min_four   -- for this text's walks alone
set_option linter.unusedVariables false
set_option linter.unusedSimpArgs false

-- the contract of function 11 (maskwright/masklaw4.exacts): written by hand
/-! ### masklaw4_exacts: function 11 -/
theorem put4 {w : World} {g : Nat} {T : TypeId} {a b c d : Value} (h : w.heap[g]? = some (.cells #[a, b, c, d] T (0, 0))) (a' b' c' d' : Value) : ((((w.setCell ⟨g, 0, none⟩ a').setCell ⟨g, 1, none⟩ b').setCell ⟨g, 2, none⟩ c').setCell ⟨g, 3, none⟩ d').heap[g]? = some (.cells #[a', b', c', d'] T (0, 0)) :=
 blk_put (cs := #[a', b', c', d]) (blk_put (cs := #[a', b', c, d]) (blk_put (cs := #[a', b, c, d]) (blk_put (cs := #[a, b, c, d]) h 0 _ rfl) 1 _ rfl) 2 _ rfl) 3 _ rfl
theorem outV4 {W : World} {b g : Nat} {v : Value} {xs : List Int} {ok ok' : Nat → Prop} (h : Kd.V (Kd.int .u32) 97 W b ok v xs) (hok : ∀ k, ok k → k ≠ g) (x y z u : Value) (hok' : ∀ k, ok k → ok' k) : Kd.V (Kd.int .u32) 97 ((((W.setCell ⟨g, 0, none⟩ x).setCell ⟨g, 1, none⟩ y).setCell ⟨g, 2, none⟩ z).setCell ⟨g, 3, none⟩ u) b ok' v xs :=
 Kd.V_mono (Kd.V_far (Kd.V_far (Kd.V_far (Kd.V_far (p := ⟨g, 0, none⟩) h hok x) (p := ⟨g, 1, none⟩) hok y) (p := ⟨g, 2, none⟩) hok z) (p := ⟨g, 3, none⟩) hok u) hok'
theorem gcd_c : exact_Gcd.f 20 false [6] false [2] = some (false, [2]) := by decide +kernel
theorem split_c1 : exact_split.f 20 false [6] false [2] = some (false, [3], false, []) := by decide +kernel
theorem split_c2 : exact_split.f 20 false [2] false [2] = some (false, [1], false, []) := by decide +kernel
theorem bits_c1 : exact_Bits.f false [3] = some 2 := by decide +kernel
theorem bits_c2 : exact_Bits.f false [1] = some 1 := by decide +kernel
theorem sign_c : exact_Sign.f false [2] = some 1 := by decide +kernel
/-- What may be read of: not the call's own boxes. -/
def RO (P : Nat → Prop) (n k : Nat) : Prop := (P k ∨ n ≤ k) ∧ k ≠ n ∧ k ≠ n + 1 ∧ k ≠ n + 1 + 1
set_option maxHeartbeats 8000000 in
set_option maxRecDepth 100000 in
theorem reduced_c (P : Nat → Prop) (A0 : Option Addr) (c0 : Nat) (A1 : Option Addr) (c1 : Nat) (w : World) (h0 : Kd.V (Kd.int .u32) 97 w w.heap.size P (.slice A0 1 c0) [6]) (h1 : Kd.V (Kd.int .u32) 97 w w.heap.size P (.slice A1 1 c1) [2]) :
 Calls Try.prog 63 #[.agg #[.bool false, .slice A0 1 c0], .agg #[.bool false, .slice A1 1 c1]] w fun e w' => ∃ B0 d0 B1 d1, e = .returned (.tuple #[.agg #[.bool false, .slice B0 1 d0, .bool false, .slice B1 1 d1], .int .i64 0]) ∧ Kd.V (Kd.int .u32) 97 w' w.heap.size (fun k => P k ∨ w.heap.size ≤ k) (.slice B0 1 d0) [3] ∧ Kd.V (Kd.int .u32) 97 w' w.heap.size (fun k => P k ∨ w.heap.size ≤ k) (.slice B1 1 d1) [1] ∧ Below w.heap.size w w' := by
 have hu45 := Try.underlying45
 have HB := Aside0.mk (below_alloc (below_alloc (below_alloc (Below.refl w.heap.size w) (.cells #[.bool false, .slice A0 1 c0] 43)) (.cells #[.bool false, .slice A1 1 c1] 43)) (.cells #[.bool false, .slice none 0 0, .bool false, .slice none 0 0] 45))
 have X0 := Aside0.mk (blk_alloc (blk_alloc (blk_new w (.cells #[.bool false, .slice A0 1 c0] 43)) (.cells #[.bool false, .slice A1 1 c1] 43)) (.cells #[.bool false, .slice none 0 0, .bool false, .slice none 0 0] 45))
 have X1 := Aside0.mk (blk_alloc (Hnd.blk_new1 w (.cells #[.bool false, .slice A0 1 c0] 43) (.cells #[.bool false, .slice A1 1 c1] 43)) (.cells #[.bool false, .slice none 0 0, .bool false, .slice none 0 0] 45))
 have X2 := Aside0.mk (Hnd.blk_new2 w (.cells #[.bool false, .slice A0 1 c0] 43) (.cells #[.bool false, .slice A1 1 c1] 43) (.cells #[.bool false, .slice none 0 0, .bool false, .slice none 0 0] 45))
 have hk : ∀ k, ((P k ∧ k ≠ w.heap.size) ∧ k ≠ w.heap.size + 1) ∧ k ≠ w.heap.size + 1 + 1 → RO P w.heap.size k := fun k h => ⟨.inl h.1.1.1, h.1.1.2, h.1.2, h.2⟩
 have HN := Aside0.mk (Kd.V_alloc (Kd.V_alloc (Kd.V_alloc (Kd.V_mono (Kd.V_elderB (Kd.V_elderB (Kd.V_elderB h0 w.heap.size (by omega)) (w.heap.size + 1) (by omega)) (w.heap.size + 1 + 1) (by omega)) hk) (.cells #[.bool false, .slice A0 1 c0] 43)) (.cells #[.bool false, .slice A1 1 c1] 43)) (.cells #[.bool false, .slice none 0 0, .bool false, .slice none 0 0] 45))
 have HD := Aside0.mk (Kd.V_alloc (Kd.V_alloc (Kd.V_alloc (Kd.V_mono (Kd.V_elderB (Kd.V_elderB (Kd.V_elderB h1 w.heap.size (by omega)) (w.heap.size + 1) (by omega)) (w.heap.size + 1 + 1) (by omega)) hk) (.cells #[.bool false, .slice A0 1 c0] 43)) (.cells #[.bool false, .slice A1 1 c1] 43)) (.cells #[.bool false, .slice none 0 0, .bool false, .slice none 0 0] 45))
 have L2 := Aside0.mk (blk_lt X2.out)
 clear h0 h1 hk
 go_enter Try.func63, Try.ntmps63
 go_upto_region 1 with (fail)
 generalize ((w.alloc (.cells #[.bool false, .slice A0 1 c0] 43)).alloc (.cells #[.bool false, .slice A1 1 c1] 43)).alloc (.cells #[.bool false, .slice none 0 0, .bool false, .slice none 0 0] 45) = w0 at *
 have y0 : w0.cell? ⟨w.heap.size + 1, 0, none⟩ = some (.bool false) := (blk_cell X1.out 0).trans rfl
 have y1 : w0.cell? ⟨w.heap.size + 1, 1, none⟩ = some (.slice A1 1 c1) := (blk_cell X1.out 1).trans rfl
 go_wp2_with fail
 refine (exact_Sign.calls false A1 c1 [2] 1 _ (Kd.V_reads' HD.out).2.2 (Kd.V_at HD.out).2.1 sign_c).mono ?_
 rintro e w1 ⟨rfl, hw⟩
 clear y0 y1
 replace HB := Aside0.mk (below_step HB.out hw)
 replace X0 := Aside0.mk (blk_below X0.out hw)
 replace X1 := Aside0.mk (blk_below X1.out hw)
 replace X2 := Aside0.mk (blk_below X2.out hw)
 replace HN := Aside0.mk (Kd.V_below HN.out hw)
 replace HD := Aside0.mk (Kd.V_below HD.out hw)
 replace L2 := Aside0.mk (Nat.lt_of_lt_of_le L2.out hw.size)
 clear hw
 have x0 : w1.cell? ⟨w.heap.size, 0, none⟩ = some (.bool false) := (blk_cell X0.out 0).trans rfl
 have x1 : w1.cell? ⟨w.heap.size, 1, none⟩ = some (.slice A0 1 c0) := (blk_cell X0.out 1).trans rfl
 have y0 : w1.cell? ⟨w.heap.size + 1, 0, none⟩ = some (.bool false) := (blk_cell X1.out 0).trans rfl
 have y1 : w1.cell? ⟨w.heap.size + 1, 1, none⟩ = some (.slice A1 1 c1) := (blk_cell X1.out 1).trans rfl
 go_wp2_with fail
 refine (exact_Gcd.calls 20 false (RO P w.heap.size) A0 c0 [6] false (RO P w.heap.size) A1 c1 [2] false [2] _ HN.out HD.out gcd_c).mono ?_
 rintro e w2 ⟨v, rfl, hG, hw⟩
 clear x0 x1 y0 y1
 obtain ⟨Ag, cg, rfl⟩ := Kd.V_slice hG
 have HG := Aside0.mk (Kd.V_mono (ok' := RO P w.heap.size) hG (fun k hk => by
  rcases hk with (h | h) | h
  · exact h
  · exact h
  · have := L2.out
    exact ⟨.inr (by omega), by omega, by omega, by omega⟩))
 replace HB := Aside0.mk (below_step HB.out hw)
 replace X0 := Aside0.mk (blk_below X0.out hw)
 replace X1 := Aside0.mk (blk_below X1.out hw)
 replace X2 := Aside0.mk (blk_below X2.out hw)
 replace HN := Aside0.mk (Kd.V_below HN.out hw)
 replace HD := Aside0.mk (Kd.V_below HD.out hw)
 replace L2 := Aside0.mk (Nat.lt_of_lt_of_le L2.out hw.size)
 clear hG hw
 go_upto_region 4 with (fail)
 have X3 := Aside0.mk (blk_new w2 (.cells #[.bool false, .slice Ag 1 cg] 43))
 replace HB := Aside0.mk (below_alloc HB.out (.cells #[.bool false, .slice Ag 1 cg] 43))
 replace X0 := Aside0.mk (blk_alloc X0.out (.cells #[.bool false, .slice Ag 1 cg] 43))
 replace X1 := Aside0.mk (blk_alloc X1.out (.cells #[.bool false, .slice Ag 1 cg] 43))
 replace X2 := Aside0.mk (blk_alloc X2.out (.cells #[.bool false, .slice Ag 1 cg] 43))
 replace HN := Aside0.mk (Kd.V_alloc HN.out (.cells #[.bool false, .slice Ag 1 cg] 43))
 replace HD := Aside0.mk (Kd.V_alloc HD.out (.cells #[.bool false, .slice Ag 1 cg] 43))
 replace HG := Aside0.mk (Kd.V_alloc HG.out (.cells #[.bool false, .slice Ag 1 cg] 43))
 have L3 := Aside0.mk (blk_lt X3.out)
 generalize w2.heap.size = g3 at *
 generalize w2.alloc (.cells #[.bool false, .slice Ag 1 cg] 43) = w3 at *
 have L4 := Aside0.mk (show w.heap.size + 1 + 1 < w3.heap.size from by have := L2.out; have := L3.out; omega)
 have x0 : w3.cell? ⟨w.heap.size, 0, none⟩ = some (.bool false) := (blk_cell X0.out 0).trans rfl
 have x1 : w3.cell? ⟨w.heap.size, 1, none⟩ = some (.slice A0 1 c0) := (blk_cell X0.out 1).trans rfl
 have v0 : w3.cell? ⟨g3, 0, none⟩ = some (.bool false) := (blk_cell X3.out 0).trans rfl
 have v1 : w3.cell? ⟨g3, 1, none⟩ = some (.slice Ag 1 cg) := (blk_cell X3.out 1).trans rfl
 go_wp2_with fail
 refine (exact_split.calls 20 false (RO P w.heap.size) A0 c0 [6] false Ag cg [2] false [3] false [] _ HN.out (Kd.V_reads' HG.out).2.2 (Kd.V_at HG.out).2.1 split_c1).mono ?_
 rintro e w4 ⟨v, u, rfl, hQ, hR, hw⟩
 clear x0 x1 v0 v1
 obtain ⟨Aq0, cq0, rfl⟩ := Kd.V_slice hQ
 obtain ⟨Ar, cr, rfl⟩ := Kd.V_slice hR
 have HQ0 := Aside0.mk (Kd.V_mono (ok' := RO P w.heap.size) hQ (fun k hk => by
  rcases hk with h | h
  · exact h
  · have := L2.out; have := L3.out; have := L4.out
    exact ⟨.inr (by omega), by omega, by omega, by omega⟩))
 replace HB := Aside0.mk (below_step HB.out hw)
 replace X0 := Aside0.mk (blk_below X0.out hw)
 replace X1 := Aside0.mk (blk_below X1.out hw)
 replace X2 := Aside0.mk (blk_below X2.out hw)
 replace X3 := Aside0.mk (blk_below X3.out hw)
 replace HD := Aside0.mk (Kd.V_below HD.out hw)
 replace HG := Aside0.mk (Kd.V_below HG.out hw)
 replace L4 := Aside0.mk (Nat.lt_of_lt_of_le L4.out hw.size)
 replace L3 := Aside0.mk (Nat.lt_of_lt_of_le L3.out hw.size)
 clear hQ hR hw HN
 have x0 : w4.cell? ⟨w.heap.size, 0, none⟩ = some (.bool false) := (blk_cell X0.out 0).trans rfl
 have x1 : w4.cell? ⟨w.heap.size, 1, none⟩ = some (.slice A0 1 c0) := (blk_cell X0.out 1).trans rfl
 have y0 := blk_frozen X0.out 0
 have y1 := blk_frozen X0.out 1
 go_upto_region 5 with (fail)
 clear x0 x1 y0 y1
 replace HB := Aside0.mk (below_set (g := w.heap.size) (j := 1) (v := .slice Aq0 1 cq0) (below_set (g := w.heap.size) (j := 0) (v := .bool false) HB.out (Nat.le_refl _)) (Nat.le_refl _))
 replace X0 := Aside0.mk (blk_put (cs := #[.bool false, .slice A0 1 c0]) (cs' := #[.bool false, .slice Aq0 1 cq0]) (blk_put (cs := #[.bool false, .slice A0 1 c0]) (cs' := #[.bool false, .slice A0 1 c0]) X0.out 0 _ rfl) 1 _ rfl)
 replace X1 := Aside0.mk (blk_far (blk_far X1.out (p := ⟨w.heap.size, 0, none⟩) (show w.heap.size + 1 ≠ w.heap.size from by omega) (.bool false)) (p := ⟨w.heap.size, 1, none⟩) (show w.heap.size + 1 ≠ w.heap.size from by omega) (.slice Aq0 1 cq0))
 replace X2 := Aside0.mk (blk_far (blk_far X2.out (p := ⟨w.heap.size, 0, none⟩) (show w.heap.size + 1 + 1 ≠ w.heap.size from by omega) (.bool false)) (p := ⟨w.heap.size, 1, none⟩) (show w.heap.size + 1 + 1 ≠ w.heap.size from by omega) (.slice Aq0 1 cq0))
 replace X3 := Aside0.mk (blk_far (blk_far X3.out (p := ⟨w.heap.size, 0, none⟩) (show g3 ≠ w.heap.size from by have := L2.out; omega) (.bool false)) (p := ⟨w.heap.size, 1, none⟩) (show g3 ≠ w.heap.size from by have := L2.out; omega) (.slice Aq0 1 cq0))
 replace HD := Aside0.mk (outV HD.out (fun k hk => hk.2.1) (.bool false) (.slice Aq0 1 cq0) (fun k hk => hk))
 replace HG := Aside0.mk (outV HG.out (fun k hk => hk.2.1) (.bool false) (.slice Aq0 1 cq0) (fun k hk => hk))
 replace HQ0 := Aside0.mk (outV HQ0.out (fun k hk => hk.2.1) (.bool false) (.slice Aq0 1 cq0) (fun k hk => hk))
 generalize (w4.setCell ⟨w.heap.size, 0, none⟩ (.bool false)).setCell ⟨w.heap.size, 1, none⟩ (.slice Aq0 1 cq0) = w5 at *
 have L5 := Aside0.mk (show w.heap.size + 1 + 1 < w5.heap.size from blk_lt X2.out)
 have x0 : w5.cell? ⟨w.heap.size + 1, 0, none⟩ = some (.bool false) := (blk_cell X1.out 0).trans rfl
 have x1 : w5.cell? ⟨w.heap.size + 1, 1, none⟩ = some (.slice A1 1 c1) := (blk_cell X1.out 1).trans rfl
 have v0 : w5.cell? ⟨g3, 0, none⟩ = some (.bool false) := (blk_cell X3.out 0).trans rfl
 have v1 : w5.cell? ⟨g3, 1, none⟩ = some (.slice Ag 1 cg) := (blk_cell X3.out 1).trans rfl
 go_wp2_with fail
 refine (exact_split.calls 20 false (RO P w.heap.size) A1 c1 [2] false Ag cg [2] false [1] false [] _ HD.out (Kd.V_reads' HG.out).2.2 (Kd.V_at HG.out).2.1 split_c2).mono ?_
 rintro e w6 ⟨v, u, rfl, hQ, hR, hw⟩
 clear x0 x1 v0 v1
 obtain ⟨Aq1, cq1, rfl⟩ := Kd.V_slice hQ
 obtain ⟨Ar, cr, rfl⟩ := Kd.V_slice hR
 have HQ1 := Aside0.mk (Kd.V_mono (ok' := RO P w.heap.size) hQ (fun k hk => by
  rcases hk with h | h
  · exact h
  · have := L2.out; have := L3.out; have := L5.out
    exact ⟨.inr (by omega), by omega, by omega, by omega⟩))
 replace HB := Aside0.mk (below_step HB.out hw)
 replace X0 := Aside0.mk (blk_below X0.out hw)
 replace X1 := Aside0.mk (blk_below X1.out hw)
 replace X2 := Aside0.mk (blk_below X2.out hw)
 replace X3 := Aside0.mk (blk_below X3.out hw)
 replace HG := Aside0.mk (Kd.V_below HG.out hw)
 replace HQ0 := Aside0.mk (Kd.V_below HQ0.out hw)
 clear hQ hR hw HD
 have x0 : w6.cell? ⟨w.heap.size + 1, 0, none⟩ = some (.bool false) := (blk_cell X1.out 0).trans rfl
 have x1 : w6.cell? ⟨w.heap.size + 1, 1, none⟩ = some (.slice A1 1 c1) := (blk_cell X1.out 1).trans rfl
 have y0 := blk_frozen X1.out 0
 have y1 := blk_frozen X1.out 1
 go_upto_region 6 with (fail)
 clear x0 x1 y0 y1
 replace HB := Aside0.mk (below_set (g := w.heap.size + 1) (j := 1) (v := .slice Aq1 1 cq1) (below_set (g := w.heap.size + 1) (j := 0) (v := .bool false) HB.out (by omega)) (by omega))
 replace X1 := Aside0.mk (blk_put (cs := #[.bool false, .slice A1 1 c1]) (cs' := #[.bool false, .slice Aq1 1 cq1]) (blk_put (cs := #[.bool false, .slice A1 1 c1]) (cs' := #[.bool false, .slice A1 1 c1]) X1.out 0 _ rfl) 1 _ rfl)
 replace X0 := Aside0.mk (blk_far (blk_far X0.out (p := ⟨w.heap.size + 1, 0, none⟩) (show w.heap.size ≠ w.heap.size + 1 from by omega) (.bool false)) (p := ⟨w.heap.size + 1, 1, none⟩) (show w.heap.size ≠ w.heap.size + 1 from by omega) (.slice Aq1 1 cq1))
 replace X2 := Aside0.mk (blk_far (blk_far X2.out (p := ⟨w.heap.size + 1, 0, none⟩) (show w.heap.size + 1 + 1 ≠ w.heap.size + 1 from by omega) (.bool false)) (p := ⟨w.heap.size + 1, 1, none⟩) (show w.heap.size + 1 + 1 ≠ w.heap.size + 1 from by omega) (.slice Aq1 1 cq1))
 replace X3 := Aside0.mk (blk_far (blk_far X3.out (p := ⟨w.heap.size + 1, 0, none⟩) (show g3 ≠ w.heap.size + 1 from by have := L2.out; omega) (.bool false)) (p := ⟨w.heap.size + 1, 1, none⟩) (show g3 ≠ w.heap.size + 1 from by have := L2.out; omega) (.slice Aq1 1 cq1))
 replace HG := Aside0.mk (outV HG.out (fun k hk => hk.2.2.1) (.bool false) (.slice Aq1 1 cq1) (fun k hk => hk))
 replace HQ0 := Aside0.mk (outV HQ0.out (fun k hk => hk.2.2.1) (.bool false) (.slice Aq1 1 cq1) (fun k hk => hk))
 replace HQ1 := Aside0.mk (outV HQ1.out (fun k hk => hk.2.2.1) (.bool false) (.slice Aq1 1 cq1) (fun k hk => hk))
 generalize (w6.setCell ⟨w.heap.size + 1, 0, none⟩ (.bool false)).setCell ⟨w.heap.size + 1, 1, none⟩ (.slice Aq1 1 cq1) = w7 at *
 have x0 : w7.cell? ⟨w.heap.size, 0, none⟩ = some (.bool false) := (blk_cell X0.out 0).trans rfl
 have x1 : w7.cell? ⟨w.heap.size, 1, none⟩ = some (.slice Aq0 1 cq0) := (blk_cell X0.out 1).trans rfl
 go_wp2_with fail
 refine (exact_Bits.calls false Aq0 cq0 [3] 2 _ (Kd.V_reads' HQ0.out).2.2 (Kd.V_at HQ0.out).2.1 bits_c1).mono ?_
 rintro e w8 ⟨rfl, hw⟩
 clear x0 x1
 replace HB := Aside0.mk (below_step HB.out hw)
 replace X0 := Aside0.mk (blk_below X0.out hw)
 replace X1 := Aside0.mk (blk_below X1.out hw)
 replace X2 := Aside0.mk (blk_below X2.out hw)
 replace HQ0 := Aside0.mk (Kd.V_below HQ0.out hw)
 replace HQ1 := Aside0.mk (Kd.V_below HQ1.out hw)
 clear hw
 have x0 : w8.cell? ⟨w.heap.size + 1, 0, none⟩ = some (.bool false) := (blk_cell X1.out 0).trans rfl
 have x1 : w8.cell? ⟨w.heap.size + 1, 1, none⟩ = some (.slice Aq1 1 cq1) := (blk_cell X1.out 1).trans rfl
 go_wp2_with fail
 refine (exact_Bits.calls false Aq1 cq1 [1] 1 _ (Kd.V_reads' HQ1.out).2.2 (Kd.V_at HQ1.out).2.1 bits_c2).mono ?_
 rintro e w9 ⟨rfl, hw⟩
 clear x0 x1
 replace HB := Aside0.mk (below_step HB.out hw)
 replace X0 := Aside0.mk (blk_below X0.out hw)
 replace X1 := Aside0.mk (blk_below X1.out hw)
 replace X2 := Aside0.mk (blk_below X2.out hw)
 replace HQ0 := Aside0.mk (Kd.V_below HQ0.out hw)
 replace HQ1 := Aside0.mk (Kd.V_below HQ1.out hw)
 clear hw
 have x0 : w9.cell? ⟨w.heap.size, 0, none⟩ = some (.bool false) := (blk_cell X0.out 0).trans rfl
 have x1 : w9.cell? ⟨w.heap.size, 1, none⟩ = some (.slice Aq0 1 cq0) := (blk_cell X0.out 1).trans rfl
 have u0 : w9.cell? ⟨w.heap.size + 1, 0, none⟩ = some (.bool false) := (blk_cell X1.out 0).trans rfl
 have u1 : w9.cell? ⟨w.heap.size + 1, 1, none⟩ = some (.slice Aq1 1 cq1) := (blk_cell X1.out 1).trans rfl
 have y0 := blk_frozen X2.out 0
 have y1 := blk_frozen X2.out 1
 have y2 := blk_frozen X2.out 2
 have y3 := blk_frozen X2.out 3
 have z0 : w9.cell? ⟨w.heap.size + 1 + 1, 0, none⟩ = some (.bool false) := (blk_cell X2.out 0).trans rfl
 have z1 : w9.cell? ⟨w.heap.size + 1 + 1, 1, none⟩ = some (.slice none 0 0) := (blk_cell X2.out 1).trans rfl
 have z2 : w9.cell? ⟨w.heap.size + 1 + 1, 2, none⟩ = some (.bool false) := (blk_cell X2.out 2).trans rfl
 have z3 : w9.cell? ⟨w.heap.size + 1 + 1, 3, none⟩ = some (.slice none 0 0) := (blk_cell X2.out 3).trans rfl
 go_wp2
 refine bodyPost_ret (results_ct rfl _ _ (w.heap.size + 1 + 1) 45 #[.bool false, .slice Aq0 1 cq0, .bool false, .slice Aq1 1 cq1] (0, 0) _ rfl (put4 X2.out _ _ _ _) hu45 rfl (by kernel_rfl)) rfl ?_
 exact ⟨Aq0, cq0, Aq1, cq1, rfl, outV4 HQ0.out (fun k hk => hk.2.2.2) _ _ _ _ (fun k hk => hk.1), outV4 HQ1.out (fun k hk => hk.2.2.2) _ _ _ _ (fun k hk => hk.1), below_set (below_set (below_set (below_set HB.out (by omega)) (by omega)) (by omega)) (by omega)⟩
theorem of_c1 : exact_Of.f 1 = some (false, [1]) := by decide +kernel
theorem of_c2 : exact_Of.f 2 = some (false, [2]) := by decide +kernel
theorem of_c6 : exact_Of.f 6 = some (false, [6]) := by decide +kernel
theorem inf43 : (Try.prog.info? 43).map (fun i => (i.zero, i.size, i.bytes)) = some (some (.agg #[.bool false, .slice none 0 0]), 2, 32) := by kernel_rfl
theorem inf93 : (Try.prog.info? 93).map (fun i => (i.zero, i.size, i.bytes)) = some (some (.slice none 0 0), 1, 24) := by kernel_rfl
set_option maxHeartbeats 8000000 in
set_option maxRecDepth 100000 in
theorem begin_c (ga gr gm gb : Nat) (w : World) (h1 : w.heap[ga]? = some (.cells #[.slice (some ⟨gr, 0, none⟩) 1 1] 23 (0, 0))) (h2 : w.heap[gr]? = some (.cells #[.int .i64 2] 2 (0, 0))) (h3 : w.heap[gm]? = some (.cells #[.slice (some ⟨gb, 0, none⟩) 1 1] 23 (0, 0))) (h4 : w.heap[gb]? = some (.cells #[.int .i64 6] 2 (0, 0))) :
 Calls Try.prog 61 #[.slice (some ⟨ga, 0, none⟩) 1 1, .slice (some ⟨gm, 0, none⟩) 1 1] w fun e w' => ∃ gt gR cR gL cL A1 c1 A2 c2 A6 c6, e = .returned (.pointer (some ⟨gt, 0, none⟩)) ∧ w.heap.size ≤ gt ∧ w'.heap[gt]? = some (.cells #[.slice (some ⟨gR, 0, none⟩) 1 cR, .bool false, .slice A1 1 c1, .bool false, .int .i64 0] 92 (0, 0)) ∧ Kd.V (Kd.raw 1) 93 w' w.heap.size (fun k => w.heap.size ≤ k ∧ k ≠ gt) (.slice (some ⟨gR, 0, none⟩) 1 cR) [[.slice (some ⟨gL, 0, none⟩) 2 cL]] ∧ Kd.V (Kd.raw 2) 43 w' w.heap.size (fun k => w.heap.size ≤ k ∧ k ≠ gt) (.slice (some ⟨gL, 0, none⟩) 2 cL) [[.bool false, .slice A2 1 c2], [.bool false, .slice A6 1 c6]] ∧ Kd.V (Kd.int .u32) 97 w' w.heap.size (fun k => w.heap.size ≤ k ∧ k ≠ gt) (.slice A1 1 c1) [1] ∧ Kd.V (Kd.int .u32) 97 w' w.heap.size (fun k => w.heap.size ≤ k ∧ k ≠ gt) (.slice A2 1 c2) [2] ∧ Kd.V (Kd.int .u32) 97 w' w.heap.size (fun k => w.heap.size ≤ k ∧ k ≠ gt) (.slice A6 1 c6) [6] ∧ Below w.heap.size w w' := by
 have H1 := Aside0.mk h1
 have H2 := Aside0.mk h2
 have H3 := Aside0.mk h3
 have H4 := Aside0.mk h4
 have HB := Aside0.mk (Below.refl w.heap.size w)
 clear h1 h2 h3 h4
 go_enter Try.func61, Try.ntmps61
 go_wp2_with fail
 refine (exact_Of.calls 1 false [1] _ of_c1).mono ?_
 rintro e w1 ⟨v, rfl, hV, hw⟩
 obtain ⟨A1, c1, rfl⟩ := Kd.V_slice hV
 replace H1 := Aside0.mk (blk_below H1.out hw)
 replace H2 := Aside0.mk (blk_below H2.out hw)
 replace H3 := Aside0.mk (blk_below H3.out hw)
 replace H4 := Aside0.mk (blk_below H4.out hw)
 have E1 := Aside0.mk (Kd.V_alloc (Kd.V_mono (Kd.V_elderB hV w1.heap.size (Nat.le_refl _)) (ok' := fun k => w.heap.size ≤ k ∧ k ≠ w1.heap.size) (fun k hk => hk)) (.cells #[.slice none 0 0, .bool false, .slice A1 1 c1, .bool false, .int .i64 0] 92))
 replace HB := Aside0.mk (below_alloc (below_step HB.out hw) (.cells #[.slice none 0 0, .bool false, .slice A1 1 c1, .bool false, .int .i64 0] 92))
 replace H1 := Aside0.mk (blk_alloc H1.out (.cells #[.slice none 0 0, .bool false, .slice A1 1 c1, .bool false, .int .i64 0] 92))
 replace H2 := Aside0.mk (blk_alloc H2.out (.cells #[.slice none 0 0, .bool false, .slice A1 1 c1, .bool false, .int .i64 0] 92))
 replace H3 := Aside0.mk (blk_alloc H3.out (.cells #[.slice none 0 0, .bool false, .slice A1 1 c1, .bool false, .int .i64 0] 92))
 replace H4 := Aside0.mk (blk_alloc H4.out (.cells #[.slice none 0 0, .bool false, .slice A1 1 c1, .bool false, .int .i64 0] 92))
 have T := Aside0.mk (blk_new w1 (.cells #[.slice none 0 0, .bool false, .slice A1 1 c1, .bool false, .int .i64 0] 92))
 have LT := Aside0.mk (show w.heap.size ≤ w1.heap.size from hw.size)
 have x1 := (blk_cell H1.out 0).trans rfl
 clear hV hw x1
 have x1 : (w1.alloc (.cells #[.slice none 0 0, .bool false, .slice A1 1 c1, .bool false, .int .i64 0] 92)).cell? ⟨ga, 0, none⟩ = some (.slice (some ⟨gr, 0, none⟩) 1 1) := (blk_cell H1.out 0).trans rfl
 have x2 : (w1.alloc (.cells #[.slice none 0 0, .bool false, .slice A1 1 c1, .bool false, .int .i64 0] 92)).cell? ⟨gr, 0, none⟩ = some (.int .i64 2) := (blk_cell H2.out 0).trans rfl
 go_wp2_with fail
 refine wp_loop_rounds 2 ?_
 rw [rounds_succ]
 go_wp2_with fail
 refine wp_loop_rounds 2 ?_
 rw [rounds_succ]
 go_wp2_with fail
 refine (exact_Of.calls 2 false [2] _ of_c2).mono ?_
 rintro e w2 ⟨v, rfl, hV, hw⟩
 clear x1 x2
 generalize w1.heap.size = gt at *
 generalize w1.alloc (.cells #[.slice none 0 0, .bool false, .slice A1 1 c1, .bool false, .int .i64 0] 92) = w1' at *
 obtain ⟨A2, c2, rfl⟩ := Kd.V_slice hV
 have GT := Aside0.mk (show gt < w1'.heap.size from blk_lt T.out)
 have E2 := Aside0.mk (Kd.V_mono hV (ok' := fun k => w.heap.size ≤ k ∧ k ≠ gt) (fun k hk => by have := GT.out; have := LT.out; omega))
 replace H1 := Aside0.mk (blk_below H1.out hw)
 replace H2 := Aside0.mk (blk_below H2.out hw)
 replace H3 := Aside0.mk (blk_below H3.out hw)
 replace H4 := Aside0.mk (blk_below H4.out hw)
 replace T := Aside0.mk (blk_below T.out hw)
 replace E1 := Aside0.mk (Kd.V_below E1.out hw)
 replace HB := Aside0.mk (below_step HB.out hw)
 have S2 := Aside0.mk (show gt < w2.heap.size from blk_lt T.out)
 clear hV hw
 have n0 := Kd.R_nil (Kd.raw 2) 43 w2 w.heap.size (fun k => w.heap.size ≤ k ∧ k ≠ gt)
 go_wp2_with (at_builtin; refine Kd.R_append (Kd.raw 2) (w0 := w) w.heap.size rfl (.tmp 29) (.tmp 32) 93 43 (.agg #[.bool false, .slice none 0 0]) 32 rfl Try.underlying93 inf43 rfl (by decide) (by decide) (.slice none 0 0) [] [.bool false, .slice A2 1 c2] [.bool false, .slice A2 1 c2] (fun k => w.heap.size ≤ k ∧ k ≠ gt) (fun _ => False) rfl rfl ⟨rfl, rfl, by simp [Value.oneCell']⟩ (fun _ h => h.elim) (fun k hk => by have := S2.out; have := HB.out.size; omega) n0 HB.out HB.out.size (by decide) ?_; intro vl w3 hR hb hg hat)
 replace HB := Aside0.mk hb
 replace E1 := Aside0.mk (Kd.V_mono E1.out (ok' := (fun k => (w.heap.size ≤ k ∧ k ≠ gt) ∧ some k ≠ (Value.slice none 0 0).ownBlock)) (fun k hk => ⟨hk, by simp [Value.ownBlock]⟩))
 replace E2 := Aside0.mk (Kd.V_mono E2.out (ok' := (fun k => (w.heap.size ≤ k ∧ k ≠ gt) ∧ some k ≠ (Value.slice none 0 0).ownBlock)) (fun k hk => ⟨hk, by simp [Value.ownBlock]⟩))
 replace H1 := Aside0.mk (blk_grown H1.out hg (by simp [Value.ownBlock]))
 replace H2 := Aside0.mk (blk_grown H2.out hg (by simp [Value.ownBlock]))
 replace H3 := Aside0.mk (blk_grown H3.out hg (by simp [Value.ownBlock]))
 replace H4 := Aside0.mk (blk_grown H4.out hg (by simp [Value.ownBlock]))
 replace T := Aside0.mk (blk_grown T.out hg (by simp [Value.ownBlock]))
 replace E1 := Aside0.mk (Kd.V_after E1.out hg hat)
 replace E2 := Aside0.mk (Kd.V_after E2.out hg hat)
 have R1 := Aside0.mk hR
 have S3 := Aside0.mk (show gt < w3.heap.size from blk_lt T.out)
 clear hb hg hR hat n0
 rw [rounds_succ]
 have x3 : w3.cell? ⟨gm, 0, none⟩ = some (.slice (some ⟨gb, 0, none⟩) 1 1) := (blk_cell H3.out 0).trans rfl
 have x4 : w3.cell? ⟨gb, 0, none⟩ = some (.int .i64 6) := (blk_cell H4.out 0).trans rfl
 go_wp2_with fail
 refine wp_loop_rounds 2 ?_
 rw [rounds_succ]
 go_wp2_with fail
 refine (exact_Of.calls 6 false [6] _ of_c6).mono ?_
 rintro e w4 ⟨v, rfl, hV, hw⟩
 clear x3 x4 H1 H2 H3 H4
 obtain ⟨A6, c6, rfl⟩ := Kd.V_slice hV
 have E6 := Aside0.mk (Kd.V_mono hV (ok' := (fun k => (w.heap.size ≤ k ∧ k ≠ gt) ∧ some k ≠ vl.ownBlock)) (fun k hk => ⟨by have := S3.out; have := HB.out.size; omega, fun he => by have := Kd.R_lt R1.out k he.symm; omega⟩))
 replace T := Aside0.mk (blk_below T.out hw)
 replace E1 := Aside0.mk (Kd.V_below E1.out hw)
 replace E2 := Aside0.mk (Kd.V_below E2.out hw)
 replace HB := Aside0.mk (below_step HB.out hw)
 replace R1 := Aside0.mk (Kd.R_below R1.out hw)
 replace S3 := Aside0.mk (show gt < w4.heap.size from blk_lt T.out)
 clear hV hw
 go_wp2_with (at_builtin; refine Kd.R_append (Kd.raw 2) (w0 := w) w.heap.size rfl (.tmp 41) (.tmp 47) 93 43 (.agg #[.bool false, .slice none 0 0]) 32 rfl Try.underlying93 inf43 rfl (by decide) (by decide) vl [[.bool false, .slice A2 1 c2]] [.bool false, .slice A6 1 c6] [.bool false, .slice A6 1 c6] (fun k => w.heap.size ≤ k ∧ k ≠ gt) (fun _ => False) rfl rfl ⟨rfl, rfl, by simp [Value.oneCell']⟩ (fun _ h => h.elim) (fun k hk => by have := S3.out; have := HB.out.size; omega) R1.out HB.out HB.out.size (show 2 * 32 ≤ 140737488355328 by decide) ?_; intro v2 w5 hR hb hg hat)
 replace HB := Aside0.mk hb
 replace T := Aside0.mk (blk_grown T.out hg (fun e => (R1.out.1 gt e.symm).2 rfl))
 replace E1 := Aside0.mk (Kd.V_after E1.out hg hat)
 replace E2 := Aside0.mk (Kd.V_after E2.out hg hat)
 replace E6 := Aside0.mk (Kd.V_after E6.out hg hat)
 replace R1 := Aside0.mk hR
 replace S3 := Aside0.mk (show gt < w5.heap.size from blk_lt T.out)
 clear hb hg hR hat
 rw [rounds_succ]
 have z0 : w5.cell? ⟨gt, 0, none⟩ = some (.slice none 0 0) := (blk_cell T.out 0).trans rfl
 have n0 := Kd.R_nil (Kd.raw 1) 93 w5 w.heap.size (fun k => w.heap.size ≤ k ∧ k ≠ gt)
 obtain ⟨gL, cL, rfl, -, -, -⟩ := Kd.R_form R1.out (by simp)
 go_wp2_with (at_builtin; refine Kd.R_append (Kd.raw 1) (w0 := w) w.heap.size rfl (.tmp 54) (.tmp 56) 90 93 (.slice none 0 0) 24 rfl Try.underlying90 inf93 rfl (by decide) (by decide) (.slice none 0 0) [] [.slice (some ⟨gL, 0, none⟩) 2 cL] [.slice (some ⟨gL, 0, none⟩) 2 cL] (fun k => w.heap.size ≤ k ∧ k ≠ gt) (fun _ => False) rfl rfl ⟨rfl, rfl, by simp [Value.oneCell']⟩ (fun _ h => h.elim) (fun k hk => by have := S3.out; have := HB.out.size; omega) n0 HB.out HB.out.size (by decide) ?_; intro vr w6 hR hb hg hat; obtain ⟨gR, cR, rfl, -, -, -⟩ := Kd.R_form hR (by simp); have T6 := blk_grown T.out hg (by simp [Value.ownBlock]); have z6 : w6.cell? ⟨gt, 0, none⟩ = some (.slice none 0 0) := (blk_cell T6 0).trans rfl; have y6 := blk_frozen T6 0)
 rw [rounds_succ]
 go_wp2
 go_ret
 have a1 := Kd.V_grown E1.out hg (fun k hk => by simp [Value.ownBlock])
 have a2 := Kd.V_grown E2.out hg (fun k hk => by simp [Value.ownBlock])
 have a6 := Kd.V_grown E6.out hg (fun k hk => by simp [Value.ownBlock])
 have al := Kd.R_V (base' := w.heap.size) (Kd.R_grown R1.out hg (fun k hk => by simp [Value.ownBlock]))
 have ar := Kd.R_V (base' := w.heap.size) hR
 exact ⟨gt, gR, cR, gL, cL, A1, c1, A2, c2, A6, c6, rfl, LT.out, blk_put (cs := #[.slice none 0 0, .bool false, .slice A1 1 c1, .bool false, .int .i64 0]) T6 0 _ rfl, Kd.V_far (p := ⟨gt, 0, none⟩) ar (fun k hk => hk.2) _, Kd.V_far (p := ⟨gt, 0, none⟩) al (fun k hk => hk.2) _, Kd.V_mono (Kd.V_far (p := ⟨gt, 0, none⟩) a1 (fun k hk => hk.1.2) _) (fun k hk => hk.1), Kd.V_mono (Kd.V_far (p := ⟨gt, 0, none⟩) a2 (fun k hk => hk.1.2) _) (fun k hk => hk.1), Kd.V_mono (Kd.V_far (p := ⟨gt, 0, none⟩) a6 (fun k hk => hk.1.2) _) (fun k hk => hk.1), below_set hb LT.out⟩
theorem raw_cell {W : World} {g n sz : Nat} {xs : List (List Value)} {c : List Value} {u : Value} (h : Kd.C (Kd.raw sz) W (some ⟨g, 0, none⟩) n xs) (i j : Nat) (hi : xs[i]? = some c) (hj : c[j]? = some u) : W.cell? ⟨g, i * sz + j, none⟩ = some u := by
 have hl : i < xs.length := (List.getElem?_eq_some_iff.1 hi).1
 have hn := h.1
 obtain ⟨ad, he, hc⟩ := h.2.2 (by omega)
 injection he with he
 subst he
 obtain ⟨c', _, hk, hcc⟩ := hc i c hi
 have e : c' = c := hk.1
 subst e
 have := hcc j u hj
 rwa [add_at, Nat.zero_add] at this
theorem sign_c2 : exact_Sign.f false [2] = some 1 := by decide +kernel
set_option maxHeartbeats 8000000 in
set_option maxRecDepth 100000 in
theorem pivot_c (gt gR cR gL cL : Nat) (A1 : Option Addr) (c1 : Nat) (A2 : Option Addr) (c2 : Nat) (A6 : Option Addr) (c6 b : Nat) (ok : Nat → Prop) (w0 w : World) (hT : w.heap[gt]? = some (.cells #[.slice (some ⟨gR, 0, none⟩) 1 cR, .bool false, .slice A1 1 c1, .bool false, .int .i64 0] 92 (0, 0))) (hR : Kd.V (Kd.raw 1) 93 w b (fun k => ok k ∧ k ≠ gt) (.slice (some ⟨gR, 0, none⟩) 1 cR) [[.slice (some ⟨gL, 0, none⟩) 2 cL]]) (hL : Kd.V (Kd.raw 2) 43 w b (fun k => ok k ∧ k ≠ gt) (.slice (some ⟨gL, 0, none⟩) 2 cL) [[.bool false, .slice A2 1 c2], [.bool false, .slice A6 1 c6]]) (h2 : Kd.V (Kd.int .u32) 97 w b (fun k => ok k ∧ k ≠ gt) (.slice A2 1 c2) [2]) (h6 : Kd.V (Kd.int .u32) 97 w b (fun k => ok k ∧ k ≠ gt) (.slice A6 1 c6) [6]) (hB : Below w0.heap.size w0 w) (hg : w0.heap.size ≤ gt) :
 Calls Try.prog 62 #[.pointer (some ⟨gt, 0, none⟩), .int .i64 0, .bool true] w fun e w' => e = .returned (.bool true) ∧ w'.heap[gt]? = some (.cells #[.slice (some ⟨gR, 0, none⟩) 1 cR, .bool false, .slice A2 1 c2, .bool false, .int .i64 1] 92 (0, 0)) ∧ Kd.V (Kd.raw 1) 93 w' b (fun k => ok k ∧ k ≠ gt) (.slice (some ⟨gR, 0, none⟩) 1 cR) [[.slice (some ⟨gL, 0, none⟩) 2 cL]] ∧ Kd.V (Kd.raw 2) 43 w' b (fun k => ok k ∧ k ≠ gt) (.slice (some ⟨gL, 0, none⟩) 2 cL) [[.bool false, .slice A2 1 c2], [.bool false, .slice A6 1 c6]] ∧ Kd.V (Kd.int .u32) 97 w' b (fun k => ok k ∧ k ≠ gt) (.slice A2 1 c2) [2] ∧ Kd.V (Kd.int .u32) 97 w' b (fun k => ok k ∧ k ≠ gt) (.slice A6 1 c6) [6] ∧ Below w0.heap.size w0 w' := by
 have HT := Aside0.mk hT
 have HR := Aside0.mk hR
 have HL := Aside0.mk hL
 have H2 := Aside0.mk h2
 have H6 := Aside0.mk h6
 have HB := Aside0.mk hB
 have HG := Aside0.mk hg
 clear hT hR hL h2 h6 hB hg
 have t0 : w.cell? ⟨gt, 0, none⟩ = some (.slice (some ⟨gR, 0, none⟩) 1 cR) := (blk_cell HT.out 0).trans rfl
 have t1 : w.cell? ⟨gt, 1, none⟩ = some (.bool false) := (blk_cell HT.out 1).trans rfl
 have t2 : w.cell? ⟨gt, 2, none⟩ = some (.slice A1 1 c1) := (blk_cell HT.out 2).trans rfl
 have t3 : w.cell? ⟨gt, 3, none⟩ = some (.bool false) := (blk_cell HT.out 3).trans rfl
 have t4 : w.cell? ⟨gt, 4, none⟩ = some (.int .i64 0) := (blk_cell HT.out 4).trans rfl
 have r0 : w.cell? ⟨gR, 0, none⟩ = some (.slice (some ⟨gL, 0, none⟩) 2 cL) := raw_cell (Kd.V_reads' HR.out).2.2 0 0 rfl rfl
 have l0 : w.cell? ⟨gL, 0, none⟩ = some (.bool false) := raw_cell (Kd.V_reads' HL.out).2.2 0 0 rfl rfl
 have l1 : w.cell? ⟨gL, 1, none⟩ = some (.slice A2 1 c2) := raw_cell (Kd.V_reads' HL.out).2.2 0 1 rfl rfl
 have l2 : w.cell? ⟨gL, 2, none⟩ = some (.bool false) := raw_cell (Kd.V_reads' HL.out).2.2 1 0 rfl rfl
 have l3 : w.cell? ⟨gL, 3, none⟩ = some (.slice A6 1 c6) := raw_cell (Kd.V_reads' HL.out).2.2 1 1 rfl rfl
 go_enter Try.func62, Try.ntmps62
 go_wp2_with fail
 refine wp_loop_rounds 2 ?_
 rw [rounds_succ]
 go_wp2_with fail
 refine (exact_Sign.calls false A2 c2 [2] 1 _ (Kd.V_reads' H2.out).2.2 (Kd.V_at H2.out).2.1 sign_c2).mono ?_
 rintro e w1 ⟨rfl, hw⟩
 clear t0 t1 t2 t3 t4 r0 l0 l1 l2 l3
 replace HT := Aside0.mk (blk_below HT.out hw)
 replace HR := Aside0.mk (Kd.V_below HR.out hw)
 replace HL := Aside0.mk (Kd.V_below HL.out hw)
 replace H2 := Aside0.mk (Kd.V_below H2.out hw)
 replace H6 := Aside0.mk (Kd.V_below H6.out hw)
 replace HB := Aside0.mk (below_step HB.out hw)
 clear hw
 have t0 : w1.cell? ⟨gt, 0, none⟩ = some (.slice (some ⟨gR, 0, none⟩) 1 cR) := (blk_cell HT.out 0).trans rfl
 have t1 : w1.cell? ⟨gt, 1, none⟩ = some (.bool false) := (blk_cell HT.out 1).trans rfl
 have t2 : w1.cell? ⟨gt, 2, none⟩ = some (.slice A1 1 c1) := (blk_cell HT.out 2).trans rfl
 have t3 : w1.cell? ⟨gt, 3, none⟩ = some (.bool false) := (blk_cell HT.out 3).trans rfl
 have t4 : w1.cell? ⟨gt, 4, none⟩ = some (.int .i64 0) := (blk_cell HT.out 4).trans rfl
 have r0 : w1.cell? ⟨gR, 0, none⟩ = some (.slice (some ⟨gL, 0, none⟩) 2 cL) := raw_cell (Kd.V_reads' HR.out).2.2 0 0 rfl rfl
 have l0 : w1.cell? ⟨gL, 0, none⟩ = some (.bool false) := raw_cell (Kd.V_reads' HL.out).2.2 0 0 rfl rfl
 have l1 : w1.cell? ⟨gL, 1, none⟩ = some (.slice A2 1 c2) := raw_cell (Kd.V_reads' HL.out).2.2 0 1 rfl rfl
 have l2 : w1.cell? ⟨gL, 2, none⟩ = some (.bool false) := raw_cell (Kd.V_reads' HL.out).2.2 1 0 rfl rfl
 have l3 : w1.cell? ⟨gL, 3, none⟩ = some (.slice A6 1 c6) := raw_cell (Kd.V_reads' HL.out).2.2 1 1 rfl rfl
 go_wp2_with fail
 clear t0 t1 t2 t3 t4 r0 l0 l1 l2 l3
 replace HT := Aside0.mk (blk_drew HT.out)
 replace HR := Aside0.mk (Kd.V_drew HR.out)
 replace HL := Aside0.mk (Kd.V_drew HL.out)
 replace H2 := Aside0.mk (Kd.V_drew H2.out)
 replace H6 := Aside0.mk (Kd.V_drew H6.out)
 replace HB := Aside0.mk (below_drew1 HB.out)
 have t0 : w1.drew.cell? ⟨gt, 0, none⟩ = some (.slice (some ⟨gR, 0, none⟩) 1 cR) := (blk_cell HT.out 0).trans rfl
 have t1 : w1.drew.cell? ⟨gt, 1, none⟩ = some (.bool false) := (blk_cell HT.out 1).trans rfl
 have t2 : w1.drew.cell? ⟨gt, 2, none⟩ = some (.slice A1 1 c1) := (blk_cell HT.out 2).trans rfl
 have t3 : w1.drew.cell? ⟨gt, 3, none⟩ = some (.bool false) := (blk_cell HT.out 3).trans rfl
 have t4 : w1.drew.cell? ⟨gt, 4, none⟩ = some (.int .i64 0) := (blk_cell HT.out 4).trans rfl
 have r0 : w1.drew.cell? ⟨gR, 0, none⟩ = some (.slice (some ⟨gL, 0, none⟩) 2 cL) := raw_cell (Kd.V_reads' HR.out).2.2 0 0 rfl rfl
 have l0 : w1.drew.cell? ⟨gL, 0, none⟩ = some (.bool false) := raw_cell (Kd.V_reads' HL.out).2.2 0 0 rfl rfl
 have l1 : w1.drew.cell? ⟨gL, 1, none⟩ = some (.slice A2 1 c2) := raw_cell (Kd.V_reads' HL.out).2.2 0 1 rfl rfl
 have l2 : w1.drew.cell? ⟨gL, 2, none⟩ = some (.bool false) := raw_cell (Kd.V_reads' HL.out).2.2 1 0 rfl rfl
 have l3 : w1.drew.cell? ⟨gL, 3, none⟩ = some (.slice A6 1 c6) := raw_cell (Kd.V_reads' HL.out).2.2 1 1 rfl rfl
 go_region_held3 (fun w' => w'.cell? ⟨gt, 0, none⟩ = some (.slice (some ⟨gR, 0, none⟩) 1 cR) ∧ w'.cell? ⟨gt, 4, none⟩ = some (.int .i64 0) ∧ w'.cell? ⟨gR, 0, none⟩ = some (.slice (some ⟨gL, 0, none⟩) 2 cL))
  (first | exact ⟨t0, t4, r0⟩)
  (first | fail)
 generalize w1.drew = w2 at *
 have y1 := blk_frozen HT.out 1
 have y2 := blk_frozen HT.out 2
 have y4 := blk_frozen HT.out 4
 go_wp2_with fail
 refine wp_loop_rounds 2 ?_
 rw [rounds_succ]
 go_wp2_with fail
 rw [rounds_succ]
 go_wp2
 go_ret
 have far : ∀ {α : Type} (K : Kd α) (e : Nat) (v : Value) (xs : List α), Kd.V K e w2 b (fun k => ok k ∧ k ≠ gt) v xs → Kd.V K e (((w2.setCell ⟨gt, 1, none⟩ (.bool false)).setCell ⟨gt, 2, none⟩ (.slice A2 1 c2)).setCell ⟨gt, 4, none⟩ (.int .i64 1)) b (fun k => ok k ∧ k ≠ gt) v xs := fun K e v xs h => Kd.V_far (p := ⟨gt, 4, none⟩) (Kd.V_far (p := ⟨gt, 2, none⟩) (Kd.V_far (p := ⟨gt, 1, none⟩) h (fun k hk => hk.2) _) (fun k hk => hk.2) _) (fun k hk => hk.2) _
 exact ⟨rfl, blk_put (cs := #[.slice (some ⟨gR, 0, none⟩) 1 cR, .bool false, .slice A2 1 c2, .bool false, .int .i64 0]) (blk_put (cs := #[.slice (some ⟨gR, 0, none⟩) 1 cR, .bool false, .slice A1 1 c1, .bool false, .int .i64 0]) (blk_put (cs := #[.slice (some ⟨gR, 0, none⟩) 1 cR, .bool false, .slice A1 1 c1, .bool false, .int .i64 0]) HT.out 1 _ rfl) 2 _ rfl) 4 _ rfl, far _ _ _ _ HR.out, far _ _ _ _ HL.out, far _ _ _ _ H2.out, far _ _ _ _ H6.out, below_set (below_set (below_set HB.out HG.out) HG.out) HG.out⟩
theorem square_c : exact_square.f 20 [[2]] = some 0 := by decide +kernel
theorem inf45 : (Try.prog.info? 45).map (fun i => (i.zero, i.size, i.bytes)) = some (some (.agg #[.bool false, .slice none 0 0, .bool false, .slice none 0 0]), 4, 64) := by kernel_rfl
set_option maxHeartbeats 8000000 in
set_option maxRecDepth 100000 in
theorem solve_c (ga gr gb : Nat) (w : World) (h1 : w.heap[ga]? = some (.cells #[.slice (some ⟨gr, 0, none⟩) 1 1] 23 (0, 0))) (h2 : w.heap[gr]? = some (.cells #[.int .i64 2] 2 (0, 0))) (h3 : w.heap[gb]? = some (.cells #[.int .i64 6] 2 (0, 0))) :
 Calls Try.prog 12 #[.slice (some ⟨ga, 0, none⟩) 1 1, .slice (some ⟨gb, 0, none⟩) 1 1] w fun e w' => ∃ gx cx B0 d0 B1 d1, e = .returned (.tuple #[.slice (some ⟨gx, 0, none⟩) 1 cx, .int .i64 0]) ∧ Kd.C (Kd.raw 4) w' (some ⟨gx, 0, none⟩) 1 [[.bool false, .slice B0 1 d0, .bool false, .slice B1 1 d1]] ∧ Kd.V (Kd.int .u32) 97 w' w.heap.size (fun _ => True) (.slice B0 1 d0) [3] ∧ Kd.V (Kd.int .u32) 97 w' w.heap.size (fun _ => True) (.slice B1 1 d1) [1] ∧ Below w.heap.size w w' := by
 have H1 := Aside0.mk h1
 have H2 := Aside0.mk h2
 have H3 := Aside0.mk h3
 clear h1 h2 h3
 go_enter Try.func12, Try.ntmps12
 go_wp2_with fail
 refine (exact_square.calls 20 (some ⟨ga, 0, none⟩) 1 [[2]] 0 _ (Hnd.rowC (d := Kd.slice 2 (Kd.int .i64)) H1.out (Reps.one (show (Kd.slice 2 (Kd.int .i64)).K w [2] [.slice (some ⟨gr, 0, none⟩) 1 1] from ⟨_, _, rfl, Nat.le_refl _, Hnd.rowI [2] H2.out rfl (by decide)⟩) (Reps.none _ _)) (by decide)) (Nat.le_refl _) square_c).mono ?_
 rintro e w1 ⟨rfl, hw⟩
 replace H1 := Aside0.mk (blk_below H1.out hw.below)
 replace H2 := Aside0.mk (blk_below H2.out hw.below)
 replace H3 := Aside0.mk (blk_below H3.out hw.below)
 have HB := Aside0.mk hw.below
 clear hw
 have x3 : w1.cell? ⟨gb, 0, none⟩ = some (.int .i64 6) := (blk_cell H3.out 0).trans rfl
 go_wp2_with fail
 refine wp_loop_rounds 2 ?_
 rw [rounds_succ]
 go_wp2_with fail
 rw [rounds_succ]
 clear x3
 replace HB := Aside0.mk (below_alloc HB.out (.cells #[.slice (some ⟨gb, 0, none⟩) 1 1] 23))
 go_wp2_with fail
 refine (begin_c ga gr w1.heap.size gb (w1.alloc (.cells #[.slice (some ⟨gb, 0, none⟩) 1 1] 23)) (blk_alloc H1.out (.cells #[.slice (some ⟨gb, 0, none⟩) 1 1] 23)) (blk_alloc H2.out (.cells #[.slice (some ⟨gb, 0, none⟩) 1 1] 23)) (blk_new w1 (.cells #[.slice (some ⟨gb, 0, none⟩) 1 1] 23)) (blk_alloc H3.out (.cells #[.slice (some ⟨gb, 0, none⟩) 1 1] 23))).mono ?_
 rintro e w2 ⟨gt, gR, cR, gL, cL, A1, c1, A2, c2, A6, c6, rfl, hgt, hT, hR, hL, hv1, hv2, hv6, hw⟩
 have LE := Aside0.mk (show w.heap.size ≤ (w1.alloc (.cells #[.slice (some ⟨gb, 0, none⟩) 1 1] 23)).heap.size from HB.out.size)
 generalize (w1.alloc (.cells #[.slice (some ⟨gb, 0, none⟩) 1 1] 23)).heap.size = base at *
 replace HB := Aside0.mk (HB.out.trans (hw.mono LE.out))
 clear hw H1 H2 H3
 go_wp2_with fail
 refine wp_loop_rounds 2 ?_
 rw [rounds_succ]
 go_wp2_with fail
 refine (pivot_c gt gR cR gL cL A1 c1 A2 c2 A6 c6 base (fun k => base ≤ k) w w2 hT hR hL hv2 hv6 HB.out (Nat.le_trans LE.out hgt)).mono ?_
 rintro e w3 ⟨rfl, hT3, hR3, hL3, h23, h63, hB3⟩
 clear hT hR hL hv1 hv2 hv6 HB
 have HT := Aside0.mk hT3
 have HR := Aside0.mk hR3
 have HL := Aside0.mk hL3
 have HV2 := Aside0.mk h23
 have HV6 := Aside0.mk h63
 have HB := Aside0.mk hB3
 clear hT3 hR3 hL3 h23 h63 hB3
 go_wp2_with fail
 rw [rounds_succ]
 have t0 : w3.cell? ⟨gt, 0, none⟩ = some (.slice (some ⟨gR, 0, none⟩) 1 cR) := (blk_cell HT.out 0).trans rfl
 have r0 : w3.cell? ⟨gR, 0, none⟩ = some (.slice (some ⟨gL, 0, none⟩) 2 cL) := raw_cell (Kd.V_reads' HR.out).2.2 0 0 rfl rfl
 go_wp2_with fail
 refine wp_loop_rounds 2 ?_
 rw [rounds_succ]
 go_wp2_with fail
 clear t0 r0
 replace HT := Aside0.mk (blk_drew HT.out)
 replace HR := Aside0.mk (Kd.V_drew HR.out)
 replace HL := Aside0.mk (Kd.V_drew HL.out)
 replace HV2 := Aside0.mk (Kd.V_drew HV2.out)
 replace HV6 := Aside0.mk (Kd.V_drew HV6.out)
 replace HB := Aside0.mk (below_drew1 HB.out)
 have KS : Aside0 (∀ W', Below w3.drew.heap.size w3.drew W' → (W'.cell? ⟨gL, 0, none⟩ = some (.bool false) ∧ W'.cell? ⟨gL, 1, none⟩ = some (.slice A2 1 c2) ∧ W'.cell? ⟨gL, 2, none⟩ = some (.bool false) ∧ W'.cell? ⟨gL, 3, none⟩ = some (.slice A6 1 c6))) := ⟨fun W' hW => by
  have h := (Kd.V_reads' (Kd.V_below HL.out hW)).2.2
  exact ⟨raw_cell h 0 0 rfl rfl, raw_cell h 0 1 rfl rfl, raw_cell h 1 0 rfl rfl, raw_cell h 1 1 rfl rfl⟩⟩
 go_region_held3 (fun w' => w'.cell? ⟨gL, 0, none⟩ = some (.bool false) ∧ w'.cell? ⟨gL, 1, none⟩ = some (.slice A2 1 c2) ∧ w'.cell? ⟨gL, 2, none⟩ = some (.bool false) ∧ w'.cell? ⟨gL, 3, none⟩ = some (.slice A6 1 c6))
  (first | exact KS.out _ (Below.refl _ _) | exact KS.out _ HX.out | exact KS.out _ (below_alloc (Below.refl _ _) _) | exact KS.out _ (below_alloc HX.out _) | exact KS.out _ (below_set (below_set (below_set (below_set HX.out (Nat.le_refl _)) (Nat.le_refl _)) (Nat.le_refl _)) (Nat.le_refl _)))
  (first
   | (go_at_call 63; refine (reduced_c (fun k => base ≤ k ∧ k ≠ gt) A6 c6 A2 c2 _ HV6.out HV2.out).mono ?_; rintro e w4 ⟨B0, d0, B1, d1, rfl, hN, hD, hw⟩; have HX := Aside0.mk hw; have HN := Aside0.mk hN; have HD := Aside0.mk hD; clear hN hD hw)
   | (go_at_call 63; refine (reduced_c (fun k => (base ≤ k ∧ k ≠ gt) ∧ k < w3.heap.size) A6 c6 A2 c2 _ (Kd.V_alloc (Kd.V_bound HV6.out) _) (Kd.V_alloc (Kd.V_bound HV2.out) _)).mono ?_; rintro e w4 ⟨B0, d0, B1, d1, rfl, hN, hD, hw⟩; have hs9 : (w3.drew.alloc (.cells #[.bool false, .slice none 0 0, .bool false, .slice none 0 0] 45)).heap.size = w3.heap.size + 1 := (by simp); have HN := Aside0.mk (Kd.V_mono hN (ok' := fun k => ((base ≤ k ∧ k ≠ gt) ∧ k < w3.heap.size) ∨ w3.heap.size + 1 ≤ k) (fun k hk => by rw [hs9] at hk; exact hk)); have HD := Aside0.mk (Kd.V_mono hD (ok' := fun k => ((base ≤ k ∧ k ≠ gt) ∧ k < w3.heap.size) ∨ w3.heap.size + 1 ≤ k) (fun k hk => by rw [hs9] at hk; exact hk)); clear hs9; have XB := Aside0.mk (show w4.heap[w3.heap.size]? = some (.cells #[.bool false, .slice none 0 0, .bool false, .slice none 0 0] 45 (0, 0)) from blk_below (blk_new w3.drew (.cells #[.bool false, .slice none 0 0, .bool false, .slice none 0 0] 45)) hw); have HX := Aside0.mk ((below_alloc (Below.refl w3.drew.heap.size w3.drew) (.cells #[.bool false, .slice none 0 0, .bool false, .slice none 0 0] 45)).trans (hw.mono (below_alloc (Below.refl w3.drew.heap.size w3.drew) (.cells #[.bool false, .slice none 0 0, .bool false, .slice none 0 0] 45)).size)); have HK := Aside0.mk (show ∀ k, ((base ≤ k ∧ k ≠ gt) ∧ k < w3.heap.size) ∨ w3.heap.size + 1 ≤ k → k ≠ w3.heap.size from fun k hk => by omega); clear hN hD hw; obtain ⟨z0, z1, z2, z3⟩ : w4.cell? ⟨w3.heap.size, 0, none⟩ = some (.bool false) ∧ w4.cell? ⟨w3.heap.size, 1, none⟩ = some (.slice none 0 0) ∧ w4.cell? ⟨w3.heap.size, 2, none⟩ = some (.bool false) ∧ w4.cell? ⟨w3.heap.size, 3, none⟩ = some (.slice none 0 0) := ⟨(blk_cell XB.out 0).trans rfl, (blk_cell XB.out 1).trans rfl, (blk_cell XB.out 2).trans rfl, (blk_cell XB.out 3).trans rfl⟩; have y0 := blk_frozen XB.out 0; have y1 := blk_frozen XB.out 1; have y2 := blk_frozen XB.out 2; have y3 := blk_frozen XB.out 3))
 · have XD := Aside0.mk (blk_new w4 (.cells #[.bool false, .slice B0 1 d0, .bool false, .slice B1 1 d1] 45))
   replace HX := Aside0.mk (below_alloc HX.out (.cells #[.bool false, .slice B0 1 d0, .bool false, .slice B1 1 d1] 45))
   replace HN := Aside0.mk (Kd.V_alloc HN.out (.cells #[.bool false, .slice B0 1 d0, .bool false, .slice B1 1 d1] 45))
   replace HD := Aside0.mk (Kd.V_alloc HD.out (.cells #[.bool false, .slice B0 1 d0, .bool false, .slice B1 1 d1] 45))
   generalize w4.heap.size = gx at *
   generalize w4.alloc (.cells #[.bool false, .slice B0 1 d0, .bool false, .slice B1 1 d1] 45) = w5 at *
   replace HB := Aside0.mk (below_step HB.out HX.out)
   have q0 : w5.cell? ⟨gx, 0, none⟩ = some (.bool false) := (blk_cell XD.out 0).trans rfl
   have q1 : w5.cell? ⟨gx, 1, none⟩ = some (.slice B0 1 d0) := (blk_cell XD.out 1).trans rfl
   have q2 : w5.cell? ⟨gx, 2, none⟩ = some (.bool false) := (blk_cell XD.out 2).trans rfl
   have q3 : w5.cell? ⟨gx, 3, none⟩ = some (.slice B1 1 d1) := (blk_cell XD.out 3).trans rfl
   have n0 := Kd.R_nil (Kd.raw 4) 45 w5 w.heap.size (fun _ => True)
   go_wp2_with (at_builtin; refine Kd.R_append (Kd.raw 4) (w0 := w) w.heap.size rfl (.tmp 79) (.tmp 81) 25 45 (.agg #[.bool false, .slice none 0 0, .bool false, .slice none 0 0]) 64 rfl Try.underlying25 inf45 rfl (by decide) (by decide) (.slice none 0 0) [] [.bool false, .slice B0 1 d0, .bool false, .slice B1 1 d1] [.bool false, .slice B0 1 d0, .bool false, .slice B1 1 d1] (fun _ => True) (fun _ => False) rfl rfl ⟨rfl, rfl, by simp [Value.oneCell']⟩ (fun _ h => h.elim) (fun k hk => trivial) n0 HB.out HB.out.size (by decide) ?_; intro vo w6 hR hb hg hat)
   obtain ⟨go, co, rfl, -, -, -⟩ := Kd.R_form hR (by simp)
   rw [rounds_succ]
   go_wp2
   go_ret2
   exact ⟨go, co, B0, d0, B1, d1, rfl, (Kd.R_reads' hR).2.2, Kd.V_mono (Kd.V_grown HN.out hg (fun k hk => by simp [Value.ownBlock])) (fun _ _ => trivial), Kd.V_mono (Kd.V_grown HD.out hg (fun k hk => by simp [Value.ownBlock])) (fun _ _ => trivial), hb⟩
 have XD := Aside0.mk (put4 XB.out (.bool false) (.slice B0 1 d0) (.bool false) (.slice B1 1 d1))
 clear z0 z1 z2 z3 y0 y1 y2 y3
 replace HX := Aside0.mk (below_set (g := w3.heap.size) (j := 3) (v := .slice B1 1 d1) (below_set (g := w3.heap.size) (j := 2) (v := .bool false) (below_set (g := w3.heap.size) (j := 1) (v := .slice B0 1 d0) (below_set (g := w3.heap.size) (j := 0) (v := .bool false) HX.out (Nat.le_refl _)) (Nat.le_refl _)) (Nat.le_refl _)) (Nat.le_refl _))
 replace HN := Aside0.mk (outV4 HN.out (g := w3.heap.size) (fun k hk => HK.out k hk) (.bool false) (.slice B0 1 d0) (.bool false) (.slice B1 1 d1) (fun k hk => hk))
 replace HD := Aside0.mk (outV4 HD.out (g := w3.heap.size) (fun k hk => HK.out k hk) (.bool false) (.slice B0 1 d0) (.bool false) (.slice B1 1 d1) (fun k hk => hk))
 generalize (((w4.setCell ⟨w3.heap.size, 0, none⟩ (.bool false)).setCell ⟨w3.heap.size, 1, none⟩ (.slice B0 1 d0)).setCell ⟨w3.heap.size, 2, none⟩ (.bool false)).setCell ⟨w3.heap.size, 3, none⟩ (.slice B1 1 d1) = w5 at *
 generalize w3.heap.size = gx at *
 replace HB := Aside0.mk (below_step HB.out HX.out)
 have q0 : w5.cell? ⟨gx, 0, none⟩ = some (.bool false) := (blk_cell XD.out 0).trans rfl
 have q1 : w5.cell? ⟨gx, 1, none⟩ = some (.slice B0 1 d0) := (blk_cell XD.out 1).trans rfl
 have q2 : w5.cell? ⟨gx, 2, none⟩ = some (.bool false) := (blk_cell XD.out 2).trans rfl
 have q3 : w5.cell? ⟨gx, 3, none⟩ = some (.slice B1 1 d1) := (blk_cell XD.out 3).trans rfl
 have n0 := Kd.R_nil (Kd.raw 4) 45 w5 w.heap.size (fun _ => True)
 go_wp2_with (at_builtin; refine Kd.R_append (Kd.raw 4) (w0 := w) w.heap.size rfl (.tmp 79) (.tmp 81) 25 45 (.agg #[.bool false, .slice none 0 0, .bool false, .slice none 0 0]) 64 rfl Try.underlying25 inf45 rfl (by decide) (by decide) (.slice none 0 0) [] [.bool false, .slice B0 1 d0, .bool false, .slice B1 1 d1] [.bool false, .slice B0 1 d0, .bool false, .slice B1 1 d1] (fun _ => True) (fun _ => False) rfl rfl ⟨rfl, rfl, by simp [Value.oneCell']⟩ (fun _ h => h.elim) (fun k hk => trivial) n0 HB.out HB.out.size (by decide) ?_; intro vo w6 hR hb hg hat)
 obtain ⟨go, co, rfl, -, -, -⟩ := Kd.R_form hR (by simp)
 rw [rounds_succ]
 go_wp2
 go_ret2
 exact ⟨go, co, B0, d0, B1, d1, rfl, (Kd.R_reads' hR).2.2, Kd.V_mono (Kd.V_grown HN.out hg (fun k hk => by simp [Value.ownBlock])) (fun _ _ => trivial), Kd.V_mono (Kd.V_grown HD.out hg (fun k hk => by simp [Value.ownBlock])) (fun _ _ => trivial), hb⟩
theorem txt3 : exact_Text.f 20 false [3] = some ⟨#[51]⟩ := by decide +kernel
theorem txt1 : exact_Text.f 20 false [1] = some ⟨#[49]⟩ := by decide +kernel
theorem of12 : exact_Of.f (-12) = some (true, [12]) := by decide +kernel
theorem txt12 : exact_Text.f 20 true [12] = some ⟨#[45, 49, 50]⟩ := by decide +kernel
def masklaw4_exacts.f : Option Bool := some true
set_option maxHeartbeats 8000000 in
set_option maxRecDepth 100000 in
theorem masklaw4_exacts.calls (r : Bool) (w : World) (h : masklaw4_exacts.f = some r) :
 Calls Try.prog 11 #[] w fun e w' => e = .returned (.bool r) ∧ Below w.heap.size w w' := by
 obtain rfl := Option.some.inj h
 have HB := Aside0.mk (below_alloc (below_alloc (below_alloc (Below.refl w.heap.size w) (.cells #[.int .i64 2] 2)) (.cells #[.slice (some ⟨w.heap.size, 0, none⟩) 1 1] 23)) (.cells #[.int .i64 6] 2))
 have B0 := Aside0.mk (blk_alloc (blk_alloc (blk_new w (.cells #[.int .i64 2] 2)) (.cells #[.slice (some ⟨w.heap.size, 0, none⟩) 1 1] 23)) (.cells #[.int .i64 6] 2))
 have B1 := Aside0.mk (blk_alloc (Hnd.blk_new1 w (.cells #[.int .i64 2] 2) (.cells #[.slice (some ⟨w.heap.size, 0, none⟩) 1 1] 23)) (.cells #[.int .i64 6] 2))
 have B2 := Aside0.mk (Hnd.blk_new2 w (.cells #[.int .i64 2] 2) (.cells #[.slice (some ⟨w.heap.size, 0, none⟩) 1 1] 23) (.cells #[.int .i64 6] 2))
 clear h
 go_enter Try.func11, Try.ntmps11
 go_wp2_with fail
 refine (solve_c (w.heap.size + 1) w.heap.size (w.heap.size + 2) _ B1.out B0.out B2.out).mono ?_
 rintro e w1 ⟨gx, cx, D0, d0, D1, d1, rfl, hC, h3, h1, hw⟩
 replace HB := Aside0.mk (below_step HB.out hw)
 have C3 := Aside0.mk (Kd.V_map (base' := w1.heap.size) h3 (fun _ hf => hf))
 have C1 := Aside0.mk (Kd.V_map (base' := w1.heap.size) h1 (fun _ hf => hf))
 have q0 : w1.cell? ⟨gx, 0, none⟩ = some (.bool false) := raw_cell hC 0 0 rfl rfl
 have q1 : w1.cell? ⟨gx, 1, none⟩ = some (.slice D0 1 d0) := raw_cell hC 0 1 rfl rfl
 have Q2 : Aside0 (w1.cell? ⟨gx, 2, none⟩ = some (.bool false) ∧ w1.cell? ⟨gx, 3, none⟩ = some (.slice D1 1 d1)) := ⟨raw_cell hC 0 2 rfl rfl, raw_cell hC 0 3 rfl rfl⟩
 clear hC h3 h1 hw B0 B1 B2
 go_wp2_with fail
 refine (exact_Text.calls 20 false (fun _ => True) D0 d0 [3] ⟨#[51]⟩ _ C3.out txt3).mono ?_
 rintro e w2 ⟨rfl, hw⟩
 clear q0 q1
 have q2 : w2.cell? ⟨gx, 2, none⟩ = some (.bool false) := (hw.cell (World.block_lt_of_cell? _ _ Q2.out.1)).trans Q2.out.1
 have q3 : w2.cell? ⟨gx, 3, none⟩ = some (.slice D1 1 d1) := (hw.cell (World.block_lt_of_cell? _ _ Q2.out.2)).trans Q2.out.2
 replace HB := Aside0.mk (below_step HB.out hw)
 replace C1 := Aside0.mk (Kd.V_map (base' := w2.heap.size) (Kd.V_below C1.out hw) (fun _ hf => hf))
 clear hw Q2 C3
 go_wp2_with fail
 refine (exact_Text.calls 20 false (fun _ => True) D1 d1 [1] ⟨#[49]⟩ _ C1.out txt1).mono ?_
 rintro e w3 ⟨rfl, hw⟩
 clear q2 q3 C1
 replace HB := Aside0.mk (below_step HB.out hw)
 clear hw
 go_wp2_with fail
 refine (exact_Of.calls (-12) true [12] _ of12).mono ?_
 rintro e w4 ⟨v, rfl, hV, hw⟩
 obtain ⟨D2, d2, rfl⟩ := Kd.V_slice hV
 replace HB := Aside0.mk (below_step HB.out hw)
 have C2 := Aside0.mk (Kd.V_map (base' := w4.heap.size) hV (fun _ hf => hf))
 clear hV hw
 go_wp2_with fail
 refine (exact_Text.calls 20 true _ D2 d2 [12] ⟨#[45, 49, 50]⟩ _ C2.out txt12).mono ?_
 rintro e w5 ⟨rfl, hw⟩
 replace HB := Aside0.mk (below_step HB.out hw)
 clear hw C2
 go_wp2
 go_ret
 exact ⟨rfl, HB.out⟩

end Go.Proofs.Ytlbljdjbcbgnlaa.PX
