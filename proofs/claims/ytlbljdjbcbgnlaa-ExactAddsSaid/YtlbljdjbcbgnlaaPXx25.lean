-- PRINTED by print.py (a twelfth state) out of the translation. Not trusted: Lean checks it.
import Derived.Test.YtlbljdjbcbgnlaaCmp
import Derived.Test.YtlbljdjbcbgnlaaPXx0
import Derived.Test.YtlbljdjbcbgnlaaPXx16
import Derived.Test.YtlbljdjbcbgnlaaPXx9
import Derived.Test.YtlbljdjbcbgnlaaPXx22
namespace Go.Proofs.Ytlbljdjbcbgnlaa.PX
open Go.RowKit Go.Proofs.YtlbljdjbcbgnlaaW.PrintWords Go.Proofs.YtlbljdjbcbgnlaaW.PrintLast Go.Proofs.YtlbljdjbcbgnlaaW.PrintMore
attribute [local go_sem] max2_int min2_int max_two min_two max_three min_three max_four min_four   -- for this text's walks alone
set_option linter.unusedVariables false
set_option linter.unusedSimpArgs false

/-! ### exact_Bits: function 32 -/
def exact_Bits.f (a0_0 : Bool) (l0_1 : List Int) : Option (Int) := if (l0_1.length : Int) = 0 then (some 0) else (if 0 ≤ (wrap64 ((l0_1.length : Int) - 1)) then (if (wrap64 ((l0_1.length : Int) - 1)) < (l0_1.length : Int) then ((bits_Len32.f (rd l0_1 (wrap64 ((l0_1.length : Int) - 1)))).bind fun t227 => (some (wrap64 ((wrap64 (32 * (wrap64 ((l0_1.length : Int) - 1)))) + t227)))) else (none)) else (none))
set_option maxHeartbeats 8000000 in
set_option maxRecDepth 100000 in
theorem exact_Bits.calls (a0_0 : Bool) (A0_1 : Option Addr) (c0_1 : Nat) (l0_1 : List Int) (r : Int) (w : World) (hr0_1 : Kd.C (Kd.int .u32) w A0_1 l0_1.length l0_1) (hc0_1 : l0_1.length ≤ c0_1) (h : exact_Bits.f a0_0 l0_1 = some r) :
 Calls Try.prog 32 #[.agg #[.bool a0_0, .slice A0_1 l0_1.length c0_1]] w fun e w' => e = .returned (.int .i64 r) ∧ Below w.heap.size w w' := by
 have HR0_1 := Aside0.mk hr0_1
 clear hr0_1 hc0_1
 have HB := Aside0.mk (Below.refl w.heap.size w)
 have H : (if (l0_1.length : Int) = 0 then (some 0) else (if 0 ≤ (wrap64 ((l0_1.length : Int) - 1)) then (if (wrap64 ((l0_1.length : Int) - 1)) < (l0_1.length : Int) then ((bits_Len32.f (rd l0_1 (wrap64 ((l0_1.length : Int) - 1)))).bind fun t227 => (some (wrap64 ((wrap64 (32 * (wrap64 ((l0_1.length : Int) - 1)))) + t227)))) else (none)) else (none))) = some r := h
 clear h
 by_cases c2 : (l0_1.length : Int) = 0
 · rw [if_pos c2] at H
   have c2b0 : ((l0_1.length : Int) == 0) = true := beq_iff_eq.mpr c2
   clear c2
   obtain rfl := Option.some.inj H
   go_enter Try.func32, Try.ntmps32
   go_wp2_with ((with_reducible refine gate_dst (N := 1) rfl ?_); refine box_event ?hg (N := 1) ?hd (cs := #[.bool a0_0, .slice A0_1 l0_1.length c0_1]) (t := 43) ?hr ?_; (case hd => rfl); (case hg => rfl); (case hr => first | (go_simp; done) | (go_simp; rfl)); intro gb225 hg w3 hbox hb; have BK225 := Aside0.mk (hbox); replace HB := Aside0.mk (below_step bl hb); clear hb hbox hg; obtain ⟨hcz4_0, hcz4_1, hfz4_0, hfz4_1⟩ := bz2 BK225.out)
   repeat (go_quiet (fail); try go_wp2_with fail)
   go_ret
   exact ⟨by first | rfl | (simp [errW_none, errW_some] <;> rfl) | (simp [*, errW_none, errW_some] <;> rfl), bl⟩
 rw [if_neg c2] at H
 have c2b0 : ((l0_1.length : Int) == 0) = false := beq_eq_false_iff_ne.mpr c2
 obtain ⟨ji5, hji5⟩ : ∃ j_ : Int, (wrap64 ((l0_1.length : Int) - 1)) = j_ := ⟨_, rfl⟩
 replace H : (if 0 ≤ (ji5) then (if (ji5) < (l0_1.length : Int) then ((bits_Len32.f (rd l0_1 (ji5))).bind fun t227 => (some (wrap64 ((wrap64 (32 * (ji5))) + t227)))) else (none)) else (none)) = some r := by first | (rw [hji5] at H; exact H) | (simp only [hji5] at H ⊢; exact H)
 have hji5w : (IntKind.i64.wrap ((l0_1.length : Int) - 1)) = ji5 := (i64_w _).trans hji5
 by_cases c6 : 0 ≤ (ji5)
 rotate_left
 · rw [if_neg c6] at H
   exact absurd H (by simp)
 rw [if_pos c6] at H
 have c6b0 : decide (0 ≤ (ji5)) = true := decide_eq_true c6
 clear c6
 by_cases c7 : (ji5) < (l0_1.length : Int)
 rotate_left
 · rw [if_neg c7] at H
   exact absurd H (by simp)
 rw [if_pos c7] at H
 have c7b0 : decide ((ji5) < (l0_1.length : Int)) = true := decide_eq_true c7
 clear c7
 replace H := Option.bind_eq_some_iff.mp H
 obtain ⟨t227, A80, H⟩ := H
 replace H : (some (wrap64 ((wrap64 (32 * (ji5))) + t227))) = some r := H
 have A8 := Aside0.mk A80
 clear A80
 obtain rfl := Option.some.inj H
 go_enter Try.func32, Try.ntmps32
 go_wp2_with ((with_reducible refine gate_dst (N := 1) rfl ?_); refine box_event ?hg (N := 1) ?hd (cs := #[.bool a0_0, .slice A0_1 l0_1.length c0_1]) (t := 43) ?hr ?_; (case hd => rfl); (case hg => rfl); (case hr => first | (go_simp; done) | (go_simp; rfl)); intro gb225 hg w9 hbox hb; have BK225 := Aside0.mk (hbox); replace HB := Aside0.mk (below_step bl hb); clear hb hbox hg; obtain ⟨hcz10_0, hcz10_1, hfz10_0, hfz10_1⟩ := bz2 BK225.out; have p226 : 0 ≤ ((ji5) : Int) := of_decide_eq_true (by first | (with_reducible assumption) | assumption); have q226 : (ji5) < (l0_1.length : Int) := of_decide_eq_true (by first | (with_reducible assumption) | assumption); obtain ⟨ad226, e226, hx226_0⟩ := Kd.at_int HR0_1.out (ji5) p226 q226; cases e226; replace hx226_0 := hc HB.out hx226_0; replace p226 := eq_true p226; replace q226 := eq_true q226)
 repeat (go_quiet (first | (go_at_call 77; (with_reducible refine (bits_Len32.calls (rd l0_1 (ji5)) t227 _ A8.out).mono ?_); rintro e w' ⟨rfl, ⟨nd, rfl⟩⟩; (try first | exact ⟨rfl, _, World.drewN_drewN _ _ _⟩ | exact ⟨rfl, _, Eq.trans (World.drewN_drewN _ _ _) (congrArg (World.drewN _) (Nat.add_assoc _ _ _))⟩))); try go_wp2_with fail)
 go_ret
 exact ⟨by first | rfl | (simp [errW_none, errW_some] <;> rfl) | (simp only [← hji5]; first | rfl | (simp [errW_none, errW_some] <;> rfl)) | (simp [*, errW_none, errW_some] <;> rfl), bl⟩

end Go.Proofs.Ytlbljdjbcbgnlaa.PX
namespace Go.Proofs.Ytlbljdjbcbgnlaa.PX
open Go.RowKit Go.Proofs.YtlbljdjbcbgnlaaW.PrintWords Go.Proofs.YtlbljdjbcbgnlaaW.PrintLast Go.Proofs.YtlbljdjbcbgnlaaW.PrintMore
attribute [local go_sem] max2_int min2_int max_two min_two max_three min_three max_four min_four   -- for this text's walks alone
set_option linter.unusedVariables false
set_option linter.unusedSimpArgs false

/-! ### exact_Gcd: function 41 -/
def exact_Gcd.l0 : Nat → Bool → List Int → Bool → List Int → Option (Bool × List Int)
 | 0, _, _, _, _ => none
 | k + 1, x229000, x229001, x230000, x230001 => (exact_Sign.f x230000 x230001).bind fun t239 => (if t239 = 0 then (some (x229000, x229001)) else ((exact_split.f k x229000 x229001 x230000 x230001).bind fun bt240 => (exact_Gcd.l0 k x230000 x230001 bt240.2.2.1 bt240.2.2.2)))
def exact_Gcd.f (k : Nat) (a0_0 : Bool) (l0_1 : List Int) (a1_0 : Bool) (l1_1 : List Int) : Option (Bool × List Int) := (exact_Abs.f a0_0 l0_1).bind fun bt231 => ((exact_Abs.f a1_0 l1_1).bind fun bt235 => (exact_Gcd.l0 k bt231.1 bt231.2 bt235.1 bt235.2))
theorem exact_Gcd.mono_l : ∀ k, (∀ y0 y1 y2 y3, LeO (exact_Gcd.l0 k y0 y1 y2 y3) (exact_Gcd.l0 (k + 1) y0 y1 y2 y3))
 | 0 => fun _ _ _ _ r h => by simp [exact_Gcd.l0] at h
 | k + 1 => by
  have ih0 := exact_Gcd.mono_l k
  · intro y0 y1 y2 y3
    unfold exact_Gcd.l0
    repeat' first
    | (with_reducible exact ih0 _ _ _ _)
    | (with_reducible exact exact_split.mono _ _ _ _ _)
    | (with_reducible exact LeO.refl _)
    | (with_reducible exact LeO.none _)
    | (with_reducible refine LeO.ite ?_ ?_)
    | (with_reducible refine LeO.bind ?_ (fun _ => ?_))
theorem exact_Gcd.mono : ∀ a0 a1 a2 a3 k, LeO (exact_Gcd.f k a0 a1 a2 a3) (exact_Gcd.f (k + 1) a0 a1 a2 a3) := by
 intro a0 a1 a2 a3 k
 have ih0 := exact_Gcd.mono_l k
 unfold exact_Gcd.f
 repeat' first
  | (with_reducible exact ih0 _ _ _ _)
  | (with_reducible exact LeO.refl _)
  | (with_reducible exact LeO.none _)
  | (with_reducible refine LeO.ite ?_ ?_)
  | (with_reducible refine LeO.bind ?_ (fun _ => ?_))
set_option maxHeartbeats 8000000 in
set_option maxRecDepth 100000 in
theorem exact_Gcd.calls (k : Nat) (a0_0 : Bool) (P0_1_ : Nat → Prop) (A0_1 : Option Addr) (c0_1 : Nat) (l0_1 : List Int) (a1_0 : Bool) (P1_1_ : Nat → Prop) (A1_1 : Option Addr) (c1_1 : Nat) (l1_1 : List Int) (r1 : Bool) (r2 : List Int) (w : World) (hs0_1 : Kd.V (Kd.int .u32) 97 w w.heap.size (fun k_ => P0_1_ k_) (.slice A0_1 l0_1.length c0_1) l0_1) (hs1_1 : Kd.V (Kd.int .u32) 97 w w.heap.size (fun k_ => P1_1_ k_) (.slice A1_1 l1_1.length c1_1) l1_1) (h : exact_Gcd.f k a0_0 l0_1 a1_0 l1_1 = some (r1, r2)) :
 Calls Try.prog 41 #[.agg #[.bool a0_0, .slice A0_1 l0_1.length c0_1], .agg #[.bool a1_0, .slice A1_1 l1_1.length c1_1]] w fun e w' => ∃ v1_ : Value, e = .returned (.agg #[.bool r1, v1_]) ∧ Kd.V (Kd.int .u32) 97 w' w.heap.size (fun k_ => ((P0_1_ k_ ∨ P1_1_ k_) ∨ w.heap.size ≤ k_)) v1_ r2 ∧ Below w.heap.size w w' := by
 have HO0_1 := Aside0.mk (show Kd.V (Kd.int .u32) 97 w w.heap.size (fun k_ => ((P0_1_ k_ ∨ P1_1_ k_) ∨ w.heap.size ≤ k_)) (.slice A0_1 l0_1.length c0_1) l0_1 from Kd.V_mono hs0_1 (fun k_ hk => .inl (.inl hk)))
 have HO1_1 := Aside0.mk (show Kd.V (Kd.int .u32) 97 w w.heap.size (fun k_ => ((P0_1_ k_ ∨ P1_1_ k_) ∨ w.heap.size ≤ k_)) (.slice A1_1 l1_1.length c1_1) l1_1 from Kd.V_mono hs1_1 (fun k_ hk => .inl (.inr hk)))
 have HB := Aside0.mk (Below.refl w.heap.size w)
 have H : ((exact_Abs.f a0_0 l0_1).bind fun bt231 => ((exact_Abs.f a1_0 l1_1).bind fun bt235 => (exact_Gcd.l0 k bt231.1 bt231.2 bt235.1 bt235.2))) = some (r1, r2) := h
 clear h
 replace H := Option.bind_eq_some_iff.mp H
 obtain ⟨⟨t231, t232⟩, A30, H⟩ := H
 replace H : ((exact_Abs.f a1_0 l1_1).bind fun bt235 => (exact_Gcd.l0 k t231 t232 bt235.1 bt235.2)) = some (r1, r2) := H
 have A3 := Aside0.mk A30
 clear A30
 replace H := Option.bind_eq_some_iff.mp H
 obtain ⟨⟨t235, t236⟩, A40, H⟩ := H
 replace H : (exact_Gcd.l0 k t231 t232 t235 t236) = some (r1, r2) := H
 have A4 := Aside0.mk A40
 clear A40
 have H' := Aside0.mk H
 clear H
 go_enter Try.func41, Try.ntmps41
 try go_wp2_with (first | ((with_reducible refine gate_dst (N := 2) rfl ?_); refine box_event ?hg (N := 2) ?hd (cs := #[.bool a0_0, .slice A0_1 l0_1.length c0_1]) (t := 43) ?hr ?_; (case hd => rfl); (case hg => rfl); (case hr => first | (go_simp; done) | (go_simp; rfl)); intro gb228 hg w5 hbox hb; replace HO0_1 := Aside0.mk (Kd.V_below (Kd.V_elderB (vk HO0_1.out) gb228 (Nat.le_of_eq hg.symm)) hb); replace HO1_1 := Aside0.mk (Kd.V_below (Kd.V_elderB (vk HO1_1.out) gb228 (Nat.le_of_eq hg.symm)) hb); have BK228 := Aside0.mk (hbox); have GE228 := Aside0.mk (ge (w := w) hg); replace HB := Aside0.mk (below_step bl hb); clear hb hbox hg) | ((with_reducible refine gate_dst (N := 3) rfl ?_); refine box_event ?hg (N := 3) ?hd (cs := #[.bool a1_0, .slice A1_1 l1_1.length c1_1]) (t := 43) ?hr ?_; (case hd => rfl); (case hg => rfl); (case hr => first | (go_simp; done) | (go_simp; rfl)); intro gb229 hg w6 hbox hb; replace HO0_1 := Aside0.mk (Kd.V_below (Kd.V_elderB (vk HO0_1.out) gb229 (Nat.le_of_eq hg.symm)) hb); replace HO1_1 := Aside0.mk (Kd.V_below (Kd.V_elderB (vk HO1_1.out) gb229 (Nat.le_of_eq hg.symm)) hb); have BK229 := Aside0.mk (hbox); have GE229 := Aside0.mk (ge (w := w) hg); replace HB := Aside0.mk (below_step bl hb); have NB228_229 := Aside0.mk (nl hg (bk BK228.out)); have NB229_228 := Aside0.mk (ng hg (bk BK228.out)); replace BK228 := Aside0.mk (bb BK228.out hb); clear hb hbox hg) | ((with_reducible refine gate_dst (N := 4) rfl ?_); refine box_event ?hg (N := 4) ?hd (cs := #[.bool false, .slice none 0 0]) (t := 43) ?hr ?_; (case hd => rfl); (case hg => rfl); (case hr => first | (go_simp; done) | (go_simp; rfl)); intro gb230 hg w7 hbox hb; replace HO0_1 := Aside0.mk (Kd.V_below (Kd.V_elderB (vk HO0_1.out) gb230 (Nat.le_of_eq hg.symm)) hb); replace HO1_1 := Aside0.mk (Kd.V_below (Kd.V_elderB (vk HO1_1.out) gb230 (Nat.le_of_eq hg.symm)) hb); have BK230 := Aside0.mk (hbox); have GE230 := Aside0.mk (ge (w := w) hg); replace HB := Aside0.mk (below_step bl hb); have NB228_230 := Aside0.mk (nl hg (bk BK228.out)); have NB230_228 := Aside0.mk (ng hg (bk BK228.out)); replace BK228 := Aside0.mk (bb BK228.out hb); have NB229_230 := Aside0.mk (nl hg (bk BK229.out)); have NB230_229 := Aside0.mk (ng hg (bk BK229.out)); replace BK229 := Aside0.mk (bb BK229.out hb); clear hb hbox hg))
 replace HO0_1 := Aside0.mk (Kd.V_drew HO0_1.out); replace HO1_1 := Aside0.mk (Kd.V_drew HO1_1.out); replace BK228 := Aside0.mk (blk_drew BK228.out); replace BK229 := Aside0.mk (blk_drew BK229.out); replace BK230 := Aside0.mk (blk_drew BK230.out); replace HB := Aside0.mk (below_drew1 HB.out)
 refine start_ (n := 6) (S := fun w' => w'.cell? ⟨gb228, 0, none⟩ = some (.bool a0_0) ∧ w'.cell? ⟨gb228, 1, none⟩ = some (.slice A0_1 l0_1.length c0_1) ∧ w'.cell? ⟨gb229, 0, none⟩ = some (.bool a1_0) ∧ w'.cell? ⟨gb229, 1, none⟩ = some (.slice A1_1 l1_1.length c1_1)) (ds := [4, 5]) #[false,false,false,false,false,false] (by kernel_rfl) rfl rfl ⟨(blk_cell BK228.out 0).trans rfl, (blk_cell BK228.out 1).trans rfl, (blk_cell BK229.out 0).trans rfl, (blk_cell BK229.out 1).trans rfl⟩ (fun hHeld => ?_)
 generalize w7.drew = w8 at HO0_1 HO1_1 BK228 BK229 BK230 HB hHeld ⊢
 refine take_ (i := 0) (N := some 7) (v := ?_) (a' := ?_) #[true,false,false,false,false,false] rfl rfl (by kernel_rfl) (fun _ _ _ h => h) (Or.inl ⟨by rfl, ?_⟩) hHeld ?_ ?_
 rotate_left
 · rintro w' ⟨s0, s1, s2, s3⟩
   go_simp
   with_reducible rfl
 rotate_left; focus (simp only [Act.put, List.setIfInBounds_toArray, List.set_cons_zero, List.set_cons_succ, i64_w, i32_w]; rfl)
 refine take_ (i := 2) (N := some 9) (v := ?_) (a' := ?_) #[true,false,true,false,false,false] rfl rfl (by kernel_rfl) (fun _ _ _ h => h) (Or.inl ⟨by rfl, ?_⟩) hHeld ?_ ?_
 rotate_left
 · rintro w' ⟨s0, s1, s2, s3⟩
   go_simp
   with_reducible rfl
 rotate_left; focus (simp only [Act.put, List.setIfInBounds_toArray, List.set_cons_zero, List.set_cons_succ, i64_w, i32_w]; rfl)
 refine one_ (i := 1) (N := some 8) #[true,true,true,false,false,false] rfl rfl (by kernel_rfl) (by decide) (fun K hK => ?_)
 refine goes_ Try.func30 (by kernel_rfl) rfl #[.agg #[.bool a0_0, .slice A0_1 l0_1.length c0_1]] (by rfl) rfl rfl (by (try simp only [List.map_toArray, List.map_cons, List.map_nil]); first | done | rfl | (simp only [List.length_drop, List.length_take]; rfl)) ?_
 with_reducible refine (exact_Abs.calls a0_0 (fun k_ => (((((P0_1_ k_ ∨ P1_1_ k_) ∨ w.heap.size ≤ k_) ∧ k_ ≠ gb228) ∧ k_ ≠ gb229) ∧ k_ ≠ gb230)) _ _ l0_1 t231 t232 _ ?side1 A3.out).mono ?_
 (case side1 => exact HO0_1.out)
 rintro e w9 ⟨v233, rfl, ho0, hb⟩
 refine ⟨_, rfl, ?_⟩
 replace HO0_1 := Aside0.mk (vb HO0_1.out hb); replace HO1_1 := Aside0.mk (vb HO1_1.out hb); have HO234 := Aside0.mk (Kd.V_lower (Kd.V_mono (ok' := fun k_ => ((P0_1_ k_ ∨ P1_1_ k_) ∨ w.heap.size ≤ k_) ∧ k_ ≠ gb228 ∧ k_ ≠ gb229 ∧ k_ ≠ gb230) ho0 (fun k_ hk_ => ⟨Or.elim hk_ (fun hs_ => hs_.1.1.1) (fun hn_ => (.inr (Nat.le_trans (below_size bl) hn_))), Or.elim hk_ (fun hs_ => hs_.1.1.2) (fun hn_ => (Kd.freshB (g := gb228) (o := .cells #[.bool a0_0, .slice A0_1 l0_1.length c0_1] 43 (0, 0)) (bk BK228.out) k_ hn_)), Or.elim hk_ (fun hs_ => hs_.1.2) (fun hn_ => (Kd.freshB (g := gb229) (o := .cells #[.bool a1_0, .slice A1_1 l1_1.length c1_1] 43 (0, 0)) (bk BK229.out) k_ hn_)), Or.elim hk_ (fun hs_ => hs_.2) (fun hn_ => (Kd.freshB (g := gb230) (o := .cells #[.bool false, .slice none 0 0] 43 (0, 0)) (bk BK230.out) k_ hn_))⟩)) (below_size bl)); replace BK228 := Aside0.mk (bb BK228.out hb); replace BK229 := Aside0.mk (bb BK229.out hb); replace BK230 := Aside0.mk (bb BK230.out hb); replace HB := Aside0.mk (below_step bl hb)
 (try clear hb)
 (try clear hb2)
 (try clear hk)
 (try clear hi)
 (try clear ho0)
 refine hK.out _ _ ⟨(blk_cell BK228.out 0).trans rfl, (blk_cell BK228.out 1).trans rfl, (blk_cell BK229.out 0).trans rfl, (blk_cell BK229.out 1).trans rfl⟩ (fun hHeld => ?_)
 clear hK K
 refine norm_ (a' := ?_) ?_ ?_
 rotate_left; focus (show Act.put _ (some 8) _ = _; simp only [Act.put, List.setIfInBounds_toArray, List.set_cons_zero, List.set_cons_succ, i64_w, i32_w]; rfl)
 refine one_ (i := 3) (N := some 10) #[true,true,true,true,false,false] rfl rfl (by kernel_rfl) (by decide) (fun K hK => ?_)
 refine goes_ Try.func30 (by kernel_rfl) rfl #[.agg #[.bool a1_0, .slice A1_1 l1_1.length c1_1]] (by rfl) rfl rfl (by (try simp only [List.map_toArray, List.map_cons, List.map_nil]); first | done | rfl | (simp only [List.length_drop, List.length_take]; rfl)) ?_
 with_reducible refine (exact_Abs.calls a1_0 (fun k_ => (((((P0_1_ k_ ∨ P1_1_ k_) ∨ w.heap.size ≤ k_) ∧ k_ ≠ gb228) ∧ k_ ≠ gb229) ∧ k_ ≠ gb230)) _ _ l1_1 t235 t236 _ ?side1 A4.out).mono ?_
 (case side1 => exact HO1_1.out)
 rintro e w10 ⟨v237, rfl, ho0, hb⟩
 refine ⟨_, rfl, ?_⟩
 have n0_ := Aside0.mk (vb HO0_1.out hb)
 have n1_ := Aside0.mk (vb HO1_1.out hb)
 have n2_ := Aside0.mk (vb HO234.out hb)
 have n3_ := Aside0.mk (Kd.V_lower (Kd.V_mono (ok' := fun k_ => ((P0_1_ k_ ∨ P1_1_ k_) ∨ w.heap.size ≤ k_) ∧ k_ ≠ gb228 ∧ k_ ≠ gb229 ∧ k_ ≠ gb230) ho0 (fun k_ hk_ => ⟨Or.elim hk_ (fun hs_ => hs_.1.1.1) (fun hn_ => (.inr (Nat.le_trans (below_size bl) hn_))), Or.elim hk_ (fun hs_ => hs_.1.1.2) (fun hn_ => (Kd.freshB (g := gb228) (o := .cells #[.bool a0_0, .slice A0_1 l0_1.length c0_1] 43 (0, 0)) (bk BK228.out) k_ hn_)), Or.elim hk_ (fun hs_ => hs_.1.2) (fun hn_ => (Kd.freshB (g := gb229) (o := .cells #[.bool a1_0, .slice A1_1 l1_1.length c1_1] 43 (0, 0)) (bk BK229.out) k_ hn_)), Or.elim hk_ (fun hs_ => hs_.2) (fun hn_ => (Kd.freshB (g := gb230) (o := .cells #[.bool false, .slice none 0 0] 43 (0, 0)) (bk BK230.out) k_ hn_))⟩)) (below_size bl))
 have n4_ := Aside0.mk (bb BK228.out hb)
 have n5_ := Aside0.mk (bb BK229.out hb)
 have n6_ := Aside0.mk (bb BK230.out hb)
 have n7_ := Aside0.mk (below_step bl hb)
 clear HO0_1
 clear HO1_1
 clear HO234
 clear BK228
 clear BK229
 clear BK230
 clear HB
 have HO234 := n2_
 have HO238 := n3_
 have BK228 := n4_
 have BK229 := n5_
 have BK230 := n6_
 have HB := n7_
 clear n0_ n1_ n2_ n3_ n4_ n5_ n6_ n7_
 (try clear hb)
 (try clear hb2)
 (try clear hk)
 (try clear hi)
 (try clear ho0)
 obtain ⟨Ao12, co12, eo12⟩ := Kd.V_slice HO234.out
 (first | subst eo12 | (injection eo12 with f1_ f2_ f3_; have f4_ := f1_.symm; have f5_ := f3_.symm; clear f1_ f2_ f3_; subst f4_; subst f5_))
 obtain ⟨Ao15, co15, eo15⟩ := Kd.V_slice HO238.out
 (first | subst eo15 | (injection eo15 with f1_ f2_ f3_; have f4_ := f1_.symm; have f5_ := f3_.symm; clear f1_ f2_ f3_; subst f4_; subst f5_))
 refine hK.out _ _ ⟨(blk_cell BK228.out 0).trans rfl, (blk_cell BK228.out 1).trans rfl, (blk_cell BK229.out 0).trans rfl, (blk_cell BK229.out 1).trans rfl⟩ (fun hHeld => ?_)
 clear hK K
 refine norm_ (a' := ?_) ?_ ?_
 rotate_left; focus (show Act.put _ (some 10) _ = _; simp only [Act.put, List.setIfInBounds_toArray, List.set_cons_zero, List.set_cons_succ, i64_w, i32_w]; rfl)
 refine last_ (i := 4) (N := none) #[true,true,true,true,true,false] rfl rfl (by kernel_rfl) (by decide) (fun K hK => ?_)
 have hfs11 := blk_frozen BK228.out 0
 have hfs13 := blk_frozen BK228.out 1
 refine skip_ (w1 := ?_) (by rfl) rfl ?_ ?_
 rotate_left; focus (go_simp; rfl)
 refine hK.out _ _ ?_
 clear hK K
 refine last_ (i := 5) (N := none) #[true,true,true,true,true,true] rfl rfl (by kernel_rfl) (by decide) (fun K hK => ?_)
 have hfs14 := blk_frozen BK229.out 0
 have hfs16 := blk_frozen BK229.out 1
 have hms16_0 := NB229_228.out
 have hms16_2 := NB229_230.out
 refine skip_ (w1 := ?_) (by rfl) rfl ?_ ?_
 rotate_left; focus (go_simp; rfl)
 refine hK.out _ _ ?_
 clear hK K
 refine done_ (by kernel_rfl) ?_
 try go_wp2
 go_loopg [] k (fun kq w' => ∃ (x229000_1 : Bool) (x229001_1 : List Int) (x230000_1 : Bool) (x230001_1 : List Int) (u229001 : Value) (u230001 : Value), Aside0 (exact_Gcd.l0 kq x229000_1 x229001_1 x230000_1 x230001_1 = some (r1, r2)) ∧ Aside0 (kq ≤ k) ∧ Aside0 (Kd.V (Kd.int .u32) 97 w' w.heap.size (fun k_ => ((P0_1_ k_ ∨ P1_1_ k_) ∨ w.heap.size ≤ k_) ∧ k_ ≠ gb228 ∧ k_ ≠ gb229 ∧ k_ ≠ gb230) u229001 x229001_1) ∧ Aside0 (Kd.V (Kd.int .u32) 97 w' w.heap.size (fun k_ => ((P0_1_ k_ ∨ P1_1_ k_) ∨ w.heap.size ≤ k_) ∧ k_ ≠ gb228 ∧ k_ ≠ gb229 ∧ k_ ≠ gb230) u230001 x230001_1) ∧ Aside0 (w'.heap[gb228]? = some (.cells #[.bool x229000_1, u229001] 43 (0, 0))) ∧ Aside0 (w'.heap[gb229]? = some (.cells #[.bool x230000_1, u230001] 43 (0, 0))) ∧ Aside0 (w'.heap[gb230]? = some (.cells #[.bool false, (.slice none 0 0)] 43 (0, 0))) ∧ Aside0 (Below w.heap.size w w'))
 case atStart => exact ⟨(t231), (t232), (t235), (t236), (.slice Ao12 t232.length co12), (.slice Ao15 t236.length co15), H', ⟨Nat.le_refl _⟩, ⟨by (with_reducible repeat (first | apply Kd.V_alloc | apply Kd.V_drewN | apply Kd.V_drew)); exact Kd.V_mono (Kd.V_far (p := ⟨gb229, 1, none⟩) (Kd.V_far (p := ⟨gb229, 0, none⟩) (Kd.V_far (p := ⟨gb228, 1, none⟩) (Kd.V_far (p := ⟨gb228, 0, none⟩) (Kd.V_mono (Kd.V_mono HO234.out (fun k_ hk => (⟨hk, hk.2.1⟩ : _ ∧ k_ ≠ gb228))) (fun k_ hk => (⟨hk, hk.1.2.2.1⟩ : _ ∧ k_ ≠ gb229))) (fun _ hk => hk.1.2) (.bool t231)) (fun _ hk => hk.1.2) (.slice Ao12 t232.length co12)) (fun _ hk => hk.2) (.bool t235)) (fun _ hk => hk.2) (.slice Ao15 t236.length co15)) (fun _ hk => ⟨hk.1.1.1, ⟨hk.1.1.2.1, ⟨hk.1.1.2.2.1, hk.1.1.2.2.2⟩⟩⟩)⟩, ⟨by (with_reducible repeat (first | apply Kd.V_alloc | apply Kd.V_drewN | apply Kd.V_drew)); exact Kd.V_mono (Kd.V_far (p := ⟨gb229, 1, none⟩) (Kd.V_far (p := ⟨gb229, 0, none⟩) (Kd.V_far (p := ⟨gb228, 1, none⟩) (Kd.V_far (p := ⟨gb228, 0, none⟩) (Kd.V_mono (Kd.V_mono HO238.out (fun k_ hk => (⟨hk, hk.2.1⟩ : _ ∧ k_ ≠ gb228))) (fun k_ hk => (⟨hk, hk.1.2.2.1⟩ : _ ∧ k_ ≠ gb229))) (fun _ hk => hk.1.2) (.bool t231)) (fun _ hk => hk.1.2) (.slice Ao12 t232.length co12)) (fun _ hk => hk.2) (.bool t235)) (fun _ hk => hk.2) (.slice Ao15 t236.length co15)) (fun _ hk => ⟨hk.1.1.1, ⟨hk.1.1.2.1, ⟨hk.1.1.2.2.1, hk.1.1.2.2.2⟩⟩⟩)⟩, ⟨by (with_reducible repeat (first | refine blk_drewN ?_ _ | refine blk_drew ?_ | refine blk_alloc ?_ _)); refine blk_far ?_ NB228_229.out _; (with_reducible repeat (first | refine blk_drewN ?_ _ | refine blk_drew ?_ | refine blk_alloc ?_ _)); refine blk_far ?_ NB228_229.out _; (with_reducible repeat (first | refine blk_drewN ?_ _ | refine blk_drew ?_ | refine blk_alloc ?_ _)); refine blk_put (cs := #[.bool t231, .slice A0_1 l0_1.length c0_1]) ?_ 1 _ rfl; (with_reducible repeat (first | refine blk_drewN ?_ _ | refine blk_drew ?_ | refine blk_alloc ?_ _)); refine blk_put (cs := #[.bool a0_0, .slice A0_1 l0_1.length c0_1]) ?_ 0 _ rfl; (with_reducible repeat (first | refine blk_drewN ?_ _ | refine blk_drew ?_ | refine blk_alloc ?_ _)); exact BK228.out⟩, ⟨by (with_reducible repeat (first | refine blk_drewN ?_ _ | refine blk_drew ?_ | refine blk_alloc ?_ _)); refine blk_put (cs := #[.bool t235, .slice A1_1 l1_1.length c1_1]) ?_ 1 _ rfl; (with_reducible repeat (first | refine blk_drewN ?_ _ | refine blk_drew ?_ | refine blk_alloc ?_ _)); refine blk_put (cs := #[.bool a1_0, .slice A1_1 l1_1.length c1_1]) ?_ 0 _ rfl; (with_reducible repeat (first | refine blk_drewN ?_ _ | refine blk_drew ?_ | refine blk_alloc ?_ _)); refine blk_far ?_ NB229_228.out _; (with_reducible repeat (first | refine blk_drewN ?_ _ | refine blk_drew ?_ | refine blk_alloc ?_ _)); refine blk_far ?_ NB229_228.out _; (with_reducible repeat (first | refine blk_drewN ?_ _ | refine blk_drew ?_ | refine blk_alloc ?_ _)); exact BK229.out⟩, ⟨bf BK230.out⟩, ⟨bl⟩⟩
 clear H'
 obtain ⟨x229000_1, x229001_1, x230000_1, x230001_1, u229001, u230001, HA, HK1, HO_229001, HO_230001, BK228, BK229, BK230, HB⟩ := hrel
 cases gk with
 | zero => exact absurd HA.out (by simp [exact_Gcd.l0])
 | succ k1 =>
  have H := HA.out
  clear HA
  simp only [exact_Gcd.l0] at H
  replace H := Option.bind_eq_some_iff.mp H
  obtain ⟨t239, A170, H⟩ := H
  replace H : (if t239 = 0 then (some (x229000_1, x229001_1)) else ((exact_split.f k1 x229000_1 x229001_1 x230000_1 x230001_1).bind fun bt240 => (exact_Gcd.l0 k1 x230000_1 x230001_1 bt240.2.2.1 bt240.2.2.2))) = some (r1, r2) := H
  have A17 := Aside0.mk A170
  clear A170
  by_cases c18 : t239 = 0
  · rw [if_pos c18] at H
    have c18b1 : (t239 != 0) = false := bne_eq_false_iff_eq.mpr c18
    clear c18
    simp only [Option.some.injEq, Prod.mk.injEq] at H
    obtain ⟨rfl, rfl⟩ := H
    obtain ⟨hcz21_0, hcz21_1, hfz21_0, hfz21_1⟩ := bz2 BK229.out
    obtain ⟨Ao22, co22, eo22⟩ := Kd.V_slice HO_230001.out
    subst eo22
    go_wp2_with ((with_reducible refine gate_callee (f := 23) rfl ?_); refine goesL_ (some 12) rfl rfl Try.func23 (by kernel_rfl) rfl #[.agg #[.bool x230000_1, .slice Ao22 x230001_1.length co22]] rfl (by (try simp only [List.map_toArray, List.map_cons, List.map_nil]); first | done | rfl | (simp only [List.length_drop, List.length_take]; rfl)) ?_; (with_reducible refine (exact_Sign.calls x230000_1 _ _ x230001_1 t239 _ ?side1 ?side2 A17.out).mono ?_); (case side1 => exact kc ((Kd.V_reads' HO_230001.out).2.2)); (case side2 => exact (Kd.V_reads' HO_230001.out).2.1); rintro e w23 ⟨rfl, hb⟩; refine ⟨_, rfl, ?_⟩; replace HO_229001 := Aside0.mk (vb HO_229001.out hb); replace HO_230001 := Aside0.mk (vb HO_230001.out hb); replace BK228 := Aside0.mk (bb BK228.out hb); replace BK229 := Aside0.mk (bb BK229.out hb); replace BK230 := Aside0.mk (bb BK230.out hb); replace HB := Aside0.mk (below_step bl hb); (try clear hb); obtain ⟨hcz25_0, hcz25_1, hfz25_0, hfz25_1⟩ := bz2 BK228.out; obtain ⟨hcz26_0, hcz26_1, hfz26_0, hfz26_1⟩ := bz2 BK230.out; obtain ⟨Ao27, co27, eo27⟩ := Kd.V_slice HO_229001.out; subst eo27)
    refine bodyPost_ret (results_cell_row rfl _ _ gb230 43 #[.bool x229000_1, .slice Ao27 x229001_1.length co27] (0, 0) _ rfl (by (with_reducible repeat (first | refine blk_drewN ?_ _ | refine blk_drew ?_ | refine blk_alloc ?_ _)); refine blk_put (cs := #[.bool x229000_1, .slice none 0 0]) ?_ 1 _ rfl; (with_reducible repeat (first | refine blk_drewN ?_ _ | refine blk_drew ?_ | refine blk_alloc ?_ _)); refine blk_put (cs := #[.bool false, .slice none 0 0]) ?_ 0 _ rfl; (with_reducible repeat (first | refine blk_drewN ?_ _ | refine blk_drew ?_ | refine blk_alloc ?_ _)); exact BK230.out) Try.underlying43 rfl (by kernel_rfl)) rfl ?_
    exact ⟨_, by first | rfl | (simp [errW_none, errW_some] <;> rfl) | (simp [*, errW_none, errW_some] <;> rfl), by (with_reducible repeat (first | apply Kd.V_alloc | apply Kd.V_drewN | apply Kd.V_drew)); exact Kd.V_mono (Kd.V_far (p := ⟨gb230, 1, none⟩) (Kd.V_far (p := ⟨gb230, 0, none⟩) (Kd.V_mono HO_229001.out (fun k_ hk => (⟨hk, hk.2.2.2⟩ : _ ∧ k_ ≠ gb230))) (fun _ hk => hk.2) (.bool x229000_1)) (fun _ hk => hk.2) (.slice Ao27 x229001_1.length co27)) (fun _ hk => hk.1.1), bl⟩
  rw [if_neg c18] at H
  have c18b1 : (t239 != 0) = true := bne_iff_ne.mpr c18
  replace H := Option.bind_eq_some_iff.mp H
  obtain ⟨⟨t240, t241, t244, t245⟩, A280, H⟩ := H
  replace H : (exact_Gcd.l0 k1 x230000_1 x230001_1 t244 t245) = some (r1, r2) := H
  have A28 := Aside0.mk A280
  clear A280
  have H' := Aside0.mk H
  clear H
  obtain ⟨hcz31_0, hcz31_1, hfz31_0, hfz31_1⟩ := bz2 BK229.out
  obtain ⟨Ao32, co32, eo32⟩ := Kd.V_slice HO_230001.out
  subst eo32
  try go_wp2_with (first | ((with_reducible refine gate_callee (f := 23) rfl ?_); refine goesL_ (some 12) rfl rfl Try.func23 (by kernel_rfl) rfl #[.agg #[.bool x230000_1, .slice Ao32 x230001_1.length co32]] rfl (by (try simp only [List.map_toArray, List.map_cons, List.map_nil]); first | done | rfl | (simp only [List.length_drop, List.length_take]; rfl)) ?_; (with_reducible refine (exact_Sign.calls x230000_1 _ _ x230001_1 t239 _ ?side1 ?side2 A17.out).mono ?_); (case side1 => exact kc ((Kd.V_reads' HO_230001.out).2.2)); (case side2 => exact (Kd.V_reads' HO_230001.out).2.1); rintro e w33 ⟨rfl, hb⟩; refine ⟨_, rfl, ?_⟩; replace HO_229001 := Aside0.mk (vb HO_229001.out hb); replace HO_230001 := Aside0.mk (vb HO_230001.out hb); replace BK228 := Aside0.mk (bb BK228.out hb); replace BK229 := Aside0.mk (bb BK229.out hb); replace BK230 := Aside0.mk (bb BK230.out hb); replace HB := Aside0.mk (below_step bl hb); (try clear hb); obtain ⟨hcz35_0, hcz35_1, hfz35_0, hfz35_1⟩ := bz2 BK228.out; obtain ⟨hcz36_0, hcz36_1, hfz36_0, hfz36_1⟩ := bz2 BK229.out; obtain ⟨Ao37, co37, eo37⟩ := Kd.V_slice HO_229001.out; subst eo37) | ((with_reducible refine gate_callee (f := 80) rfl ?_); refine goesL_ (some 17) rfl rfl Try.func80 (by kernel_rfl) rfl #[.agg #[.bool x229000_1, .slice Ao37 x229001_1.length co37], .agg #[.bool x230000_1, .slice Ao32 x230001_1.length co32]] rfl (by (try simp only [List.map_toArray, List.map_cons, List.map_nil]); first | done | rfl | (simp only [List.length_drop, List.length_take]; rfl)) ?_; (with_reducible refine (exact_split.calls k1 x229000_1 (fun k_ => (((P0_1_ k_ ∨ P1_1_ k_) ∨ w.heap.size ≤ k_) ∧ (k_ ≠ gb228 ∧ (k_ ≠ gb229 ∧ k_ ≠ gb230)))) _ _ x229001_1 x230000_1 _ _ x230001_1 t240 t241 t244 t245 _ ?side1 ?side2 ?side3 A28.out).mono ?_); (case side1 => exact HO_229001.out); (case side2 => exact kc ((Kd.V_reads' HO_230001.out).2.2)); (case side3 => exact (Kd.V_reads' HO_230001.out).2.1); rintro e w38 ⟨v242, v246, rfl, ho0, ho1, hb⟩; refine ⟨_, rfl, ?_⟩; replace HO_229001 := Aside0.mk (vb HO_229001.out hb); replace HO_230001 := Aside0.mk (vb HO_230001.out hb); have HO243 := Aside0.mk (Kd.V_lower (Kd.V_mono (ok' := fun k_ => ((P0_1_ k_ ∨ P1_1_ k_) ∨ w.heap.size ≤ k_) ∧ k_ ≠ gb228 ∧ k_ ≠ gb229 ∧ k_ ≠ gb230) ho0 (fun k_ hk_ => ⟨Or.elim hk_ (fun hs_ => hs_.1) (fun hn_ => (.inr (Nat.le_trans (below_size bl) hn_))), Or.elim hk_ (fun hs_ => hs_.2.1) (fun hn_ => (Kd.freshB (g := gb228) (o := .cells #[.bool x229000_1, .slice Ao37 x229001_1.length co37] 43 (0, 0)) (bk BK228.out) k_ hn_)), Or.elim hk_ (fun hs_ => hs_.2.2.1) (fun hn_ => (Kd.freshB (g := gb229) (o := .cells #[.bool x230000_1, .slice Ao32 x230001_1.length co32] 43 (0, 0)) (bk BK229.out) k_ hn_)), Or.elim hk_ (fun hs_ => hs_.2.2.2) (fun hn_ => (Kd.freshB (g := gb230) (o := .cells #[.bool false, .slice none 0 0] 43 (0, 0)) (bk BK230.out) k_ hn_))⟩)) (below_size bl)); have HO247 := Aside0.mk (Kd.V_lower (Kd.V_mono (ok' := fun k_ => ((P0_1_ k_ ∨ P1_1_ k_) ∨ w.heap.size ≤ k_) ∧ k_ ≠ gb228 ∧ k_ ≠ gb229 ∧ k_ ≠ gb230) ho1 (fun k_ hk_ => ⟨Or.elim hk_ (fun hs_ => hs_.1) (fun hn_ => (.inr (Nat.le_trans (below_size bl) hn_))), Or.elim hk_ (fun hs_ => hs_.2.1) (fun hn_ => (Kd.freshB (g := gb228) (o := .cells #[.bool x229000_1, .slice Ao37 x229001_1.length co37] 43 (0, 0)) (bk BK228.out) k_ hn_)), Or.elim hk_ (fun hs_ => hs_.2.2.1) (fun hn_ => (Kd.freshB (g := gb229) (o := .cells #[.bool x230000_1, .slice Ao32 x230001_1.length co32] 43 (0, 0)) (bk BK229.out) k_ hn_)), Or.elim hk_ (fun hs_ => hs_.2.2.2) (fun hn_ => (Kd.freshB (g := gb230) (o := .cells #[.bool false, .slice none 0 0] 43 (0, 0)) (bk BK230.out) k_ hn_))⟩)) (below_size bl)); replace BK228 := Aside0.mk (bb BK228.out hb); replace BK229 := Aside0.mk (bb BK229.out hb); replace BK230 := Aside0.mk (bb BK230.out hb); replace HB := Aside0.mk (below_step bl hb); (try clear hb); (try clear ho0); (try clear ho1)) | ((with_reducible refine gate_dst (N := 5) rfl ?_); refine box_event ?hg (N := 5) ?hd (cs := #[.bool false, .slice none 0 0]) (t := 43) ?hr ?_; (case hd => rfl); (case hg => rfl); (case hr => first | (go_simp; done) | (go_simp; rfl)); intro gb248 hg w39 hbox hb; replace HO_229001 := Aside0.mk (Kd.V_below (Kd.V_elderB (vk HO_229001.out) gb248 (Nat.le_of_eq hg.symm)) hb); replace HO_230001 := Aside0.mk (Kd.V_below (Kd.V_elderB (vk HO_230001.out) gb248 (Nat.le_of_eq hg.symm)) hb); replace HO243 := Aside0.mk (Kd.V_below (Kd.V_elderB (vk HO243.out) gb248 (Nat.le_of_eq hg.symm)) hb); replace HO247 := Aside0.mk (Kd.V_below (Kd.V_elderB (vk HO247.out) gb248 (Nat.le_of_eq hg.symm)) hb); have BK248 := Aside0.mk (hbox); have GE248 := Aside0.mk (ge (w := w) hg); replace HB := Aside0.mk (below_step bl hb); have NB228_248 := Aside0.mk (nl hg (bk BK228.out)); have NB248_228 := Aside0.mk (ng hg (bk BK228.out)); replace BK228 := Aside0.mk (bb BK228.out hb); have NB229_248 := Aside0.mk (nl hg (bk BK229.out)); have NB248_229 := Aside0.mk (ng hg (bk BK229.out)); replace BK229 := Aside0.mk (bb BK229.out hb); have NB230_248 := Aside0.mk (nl hg (bk BK230.out)); have NB248_230 := Aside0.mk (ng hg (bk BK230.out)); replace BK230 := Aside0.mk (bb BK230.out hb); clear hb hbox hg) | ((with_reducible refine gate_dst (N := 6) rfl ?_); refine box_event ?hg (N := 6) ?hd (cs := #[.bool false, .slice none 0 0]) (t := 43) ?hr ?_; (case hd => rfl); (case hg => rfl); (case hr => first | (go_simp; done) | (go_simp; rfl)); intro gb249 hg w40 hbox hb; replace HO_229001 := Aside0.mk (Kd.V_below (Kd.V_elderB (vk HO_229001.out) gb249 (Nat.le_of_eq hg.symm)) hb); replace HO_230001 := Aside0.mk (Kd.V_below (Kd.V_elderB (vk HO_230001.out) gb249 (Nat.le_of_eq hg.symm)) hb); replace HO243 := Aside0.mk (Kd.V_below (Kd.V_elderB (vk HO243.out) gb249 (Nat.le_of_eq hg.symm)) hb); replace HO247 := Aside0.mk (Kd.V_below (Kd.V_elderB (vk HO247.out) gb249 (Nat.le_of_eq hg.symm)) hb); have BK249 := Aside0.mk (hbox); have GE249 := Aside0.mk (ge (w := w) hg); replace HB := Aside0.mk (below_step bl hb); have NB228_249 := Aside0.mk (nl hg (bk BK228.out)); have NB249_228 := Aside0.mk (ng hg (bk BK228.out)); replace BK228 := Aside0.mk (bb BK228.out hb); have NB229_249 := Aside0.mk (nl hg (bk BK229.out)); have NB249_229 := Aside0.mk (ng hg (bk BK229.out)); replace BK229 := Aside0.mk (bb BK229.out hb); have NB230_249 := Aside0.mk (nl hg (bk BK230.out)); have NB249_230 := Aside0.mk (ng hg (bk BK230.out)); replace BK230 := Aside0.mk (bb BK230.out hb); have NB248_249 := Aside0.mk (nl hg (bk BK248.out)); have NB249_248 := Aside0.mk (ng hg (bk BK248.out)); replace BK248 := Aside0.mk (bb BK248.out hb); clear hb hbox hg; have hnc44 := NB249_248.out; obtain ⟨hcz45_0, hcz45_1, hfz45_0, hfz45_1⟩ := bz2 BK248.out; obtain ⟨Ao46, co46, eo46⟩ := Kd.V_slice HO243.out; subst eo46; have hnb47 := NB249_228.out; have hnc47 := NB228_249.out; have hnb48 := NB249_229.out; have hnc48 := NB229_249.out; have hnb49 := NB249_230.out; have hnc49 := NB230_249.out; obtain ⟨hcz50_0, hcz50_1, hfz50_0, hfz50_1⟩ := bz2 BK249.out; obtain ⟨Ao51, co51, eo51⟩ := Kd.V_slice HO247.out; subst eo51))
  have n0_ : Aside0 (Kd.V (Kd.int .u32) 97 ((((w40.setCell ⟨gb248, 0, none⟩ (.bool t240)).setCell ⟨gb248, 1, none⟩ (.slice Ao46 t241.length co46)).setCell ⟨gb249, 0, none⟩ (.bool t244)).setCell ⟨gb249, 1, none⟩ (.slice Ao51 t245.length co51)) w.heap.size (fun k_ => ((P0_1_ k_ ∨ P1_1_ k_) ∨ w.heap.size ≤ k_) ∧ k_ ≠ gb228 ∧ k_ ≠ gb229 ∧ k_ ≠ gb230 ∧ k_ ≠ gb248 ∧ k_ ≠ gb249) (.slice Ao37 x229001_1.length co37) x229001_1) := ⟨by (with_reducible repeat (first | apply Kd.V_alloc | apply Kd.V_drewN | apply Kd.V_drew)); exact Kd.V_mono (Kd.V_far (p := ⟨gb249, 1, none⟩) (Kd.V_far (p := ⟨gb249, 0, none⟩) (Kd.V_far (p := ⟨gb248, 1, none⟩) (Kd.V_far (p := ⟨gb248, 0, none⟩) (Kd.V_mono (Kd.V_mono HO_229001.out (fun k_ hk => (⟨hk, hk.1.2⟩ : _ ∧ k_ ≠ gb248))) (fun k_ hk => (⟨hk, hk.1.2⟩ : _ ∧ k_ ≠ gb249))) (fun _ hk => hk.1.2) (.bool t240)) (fun _ hk => hk.1.2) (.slice Ao46 t241.length co46)) (fun _ hk => hk.2) (.bool t244)) (fun _ hk => hk.2) (.slice Ao51 t245.length co51)) (fun _ hk => ⟨hk.1.1.1.1.1, ⟨hk.1.1.1.1.2.1, ⟨hk.1.1.1.1.2.2.1, ⟨hk.1.1.1.1.2.2.2, ⟨hk.1.1.1.2, hk.1.1.2⟩⟩⟩⟩⟩)⟩
  have n1_ : Aside0 (Kd.V (Kd.int .u32) 97 ((((w40.setCell ⟨gb248, 0, none⟩ (.bool t240)).setCell ⟨gb248, 1, none⟩ (.slice Ao46 t241.length co46)).setCell ⟨gb249, 0, none⟩ (.bool t244)).setCell ⟨gb249, 1, none⟩ (.slice Ao51 t245.length co51)) w.heap.size (fun k_ => ((P0_1_ k_ ∨ P1_1_ k_) ∨ w.heap.size ≤ k_) ∧ k_ ≠ gb228 ∧ k_ ≠ gb229 ∧ k_ ≠ gb230 ∧ k_ ≠ gb248 ∧ k_ ≠ gb249) (.slice Ao32 x230001_1.length co32) x230001_1) := ⟨by (with_reducible repeat (first | apply Kd.V_alloc | apply Kd.V_drewN | apply Kd.V_drew)); exact Kd.V_mono (Kd.V_far (p := ⟨gb249, 1, none⟩) (Kd.V_far (p := ⟨gb249, 0, none⟩) (Kd.V_far (p := ⟨gb248, 1, none⟩) (Kd.V_far (p := ⟨gb248, 0, none⟩) (Kd.V_mono (Kd.V_mono HO_230001.out (fun k_ hk => (⟨hk, hk.1.2⟩ : _ ∧ k_ ≠ gb248))) (fun k_ hk => (⟨hk, hk.1.2⟩ : _ ∧ k_ ≠ gb249))) (fun _ hk => hk.1.2) (.bool t240)) (fun _ hk => hk.1.2) (.slice Ao46 t241.length co46)) (fun _ hk => hk.2) (.bool t244)) (fun _ hk => hk.2) (.slice Ao51 t245.length co51)) (fun _ hk => ⟨hk.1.1.1.1.1, ⟨hk.1.1.1.1.2.1, ⟨hk.1.1.1.1.2.2.1, ⟨hk.1.1.1.1.2.2.2, ⟨hk.1.1.1.2, hk.1.1.2⟩⟩⟩⟩⟩)⟩
  have n2_ : Aside0 (Kd.V (Kd.int .u32) 97 ((((w40.setCell ⟨gb248, 0, none⟩ (.bool t240)).setCell ⟨gb248, 1, none⟩ (.slice Ao46 t241.length co46)).setCell ⟨gb249, 0, none⟩ (.bool t244)).setCell ⟨gb249, 1, none⟩ (.slice Ao51 t245.length co51)) w.heap.size (fun k_ => ((P0_1_ k_ ∨ P1_1_ k_) ∨ w.heap.size ≤ k_) ∧ k_ ≠ gb228 ∧ k_ ≠ gb229 ∧ k_ ≠ gb230 ∧ k_ ≠ gb248 ∧ k_ ≠ gb249) (.slice Ao46 t241.length co46) t241) := ⟨by (with_reducible repeat (first | apply Kd.V_alloc | apply Kd.V_drewN | apply Kd.V_drew)); exact Kd.V_mono (Kd.V_far (p := ⟨gb249, 1, none⟩) (Kd.V_far (p := ⟨gb249, 0, none⟩) (Kd.V_far (p := ⟨gb248, 1, none⟩) (Kd.V_far (p := ⟨gb248, 0, none⟩) (Kd.V_mono (Kd.V_mono HO243.out (fun k_ hk => (⟨hk, hk.1.2⟩ : _ ∧ k_ ≠ gb248))) (fun k_ hk => (⟨hk, hk.1.2⟩ : _ ∧ k_ ≠ gb249))) (fun _ hk => hk.1.2) (.bool t240)) (fun _ hk => hk.1.2) (.slice Ao46 t241.length co46)) (fun _ hk => hk.2) (.bool t244)) (fun _ hk => hk.2) (.slice Ao51 t245.length co51)) (fun _ hk => ⟨hk.1.1.1.1.1, ⟨hk.1.1.1.1.2.1, ⟨hk.1.1.1.1.2.2.1, ⟨hk.1.1.1.1.2.2.2, ⟨hk.1.1.1.2, hk.1.1.2⟩⟩⟩⟩⟩)⟩
  have n3_ : Aside0 (Kd.V (Kd.int .u32) 97 ((((w40.setCell ⟨gb248, 0, none⟩ (.bool t240)).setCell ⟨gb248, 1, none⟩ (.slice Ao46 t241.length co46)).setCell ⟨gb249, 0, none⟩ (.bool t244)).setCell ⟨gb249, 1, none⟩ (.slice Ao51 t245.length co51)) w.heap.size (fun k_ => ((P0_1_ k_ ∨ P1_1_ k_) ∨ w.heap.size ≤ k_) ∧ k_ ≠ gb228 ∧ k_ ≠ gb229 ∧ k_ ≠ gb230 ∧ k_ ≠ gb248 ∧ k_ ≠ gb249) (.slice Ao51 t245.length co51) t245) := ⟨by (with_reducible repeat (first | apply Kd.V_alloc | apply Kd.V_drewN | apply Kd.V_drew)); exact Kd.V_mono (Kd.V_far (p := ⟨gb249, 1, none⟩) (Kd.V_far (p := ⟨gb249, 0, none⟩) (Kd.V_far (p := ⟨gb248, 1, none⟩) (Kd.V_far (p := ⟨gb248, 0, none⟩) (Kd.V_mono (Kd.V_mono HO247.out (fun k_ hk => (⟨hk, hk.1.2⟩ : _ ∧ k_ ≠ gb248))) (fun k_ hk => (⟨hk, hk.1.2⟩ : _ ∧ k_ ≠ gb249))) (fun _ hk => hk.1.2) (.bool t240)) (fun _ hk => hk.1.2) (.slice Ao46 t241.length co46)) (fun _ hk => hk.2) (.bool t244)) (fun _ hk => hk.2) (.slice Ao51 t245.length co51)) (fun _ hk => ⟨hk.1.1.1.1.1, ⟨hk.1.1.1.1.2.1, ⟨hk.1.1.1.1.2.2.1, ⟨hk.1.1.1.1.2.2.2, ⟨hk.1.1.1.2, hk.1.1.2⟩⟩⟩⟩⟩)⟩
  have n4_ : Aside0 (((((w40.setCell ⟨gb248, 0, none⟩ (.bool t240)).setCell ⟨gb248, 1, none⟩ (.slice Ao46 t241.length co46)).setCell ⟨gb249, 0, none⟩ (.bool t244)).setCell ⟨gb249, 1, none⟩ (.slice Ao51 t245.length co51)).heap[gb228]? = some (.cells #[.bool x229000_1, .slice Ao37 x229001_1.length co37] 43 (0, 0))) := ⟨bf BK228.out⟩
  have n5_ : Aside0 (((((w40.setCell ⟨gb248, 0, none⟩ (.bool t240)).setCell ⟨gb248, 1, none⟩ (.slice Ao46 t241.length co46)).setCell ⟨gb249, 0, none⟩ (.bool t244)).setCell ⟨gb249, 1, none⟩ (.slice Ao51 t245.length co51)).heap[gb229]? = some (.cells #[.bool x230000_1, .slice Ao32 x230001_1.length co32] 43 (0, 0))) := ⟨bf BK229.out⟩
  have n6_ : Aside0 (((((w40.setCell ⟨gb248, 0, none⟩ (.bool t240)).setCell ⟨gb248, 1, none⟩ (.slice Ao46 t241.length co46)).setCell ⟨gb249, 0, none⟩ (.bool t244)).setCell ⟨gb249, 1, none⟩ (.slice Ao51 t245.length co51)).heap[gb230]? = some (.cells #[.bool false, .slice none 0 0] 43 (0, 0))) := ⟨bf BK230.out⟩
  have n7_ : Aside0 (((((w40.setCell ⟨gb248, 0, none⟩ (.bool t240)).setCell ⟨gb248, 1, none⟩ (.slice Ao46 t241.length co46)).setCell ⟨gb249, 0, none⟩ (.bool t244)).setCell ⟨gb249, 1, none⟩ (.slice Ao51 t245.length co51)).heap[gb248]? = some (.cells #[.bool t240, .slice Ao46 t241.length co46] 43 (0, 0))) := ⟨by (with_reducible repeat (first | refine blk_drewN ?_ _ | refine blk_drew ?_ | refine blk_alloc ?_ _)); refine blk_far ?_ NB248_249.out _; (with_reducible repeat (first | refine blk_drewN ?_ _ | refine blk_drew ?_ | refine blk_alloc ?_ _)); refine blk_far ?_ NB248_249.out _; (with_reducible repeat (first | refine blk_drewN ?_ _ | refine blk_drew ?_ | refine blk_alloc ?_ _)); refine blk_put (cs := #[.bool t240, .slice none 0 0]) ?_ 1 _ rfl; (with_reducible repeat (first | refine blk_drewN ?_ _ | refine blk_drew ?_ | refine blk_alloc ?_ _)); refine blk_put (cs := #[.bool false, .slice none 0 0]) ?_ 0 _ rfl; (with_reducible repeat (first | refine blk_drewN ?_ _ | refine blk_drew ?_ | refine blk_alloc ?_ _)); exact BK248.out⟩
  have n8_ : Aside0 (((((w40.setCell ⟨gb248, 0, none⟩ (.bool t240)).setCell ⟨gb248, 1, none⟩ (.slice Ao46 t241.length co46)).setCell ⟨gb249, 0, none⟩ (.bool t244)).setCell ⟨gb249, 1, none⟩ (.slice Ao51 t245.length co51)).heap[gb249]? = some (.cells #[.bool t244, .slice Ao51 t245.length co51] 43 (0, 0))) := ⟨by (with_reducible repeat (first | refine blk_drewN ?_ _ | refine blk_drew ?_ | refine blk_alloc ?_ _)); refine blk_put (cs := #[.bool t244, .slice none 0 0]) ?_ 1 _ rfl; (with_reducible repeat (first | refine blk_drewN ?_ _ | refine blk_drew ?_ | refine blk_alloc ?_ _)); refine blk_put (cs := #[.bool false, .slice none 0 0]) ?_ 0 _ rfl; (with_reducible repeat (first | refine blk_drewN ?_ _ | refine blk_drew ?_ | refine blk_alloc ?_ _)); refine blk_far ?_ NB249_248.out _; (with_reducible repeat (first | refine blk_drewN ?_ _ | refine blk_drew ?_ | refine blk_alloc ?_ _)); refine blk_far ?_ NB249_248.out _; (with_reducible repeat (first | refine blk_drewN ?_ _ | refine blk_drew ?_ | refine blk_alloc ?_ _)); exact BK249.out⟩
  have n9_ : Aside0 (Below w.heap.size w ((((w40.setCell ⟨gb248, 0, none⟩ (.bool t240)).setCell ⟨gb248, 1, none⟩ (.slice Ao46 t241.length co46)).setCell ⟨gb249, 0, none⟩ (.bool t244)).setCell ⟨gb249, 1, none⟩ (.slice Ao51 t245.length co51))) := ⟨bl⟩
  (try clear HO_229001)
  (try clear HO_230001)
  (try clear HO243)
  (try clear HO247)
  (try clear BK228)
  (try clear BK229)
  (try clear BK230)
  (try clear BK248)
  (try clear BK249)
  (try clear HB)
  generalize ((((w40.setCell ⟨gb248, 0, none⟩ (.bool t240)).setCell ⟨gb248, 1, none⟩ (.slice Ao46 t241.length co46)).setCell ⟨gb249, 0, none⟩ (.bool t244)).setCell ⟨gb249, 1, none⟩ (.slice Ao51 t245.length co51)) = w52 at n0_ n1_ n2_ n3_ n4_ n5_ n6_ n7_ n8_ n9_ ⊢
  have HO_229001 := n0_
  have HO_230001 := n1_
  have HO243 := n2_
  have HO247 := n3_
  have BK228 := n4_
  have BK229 := n5_
  have BK230 := n6_
  have BK248 := n7_
  have BK249 := n8_
  have HB := n9_
  clear n0_ n1_ n2_ n3_ n4_ n5_ n6_ n7_ n8_ n9_
  replace HO_229001 := Aside0.mk (Kd.V_drew HO_229001.out); replace HO_230001 := Aside0.mk (Kd.V_drew HO_230001.out); replace HO243 := Aside0.mk (Kd.V_drew HO243.out); replace HO247 := Aside0.mk (Kd.V_drew HO247.out); replace BK228 := Aside0.mk (blk_drew BK228.out); replace BK229 := Aside0.mk (blk_drew BK229.out); replace BK230 := Aside0.mk (blk_drew BK230.out); replace BK248 := Aside0.mk (blk_drew BK248.out); replace BK249 := Aside0.mk (blk_drew BK249.out); replace HB := Aside0.mk (below_drew1 HB.out)
  refine start_ (n := 4) (S := fun w' => w'.cell? ⟨gb229, 0, none⟩ = some (.bool x230000_1) ∧ w'.cell? ⟨gb229, 1, none⟩ = some (.slice Ao32 x230001_1.length co32) ∧ w'.cell? ⟨gb249, 0, none⟩ = some (.bool t244) ∧ w'.cell? ⟨gb249, 1, none⟩ = some (.slice Ao51 t245.length co51)) (ds := [3]) #[false,false,false,false] (by kernel_rfl) rfl rfl ⟨(blk_cell BK229.out 0).trans rfl, (blk_cell BK229.out 1).trans rfl, (blk_cell BK249.out 0).trans rfl, (blk_cell BK249.out 1).trans rfl⟩ (fun hHeld => ?_)
  generalize w52.drew = w53 at HO_229001 HO_230001 HO243 HO247 BK228 BK229 BK230 BK248 BK249 HB hHeld ⊢
  refine take_ (i := 0) (N := some 20) (v := ?_) (a' := ?_) #[true,false,false,false] rfl rfl (by kernel_rfl) (fun _ _ _ h => h) (Or.inl ⟨by rfl, ?_⟩) hHeld ?_ ?_
  rotate_left
  · rintro w' ⟨s0, s1, s2, s3⟩
    go_simp
    with_reducible rfl
  rotate_left; focus (simp only [Act.put, List.setIfInBounds_toArray, List.set_cons_zero, List.set_cons_succ, i64_w, i32_w]; rfl)
  refine take_ (i := 1) (N := some 21) (v := ?_) (a' := ?_) #[true,true,false,false] rfl rfl (by kernel_rfl) (fun _ _ _ h => h) (Or.inl ⟨by rfl, ?_⟩) hHeld ?_ ?_
  rotate_left
  · rintro w' ⟨s0, s1, s2, s3⟩
    go_simp
    with_reducible rfl
  rotate_left; focus (simp only [Act.put, List.setIfInBounds_toArray, List.set_cons_zero, List.set_cons_succ, i64_w, i32_w]; rfl)
  refine one_ (i := 2) (N := none) #[true,true,true,false] rfl rfl (by kernel_rfl) (by decide) (fun K hK => ?_)
  have hs54 : w53.cell? ⟨gb228, 0, none⟩ = some (.bool x229000_1) := (blk_cell BK228.out 0).trans rfl
  have hfs54 := blk_frozen BK228.out 0
  have hs55 : w53.cell? ⟨gb228, 1, none⟩ = some (.slice Ao37 x229001_1.length co37) := (blk_cell BK228.out 1).trans rfl
  have hfs55 := blk_frozen BK228.out 1
  refine skip_ (w1 := ?_) (by rfl) rfl ?_ ?_
  rotate_left; focus (go_simp; rfl)
  refine hK.out _ _ ⟨((cell_far (p := ⟨gb228, _, none⟩) NB229_228.out _).trans (((cell_far (p := ⟨gb228, _, none⟩) NB229_228.out _).trans (hHeld.1)))), ((cell_far (p := ⟨gb228, _, none⟩) NB229_228.out _).trans (((cell_far (p := ⟨gb228, _, none⟩) NB229_228.out _).trans (hHeld.2.1)))), ((cell_far (p := ⟨gb228, _, none⟩) NB249_228.out _).trans (((cell_far (p := ⟨gb228, _, none⟩) NB249_228.out _).trans (hHeld.2.2.1)))), ((cell_far (p := ⟨gb228, _, none⟩) NB249_228.out _).trans (((cell_far (p := ⟨gb228, _, none⟩) NB249_228.out _).trans (hHeld.2.2.2))))⟩ (fun hHeld => ?_)
  clear hK K
  refine last_ (i := 3) (N := none) #[true,true,true,true] rfl rfl (by kernel_rfl) (by decide) (fun K hK => ?_)
  have hfs56 := blk_frozen BK229.out 0
  have hfs57 := blk_frozen BK229.out 1
  refine skip_ (w1 := ?_) (by rfl) rfl ?_ ?_
  rotate_left; focus (go_simp; rfl)
  refine hK.out _ _ ?_
  clear hK K
  refine done_ (by kernel_rfl) ?_
  try go_wp2
  go_roundg k1
  case measure => have := HK1.out; omega
  case rel => exact ⟨(x230000_1), (x230001_1), (t244), (t245), (.slice Ao32 x230001_1.length co32), (.slice Ao51 t245.length co51), H', ⟨by have := HK1.out; omega⟩, ⟨by (with_reducible repeat (first | apply Kd.V_alloc | apply Kd.V_drewN | apply Kd.V_drew)); exact Kd.V_mono (Kd.V_far (p := ⟨gb229, 1, none⟩) (Kd.V_far (p := ⟨gb229, 0, none⟩) (Kd.V_far (p := ⟨gb228, 1, none⟩) (Kd.V_far (p := ⟨gb228, 0, none⟩) (Kd.V_mono (Kd.V_mono HO_230001.out (fun k_ hk => (⟨hk, hk.2.1⟩ : _ ∧ k_ ≠ gb228))) (fun k_ hk => (⟨hk, hk.1.2.2.1⟩ : _ ∧ k_ ≠ gb229))) (fun _ hk => hk.1.2) (.bool x230000_1)) (fun _ hk => hk.1.2) (.slice Ao32 x230001_1.length co32)) (fun _ hk => hk.2) (.bool t244)) (fun _ hk => hk.2) (.slice Ao51 t245.length co51)) (fun _ hk => ⟨hk.1.1.1, ⟨hk.1.1.2.1, ⟨hk.1.1.2.2.1, hk.1.1.2.2.2.1⟩⟩⟩)⟩, ⟨by (with_reducible repeat (first | apply Kd.V_alloc | apply Kd.V_drewN | apply Kd.V_drew)); exact Kd.V_mono (Kd.V_far (p := ⟨gb229, 1, none⟩) (Kd.V_far (p := ⟨gb229, 0, none⟩) (Kd.V_far (p := ⟨gb228, 1, none⟩) (Kd.V_far (p := ⟨gb228, 0, none⟩) (Kd.V_mono (Kd.V_mono HO247.out (fun k_ hk => (⟨hk, hk.2.1⟩ : _ ∧ k_ ≠ gb228))) (fun k_ hk => (⟨hk, hk.1.2.2.1⟩ : _ ∧ k_ ≠ gb229))) (fun _ hk => hk.1.2) (.bool x230000_1)) (fun _ hk => hk.1.2) (.slice Ao32 x230001_1.length co32)) (fun _ hk => hk.2) (.bool t244)) (fun _ hk => hk.2) (.slice Ao51 t245.length co51)) (fun _ hk => ⟨hk.1.1.1, ⟨hk.1.1.2.1, ⟨hk.1.1.2.2.1, hk.1.1.2.2.2.1⟩⟩⟩)⟩, ⟨by (with_reducible repeat (first | refine blk_drewN ?_ _ | refine blk_drew ?_ | refine blk_alloc ?_ _)); refine blk_far ?_ NB228_229.out _; (with_reducible repeat (first | refine blk_drewN ?_ _ | refine blk_drew ?_ | refine blk_alloc ?_ _)); refine blk_far ?_ NB228_229.out _; (with_reducible repeat (first | refine blk_drewN ?_ _ | refine blk_drew ?_ | refine blk_alloc ?_ _)); refine blk_put (cs := #[.bool x230000_1, .slice Ao37 x229001_1.length co37]) ?_ 1 _ rfl; (with_reducible repeat (first | refine blk_drewN ?_ _ | refine blk_drew ?_ | refine blk_alloc ?_ _)); refine blk_put (cs := #[.bool x229000_1, .slice Ao37 x229001_1.length co37]) ?_ 0 _ rfl; (with_reducible repeat (first | refine blk_drewN ?_ _ | refine blk_drew ?_ | refine blk_alloc ?_ _)); exact BK228.out⟩, ⟨by (with_reducible repeat (first | refine blk_drewN ?_ _ | refine blk_drew ?_ | refine blk_alloc ?_ _)); refine blk_put (cs := #[.bool t244, .slice Ao32 x230001_1.length co32]) ?_ 1 _ rfl; (with_reducible repeat (first | refine blk_drewN ?_ _ | refine blk_drew ?_ | refine blk_alloc ?_ _)); refine blk_put (cs := #[.bool x230000_1, .slice Ao32 x230001_1.length co32]) ?_ 0 _ rfl; (with_reducible repeat (first | refine blk_drewN ?_ _ | refine blk_drew ?_ | refine blk_alloc ?_ _)); refine blk_far ?_ NB229_228.out _; (with_reducible repeat (first | refine blk_drewN ?_ _ | refine blk_drew ?_ | refine blk_alloc ?_ _)); refine blk_far ?_ NB229_228.out _; (with_reducible repeat (first | refine blk_drewN ?_ _ | refine blk_drew ?_ | refine blk_alloc ?_ _)); exact BK229.out⟩, ⟨bf BK230.out⟩, ⟨bl⟩⟩

end Go.Proofs.Ytlbljdjbcbgnlaa.PX
