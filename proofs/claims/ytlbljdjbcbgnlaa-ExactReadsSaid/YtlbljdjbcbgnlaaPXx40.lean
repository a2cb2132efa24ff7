-- PRINTED by print.py (a twelfth state) out of the translation. Not trusted: Lean checks it.
import Derived.Test.YtlbljdjbcbgnlaaCmp
import Derived.Test.YtlbljdjbcbgnlaaPXx0
import Derived.Test.YtlbljdjbcbgnlaaPXx4
import Derived.Test.YtlbljdjbcbgnlaaPXx25
namespace Go.Proofs.Ytlbljdjbcbgnlaa.PX
open Go.RowKit Go.Proofs.YtlbljdjbcbgnlaaW.PrintWords Go.Proofs.YtlbljdjbcbgnlaaW.PrintLast Go.Proofs.YtlbljdjbcbgnlaaW.PrintMore
attribute [local go_sem] max2_int min2_int max_two min_two max_three min_three max_four min_four   -- for this text's walks alone
set_option linter.unusedVariables false
set_option linter.unusedSimpArgs false

-- the contract of function 73 (maskwright/exact.fit): written by hand
/-! ### exact_fit: function 73 -/
def exact_fit.f (a0_0 : Bool) (l0_1 : List Int) : Option (Bool × List Int × Int) := (exact_Bits.f a0_0 l0_1).bind fun b => if b > 65536 then some (false, ([] : List Int), 3) else some (a0_0, l0_1, 0)
set_option maxHeartbeats 8000000 in
set_option maxRecDepth 100000 in
theorem exact_fit.calls (a0_0 : Bool) (P0_1_ : Nat → Prop) (A0_1 : Option Addr) (c0_1 : Nat) (l0_1 : List Int) (r1 : Bool) (r2 : List Int) (r3 : Int) (w : World) (hs0_1 : Kd.V (Kd.int .u32) 97 w w.heap.size (fun k_ => P0_1_ k_) (.slice A0_1 l0_1.length c0_1) l0_1) (h : exact_fit.f a0_0 l0_1 = some (r1, r2, r3)) :
 Calls Try.prog 73 #[.agg #[.bool a0_0, .slice A0_1 l0_1.length c0_1]] w fun e w' => ∃ v1_ : Value, e = .returned (.tuple #[.agg #[.bool r1, v1_], .int .i64 r3]) ∧ Kd.V (Kd.int .u32) 97 w' w.heap.size (fun k_ => (P0_1_ k_ ∨ w.heap.size ≤ k_)) v1_ r2 ∧ Below w.heap.size w w' := by
 have hu43 := Try.underlying43
 unfold exact_fit.f at h
 obtain ⟨b, hb0, h⟩ := Option.bind_eq_some_iff.mp h
 have HB := Aside0.mk (below_alloc (below_alloc (Below.refl w.heap.size w) (.cells #[.bool a0_0, .slice A0_1 l0_1.length c0_1] 43)) (.cells #[.bool false, .slice none 0 0] 43))
 have BA := Aside0.mk (blk_alloc (blk_new w (.cells #[.bool a0_0, .slice A0_1 l0_1.length c0_1] 43)) (.cells #[.bool false, .slice none 0 0] 43))
 have BK := Aside0.mk (Hnd.blk_new1 w (.cells #[.bool a0_0, .slice A0_1 l0_1.length c0_1] 43) (.cells #[.bool false, .slice none 0 0] 43))
 have HO := Aside0.mk (show Kd.V (Kd.int .u32) 97 ((w.alloc (.cells #[.bool a0_0, .slice A0_1 l0_1.length c0_1] 43)).alloc (.cells #[.bool false, .slice none 0 0] 43)) w.heap.size (fun k_ => (P0_1_ k_ ∨ w.heap.size ≤ k_) ∧ k_ ≠ w.heap.size + 1) (.slice A0_1 l0_1.length c0_1) l0_1 from Kd.V_alloc (Kd.V_alloc (Kd.V_mono (Kd.V_elderB hs0_1 (w.heap.size + 1) (by omega)) (fun k hk => ⟨.inl hk.1, hk.2⟩)) (.cells #[.bool a0_0, .slice A0_1 l0_1.length c0_1] 43)) (.cells #[.bool false, .slice none 0 0] 43))
 clear hs0_1
 obtain ⟨x0, x1⟩ : ((w.alloc (.cells #[.bool a0_0, .slice A0_1 l0_1.length c0_1] 43)).alloc (.cells #[.bool false, .slice none 0 0] 43)).cell? ⟨w.heap.size, 0, none⟩ = some (.bool a0_0) ∧ ((w.alloc (.cells #[.bool a0_0, .slice A0_1 l0_1.length c0_1] 43)).alloc (.cells #[.bool false, .slice none 0 0] 43)).cell? ⟨w.heap.size, 1, none⟩ = some (.slice A0_1 l0_1.length c0_1) := ⟨(blk_cell BA.out 0).trans rfl, (blk_cell BA.out 1).trans rfl⟩
 go_enter Try.func73, Try.ntmps73
 go_wp2_with fail
 refine (exact_Bits.calls a0_0 A0_1 c0_1 l0_1 b _ (Kd.V_reads' HO.out).2.2 (Kd.V_at HO.out).2.1 hb0).mono ?_
 rintro e w2 ⟨rfl, hw⟩
 clear x0 x1
 replace HB := Aside0.mk (below_step HB.out hw)
 replace BA := Aside0.mk (blk_below BA.out hw)
 replace BK := Aside0.mk (blk_below BK.out hw)
 replace HO := Aside0.mk (Kd.V_below HO.out hw)
 clear hw
 obtain ⟨x0, x1⟩ : w2.cell? ⟨w.heap.size, 0, none⟩ = some (.bool a0_0) ∧ w2.cell? ⟨w.heap.size, 1, none⟩ = some (.slice A0_1 l0_1.length c0_1) := ⟨(blk_cell BA.out 0).trans rfl, (blk_cell BA.out 1).trans rfl⟩
 obtain ⟨z0, z1⟩ : w2.cell? ⟨w.heap.size + 1, 0, none⟩ = some (.bool false) ∧ w2.cell? ⟨w.heap.size + 1, 1, none⟩ = some (.slice none 0 0) := ⟨(blk_cell BK.out 0).trans rfl, (blk_cell BK.out 1).trans rfl⟩
 have y0 := blk_frozen BK.out 0
 have y1 := blk_frozen BK.out 1
 by_cases c : b > 65536
 · rw [if_pos c] at h
   simp only [Option.some.injEq, Prod.mk.injEq] at h
   obtain ⟨rfl, rfl, rfl⟩ := h
   go_wp2
   refine bodyPost_ret (results_ct rfl _ _ (w.heap.size + 1) 43 #[.bool false, .slice none 0 0] (0, 0) _ rfl (blk_put (cs := #[.bool false, .slice none 0 0]) (blk_put (cs := #[.bool false, .slice none 0 0]) BK.out 0 _ rfl) 1 _ rfl) hu43 rfl (by kernel_rfl)) rfl ?_
   exact ⟨_, rfl, Kd.V_nil _ _ _ _ _, below_set (below_set HB.out (Nat.le_succ _)) (Nat.le_succ _)⟩
 rw [if_neg c] at h
 have c0 : decide (b > 65536) = false := decide_eq_false c
 simp only [Option.some.injEq, Prod.mk.injEq] at h
 obtain ⟨rfl, rfl, rfl⟩ := h
 go_wp2
 refine bodyPost_ret (results_ct rfl _ _ (w.heap.size + 1) 43 #[.bool a0_0, .slice A0_1 l0_1.length c0_1] (0, 0) _ rfl (blk_put (cs := #[.bool a0_0, .slice none 0 0]) (blk_put (cs := #[.bool false, .slice none 0 0]) BK.out 0 _ rfl) 1 _ rfl) hu43 rfl (by kernel_rfl)) rfl ?_
 exact ⟨_, rfl, outV HO.out (fun _ hk => hk.2) _ _ (fun _ hk => hk.1), below_set (below_set HB.out (Nat.le_succ _)) (Nat.le_succ _)⟩

end Go.Proofs.Ytlbljdjbcbgnlaa.PX
