/- The check of the netlist of a wire, walked for it alone. -/
/- The checks of delays and limits of a wire, and of its job. -/
/- The job of a wire: its check, its endpoint, what leaves its input. -/
/- The arrivals of a wire, and its endpoint. -/
/- The endpoint of a wire. -/
import Derived.Test.YtpkpmdmmnhmnlaaDoorPTx13
import Derived.LoopN
import Derived.Test.YtpkpmdmmnhmnlaaDoorPTw5
import Derived.Test.YtpkpmdmmnhmnlaaDoorPTx43
set_option linter.unusedSectionVars false
namespace Go.Proofs.YtpkpmdmmnhmnlaaDoor.PT
open Go.RowKit Go.Proofs.YtpkpmdmmnhmnlaaDoorW.PrintWords Go.Proofs.YtpkpmdmmnhmnlaaDoorW.PrintLast Go.Proofs.YtpkpmdmmnhmnlaaDoorW.PrintMore
set_option linter.unusedVariables false
set_option linter.unusedSimpArgs false

def wA : List ByteArray := [⟨#[97]⟩]
def wB : List ByteArray := [⟨#[98]⟩]
theorem namesA : graph_Names.f 3 wA = some 0 := by decide +kernel
theorem namesB : graph_Names.f 3 wB = some 0 := by decide +kernel
/-- The wire's rows. -/
structure Wire (w : World) (Ai Ao As : Addr) : Prop where
  inn : Kd.C Kd.string w (some Ai) wA.length wA
  out : Kd.C Kd.string w (some Ao) wB.length wB
  outs : w.cell? As = some (.int .i64 2)
theorem Wire.below {w w' : World} {Ai Ao As : Addr} (h : Wire w Ai Ao As) (hb : Below w.heap.size w w') : Wire w' Ai Ao As :=
  ⟨Kd.C_below h.inn hb, Kd.C_below h.out hb, (hb.cell (World.block_lt_of_cell? w _ h.outs)).trans h.outs⟩

abbrev netV (Ai Ao As : Addr) : Value := .agg #[.slice (some Ai) 1 1, .slice (some Ao) 1 1, .slice none 0 0, .slice none 0 0, .slice (some As) 1 1]
abbrev netC (Ai Ao As : Addr) : Obj := .cells #[.slice (some Ai) 1 1, .slice (some Ao) 1 1, .slice none 0 0, .slice none 0 0, .slice (some As) 1 1] 27
set_option maxHeartbeats 1000000 in
set_option maxRecDepth 100000 in
theorem first_c (Ai Ao As : Addr) (w : World) : Calls Tryd.prog 47 #[.agg #[.slice (some Ai) 1 1, .slice (some Ao) 1 1, .slice none 0 0, .slice none 0 0, .slice (some As) 1 1]] w fun e w' => e = .returned (.int .i64 3) ∧ Below w.heap.size w w' := by
  have hu37 := Tryd.underlying27
  go_enter Tryd.func47, Tryd.ntmps47
  go_wp2
  go_ret
  exact ⟨rfl, by repeat (first | exact Below.refl _ _ | apply below_alloc | apply pw_below_drewN | apply below_drew1)⟩
theorem cells5 {w : World} {g T : Nat} {a b c d e : Value} (h : w.heap[g]? = some (.cells #[a, b, c, d, e] T (0, 0))) : w.cell? ⟨g, 0, none⟩ = some a ∧ w.cell? ⟨g, 1, none⟩ = some b ∧ w.cell? ⟨g, 2, none⟩ = some c ∧ w.cell? ⟨g, 3, none⟩ = some d ∧ w.cell? ⟨g, 4, none⟩ = some e :=
  ⟨(blk_cell h 0).trans rfl, (blk_cell h 1).trans rfl, (blk_cell h 2).trans rfl, (blk_cell h 3).trans rfl, (blk_cell h 4).trans rfl⟩
set_option maxHeartbeats 2000000 in
set_option maxRecDepth 100000 in
theorem nets_c (Ai Ao As : Addr) (w : World) : Calls Tryd.prog 45 #[.agg #[.slice (some Ai) 1 1, .slice (some Ao) 1 1, .slice none 0 0, .slice none 0 0, .slice (some As) 1 1]] w fun e w' => e = .returned (.int .i64 3) ∧ Below w.heap.size w w' := by
  have hu37 := Tryd.underlying27
  have HB := Aside0.mk (below_drew1 (below_alloc (Below.refl w.heap.size w) (netC Ai Ao As)))
  have X0 := Aside0.mk (blk_drew (blk_new w (netC Ai Ao As)))
  go_enter Tryd.func45, Tryd.ntmps45
  go_wp2
  go_region_held3 (fun w' => w'.cell? ⟨w.heap.size, 0, none⟩ = some (.slice (some Ai) 1 1) ∧ w'.cell? ⟨w.heap.size, 1, none⟩ = some (.slice (some Ao) 1 1) ∧ w'.cell? ⟨w.heap.size, 2, none⟩ = some (.slice none 0 0) ∧ w'.cell? ⟨w.heap.size, 3, none⟩ = some (.slice none 0 0) ∧ w'.cell? ⟨w.heap.size, 4, none⟩ = some (.slice (some As) 1 1))
    (first | exact cells5 XA.out | exact cells5 X0.out)
    (first
      | (go_at_call 47; refine (first_c Ai Ao As _).mono ?_; rintro e w1 ⟨rfl, hw⟩; have HBA := Aside0.mk (below_step HB.out hw); have XA := Aside0.mk (blk_below X0.out hw)))
  all_goals go_wp2
  all_goals go_ret
  all_goals exact ⟨rfl, HBA.out⟩
set_option maxHeartbeats 2000000 in
set_option maxRecDepth 100000 in
theorem ends_c (Ai Ao As : Addr) (w : World) (h : Wire w Ai Ao As) :
    Calls Tryd.prog 61 #[.agg #[.slice (some Ai) 1 1, .slice (some Ao) 1 1, .slice none 0 0, .slice none 0 0, .slice (some As) 1 1]] w fun e w' => e = .returned (.int .i64 0) ∧ Below w.heap.size w w' := by
  have hu37 := Tryd.underlying27
  have d0 := h.outs
  have d1 : As.add 0 = As := by simp [Addr.add]
  have lt := World.block_lt_of_cell? w _ d0
  have HB := Aside0.mk (below_alloc (Below.refl w.heap.size w) (netC Ai Ao As))
  have X0 := Aside0.mk (blk_new w (netC Ai Ao As))
  go_enter Tryd.func61, Tryd.ntmps61
  go_wp2_with fail
  refine (nets_c Ai Ao As _).mono ?_
  rintro e w1 ⟨rfl, hw⟩
  have HB1 := Aside0.mk (below_step HB.out hw)
  have X1 := Aside0.mk (blk_below X0.out hw)
  replace d0 := (HB1.out.cell lt).trans d0
  clear hw HB X0
  obtain ⟨b0, b1, b2, b3, b4⟩ := cells5 X1.out
  go_wp2
  refine wp_loop_once ?_
  go_wp2
  refine wp_loop_rounds 2 ?_
  rw [rounds_succ]
  go_wp2
  rw [rounds_succ]
  go_wp2
  go_ret
  exact ⟨rfl, by repeat (first | exact HB1.out | apply below_alloc | apply pw_below_drewN | apply below_drew1)⟩
set_option maxHeartbeats 2000000 in
set_option maxRecDepth 100000 in
theorem form_c (Ai Ao As : Addr) (w : World) (h : Wire w Ai Ao As) :
    Calls Tryd.prog 40 #[.agg #[.slice (some Ai) 1 1, .slice (some Ao) 1 1, .slice none 0 0, .slice none 0 0, .slice (some As) 1 1]] w fun e w' => e = .returned (.int .i64 0) ∧ Below w.heap.size w w' := by
  have hu37 := Tryd.underlying27
  have HB := Aside0.mk (below_alloc (Below.refl w.heap.size w) (netC Ai Ao As))
  have BX := Aside0.mk (blk_new w (netC Ai Ao As))
  have HW := Aside0.mk (h.below HB.out)
  clear h
  go_enter Tryd.func40, Tryd.ntmps40
  go_wp2_with fail
  refine (slices_Clone_string_string.calls (some Ai) 1 wA wA _ HW.out.inn (by decide) rfl).mono ?_
  rintro e w1 ⟨v0, rfl, hR, hw⟩
  obtain ⟨A1, c1, rfl, hle, hC⟩ := Kd.R_reads hR
  have HB1 := Aside0.mk (below_step HB.out hw)
  have BX1 := Aside0.mk (blk_below BX.out hw)
  have HW1 := Aside0.mk (HW.out.below hw)
  have HC := Aside0.mk hC
  have HL := Aside0.mk hle
  clear hR hw hC hle HB BX HW
  have b2 : w1.cell? ⟨w.heap.size, 2, none⟩ = some (.slice none 0 0) := (blk_cell BX1.out 2).trans rfl
  go_wp2_with fail
  refine wp_loop_once ?_
  go_wp2_with fail
  refine (graph_Names.calls 3 A1 c1 wA 0 _ HC.out HL.out namesA).mono ?_
  rintro e w2 ⟨rfl, hw⟩
  have HB2 := Aside0.mk (below_step HB1.out hw)
  have BX2 := Aside0.mk (blk_below BX1.out hw)
  have HW2 := Aside0.mk (HW1.out.below hw)
  clear hw HB1 BX1 HW1 HC HL b2
  have b1 : w2.cell? ⟨w.heap.size, 1, none⟩ = some (.slice (some Ao) 1 1) := (blk_cell BX2.out 1).trans rfl
  go_wp2_with fail
  refine (graph_Names.calls 3 (some Ao) 1 wB 0 _ HW2.out.out (by decide) namesB).mono ?_
  rintro e w3 ⟨rfl, hw⟩
  have HB3 := Aside0.mk (below_step HB2.out hw)
  have BX3 := Aside0.mk (blk_below BX2.out hw)
  have HW3 := Aside0.mk (HW2.out.below hw)
  clear hw HB2 BX2 HW2 b1
  have b0 : w3.cell? ⟨w.heap.size, 0, none⟩ = some (.slice (some Ai) 1 1) := (blk_cell BX3.out 0).trans rfl
  have b1 : w3.cell? ⟨w.heap.size, 1, none⟩ = some (.slice (some Ao) 1 1) := (blk_cell BX3.out 1).trans rfl
  have b2 : w3.cell? ⟨w.heap.size, 2, none⟩ = some (.slice none 0 0) := (blk_cell BX3.out 2).trans rfl
  have b3 : w3.cell? ⟨w.heap.size, 3, none⟩ = some (.slice none 0 0) := (blk_cell BX3.out 3).trans rfl
  have b4 : w3.cell? ⟨w.heap.size, 4, none⟩ = some (.slice (some As) 1 1) := (blk_cell BX3.out 4).trans rfl
  go_wp2_with fail
  refine (first_c Ai Ao As _).mono ?_
  rintro e w4 ⟨rfl, hw⟩
  have HB4 := Aside0.mk (below_step HB3.out hw)
  have BX4 := Aside0.mk (blk_below BX3.out hw)
  have HW4 := Aside0.mk (HW3.out.below hw)
  clear hw HB3 BX3 HW3 b0 b1 b2 b3 b4
  have b0 : w4.cell? ⟨w.heap.size, 0, none⟩ = some (.slice (some Ai) 1 1) := (blk_cell BX4.out 0).trans rfl
  have b1 : w4.cell? ⟨w.heap.size, 1, none⟩ = some (.slice (some Ao) 1 1) := (blk_cell BX4.out 1).trans rfl
  have b2 : w4.cell? ⟨w.heap.size, 2, none⟩ = some (.slice none 0 0) := (blk_cell BX4.out 2).trans rfl
  have b3 : w4.cell? ⟨w.heap.size, 3, none⟩ = some (.slice none 0 0) := (blk_cell BX4.out 3).trans rfl
  have b4 : w4.cell? ⟨w.heap.size, 4, none⟩ = some (.slice (some As) 1 1) := (blk_cell BX4.out 4).trans rfl
  go_wp2_with fail
  refine wp_loop_once ?_
  go_wp2_with fail
  refine (ends_c Ai Ao As _ HW4.out).mono ?_
  rintro e w5 ⟨rfl, hw⟩
  have HB5 := Aside0.mk (below_step HB4.out hw)
  clear hw
  go_wp2
  go_ret
  exact ⟨rfl, HB5.out⟩
set_option maxHeartbeats 2000000 in
set_option maxRecDepth 100000 in
theorem netcheck_c (Ai Ao As : Addr) (w : World) (h : Wire w Ai Ao As) :
    Calls Tryd.prog 28 #[.agg #[.slice (some Ai) 1 1, .slice (some Ao) 1 1, .slice none 0 0, .slice none 0 0, .slice (some As) 1 1], .slice none 0 0] w fun e w' => e = .returned (.int .i64 0) ∧ Below w.heap.size w w' := by
  have hu37 := Tryd.underlying27
  have HB := Aside0.mk (below_alloc (Below.refl w.heap.size w) (netC Ai Ao As))
  have BX := Aside0.mk (blk_new w (netC Ai Ao As))
  have HW := Aside0.mk (h.below HB.out)
  clear h
  go_enter Tryd.func28, Tryd.ntmps28
  go_wp2_with fail
  refine (form_c Ai Ao As _ HW.out).mono ?_
  rintro e w1 ⟨rfl, hw⟩
  have HB1 := Aside0.mk (below_step HB.out hw)
  have BX1 := Aside0.mk (blk_below BX.out hw)
  clear hw HB BX HW
  have b2 : w1.cell? ⟨w.heap.size, 2, none⟩ = some (.slice none 0 0) := (blk_cell BX1.out 2).trans rfl
  have b3 : w1.cell? ⟨w.heap.size, 3, none⟩ = some (.slice none 0 0) := (blk_cell BX1.out 3).trans rfl
  go_wp2_with fail
  refine wp_loop_once ?_
  go_wp2_with fail
  refine wp_loop_once ?_
  go_wp2_with fail
  go_ret
  exact ⟨rfl, HB1.out⟩
end Go.Proofs.YtpkpmdmmnhmnlaaDoor.PT
namespace Go.Proofs.YtpkpmdmmnhmnlaaDoor.PT
open Go.RowKit Go.Proofs.YtpkpmdmmnhmnlaaDoorW.PrintWords Go.Proofs.YtpkpmdmmnhmnlaaDoorW.PrintLast Go.Proofs.YtpkpmdmmnhmnlaaDoorW.PrintMore
set_option linter.unusedVariables false
set_option linter.unusedSimpArgs false

structure Win (w : World) (gd : Nat) : Prop where
  lo : w.cell? ⟨gd, 0, none⟩ = some (.int .i64 3)
  hi : w.cell? ⟨gd, 1, none⟩ = some (.int .i64 4)
theorem Win.below {w w' : World} {gd : Nat} (h : Win w gd) (hb : Below w.heap.size w w') : Win w' gd :=
  ⟨(hb.cell (World.block_lt_of_cell? w _ h.lo)).trans h.lo, (hb.cell (World.block_lt_of_cell? w _ h.hi)).trans h.hi⟩

set_option maxHeartbeats 2000000 in
set_option maxRecDepth 100000 in
theorem all0_c (w : World) : Calls Tryd.prog 62 #[.slice none 0 0, .int .i64 0] w fun e w' => e = .returned (.int .i64 0) ∧ Below w.heap.size w w' := by
  go_enter Tryd.func62, Tryd.ntmps62
  go_wp2
  refine wp_loop_once ?_
  go_wp2
  go_ret
  exact ⟨rfl, by repeat (first | exact Below.refl _ _ | apply below_alloc | apply pw_below_drewN | apply below_drew1)⟩
set_option maxHeartbeats 2000000 in
set_option maxRecDepth 100000 in
theorem all1_c (gd : Nat) (w : World) (h : Win w gd) : Calls Tryd.prog 62 #[.slice (some ⟨gd, 0, none⟩) 1 1, .int .i64 1] w fun e w' => e = .returned (.int .i64 0) ∧ Below w.heap.size w w' := by
  have hu39 := Tryd.underlying63
  have d0 := h.lo
  have d1 := h.hi
  have lt := World.block_lt_of_cell? w _ d0
  go_enter Tryd.func62, Tryd.ntmps62
  go_wp2
  refine wp_loop_rounds 2 ?_
  rw [rounds_succ]
  go_wp2
  rw [rounds_succ]
  go_wp2
  go_ret
  exact ⟨rfl, by repeat (first | exact Below.refl _ _ | apply below_alloc | apply pw_below_drewN | apply below_drew1)⟩
abbrev delC (gd : Nat) : Obj := .cells #[.slice none 0 0, .slice none 0 0, .slice (some ⟨gd, 0, none⟩) 1 1, .slice none 0 0, .slice none 0 0] 67
set_option maxHeartbeats 2000000 in
set_option maxRecDepth 100000 in
theorem delcheck_c (Ai Ao As : Addr) (gd : Nat) (w : World) (h : Win w gd) :
    Calls Tryd.prog 43 #[.agg #[.slice (some Ai) 1 1, .slice (some Ao) 1 1, .slice none 0 0, .slice none 0 0, .slice (some As) 1 1], .agg #[.slice none 0 0, .slice none 0 0, .slice (some ⟨gd, 0, none⟩) 1 1, .slice none 0 0, .slice none 0 0]] w fun e w' => e = .returned (.int .i64 0) ∧ Below w.heap.size w w' := by
  have hu37 := Tryd.underlying27
  have hu43 := Tryd.underlying67
  have HH := Aside0.mk h
  have HB0 := Aside0.mk (below_alloc (Below.refl w.heap.size w) (netC Ai Ao As))
  have HB := Aside0.mk (below_alloc HB0.out (delC gd))
  have BN := Aside0.mk (blk_alloc (blk_new w (netC Ai Ao As)) (delC gd))
  have BD0 := blk_new (w.alloc (netC Ai Ao As)) (delC gd)
  have hsz : (w.alloc (netC Ai Ao As)).heap.size = w.heap.size + 1 := by simp
  rw [hsz] at BD0
  have BD := Aside0.mk BD0
  have HD := Aside0.mk (h.below HB.out)
  clear hsz BD0 HB0 h
  go_enter Tryd.func43, Tryd.ntmps43
  go_wp2_with fail
  refine wp_loop_once ?_
  go_wp2_with fail
  refine wp_loop_once ?_
  go_wp2_with fail
  refine (all1_c gd _ HD.out).mono ?_
  rintro e w1 ⟨rfl, hw⟩
  have HB1 := Aside0.mk (below_step HB.out hw)
  have BN1 := Aside0.mk (blk_below BN.out hw)
  have BD1 := Aside0.mk (blk_below BD.out hw)
  clear hw HB BN BD HD HH
  obtain ⟨n0, n1, n2, n3, n4⟩ := cells5 BN1.out
  obtain ⟨m0, m1, m2, m3, m4⟩ := cells5 BD1.out
  go_wp2_with fail
  refine (all0_c _).mono ?_
  rintro e w2 ⟨rfl, hw⟩
  have HB2 := Aside0.mk (below_step HB1.out hw)
  have BN2 := Aside0.mk (blk_below BN1.out hw)
  have BD2 := Aside0.mk (blk_below BD1.out hw)
  clear hw HB1 BN1 BD1 n0 n1 n2 n3 n4 m0 m1 m2 m3 m4
  obtain ⟨n0, n1, n2, n3, n4⟩ := cells5 BN2.out
  obtain ⟨m0, m1, m2, m3, m4⟩ := cells5 BD2.out
  go_wp2_with fail
  refine (all0_c _).mono ?_
  rintro e w3 ⟨rfl, hw⟩
  have HB3 := Aside0.mk (below_step HB2.out hw)
  clear hw
  go_wp2
  go_ret
  exact ⟨rfl, HB3.out⟩
theorem chk9 : CheckV 9 [] [] [] = 0 := by decide +kernel
abbrev limC : Obj := .cells #[.int .i64 9, .slice none 0 0, .slice none 0 0, .slice none 0 0] 72
theorem cells4 {w : World} {g T : Nat} {a b c d : Value} (h : w.heap[g]? = some (.cells #[a, b, c, d] T (0, 0))) : w.cell? ⟨g, 0, none⟩ = some a ∧ w.cell? ⟨g, 1, none⟩ = some b ∧ w.cell? ⟨g, 2, none⟩ = some c ∧ w.cell? ⟨g, 3, none⟩ = some d :=
  ⟨(blk_cell h 0).trans rfl, (blk_cell h 1).trans rfl, (blk_cell h 2).trans rfl, (blk_cell h 3).trans rfl⟩
set_option maxHeartbeats 2000000 in
set_option maxRecDepth 100000 in
theorem limcheck_c (w : World) : Calls Tryd.prog 63 #[.agg #[.int .i64 9, .slice none 0 0, .slice none 0 0, .slice none 0 0]] w fun e w' => e = .returned (.int .i64 0) ∧ Below w.heap.size w w' := by
  have h := check_calls 9 none 0 [] none 0 [] none 0 [] w (Kd.C_nil _ _) (by decide) (Kd.C_nil _ _) (by decide) (Kd.C_nil _ _) (by decide) ⟨fun x hx => absurd hx (by simp), fun x hx => absurd hx (by simp), fun x hx => absurd hx (by simp)⟩ (.inr ⟨by decide, fun x hx => absurd hx (by simp), fun x hx => absurd hx (by simp), fun x hx => absurd hx (by simp)⟩)
  rw [chk9] at h
  exact h
set_option maxHeartbeats 2000000 in
set_option maxRecDepth 100000 in
theorem checkfor_c (Ai Ao As : Addr) (w : World) :
    Calls Tryd.prog 44 #[.agg #[.int .i64 9, .slice none 0 0, .slice none 0 0, .slice none 0 0], .agg #[.slice (some Ai) 1 1, .slice (some Ao) 1 1, .slice none 0 0, .slice none 0 0, .slice (some As) 1 1]] w fun e w' => e = .returned (.int .i64 0) ∧ Below w.heap.size w w' := by
  have hu37 := Tryd.underlying27
  have hu48 := Tryd.underlying72
  have HB0 := Aside0.mk (below_alloc (Below.refl w.heap.size w) limC)
  have HB := Aside0.mk (below_alloc HB0.out (netC Ai Ao As))
  have BL := Aside0.mk (blk_alloc (blk_new w limC) (netC Ai Ao As))
  have BN0 := blk_new (w.alloc limC) (netC Ai Ao As)
  have hsz : (w.alloc limC).heap.size = w.heap.size + 1 := by simp
  rw [hsz] at BN0
  have BN := Aside0.mk BN0
  clear hsz BN0 HB0
  go_enter Tryd.func44, Tryd.ntmps44
  go_wp2_with fail
  refine (limcheck_c _).mono ?_
  rintro e w1 ⟨rfl, hw⟩
  have HB1 := Aside0.mk (below_step HB.out hw)
  have BN1 := Aside0.mk (blk_below BN.out hw)
  have BL1 := Aside0.mk (blk_below BL.out hw)
  clear hw HB BN BL
  obtain ⟨n0, n1, n2, n3, n4⟩ := cells5 BN1.out
  obtain ⟨m0, m1, m2, m3⟩ := cells4 BL1.out
  go_wp2_with fail
  refine wp_loop_once ?_
  go_wp2_with fail
  refine wp_loop_once ?_
  go_wp2_with fail
  refine wp_loop_once ?_
  go_wp2_with fail
  refine wp_loop_once ?_
  go_wp2_with fail
  go_ret
  exact ⟨rfl, by repeat (first | exact HB1.out | apply below_alloc | apply pw_below_drewN | apply below_drew1)⟩
end Go.Proofs.YtpkpmdmmnhmnlaaDoor.PT
namespace Go.Proofs.YtpkpmdmmnhmnlaaDoor.PT
open Go.RowKit Go.Proofs.YtpkpmdmmnhmnlaaDoorW.PrintWords Go.Proofs.YtpkpmdmmnhmnlaaDoorW.PrintLast Go.Proofs.YtpkpmdmmnhmnlaaDoorW.PrintMore
set_option linter.unusedVariables false
set_option linter.unusedSimpArgs false

abbrev jobC (Ai Ao As : Addr) (gd : Nat) : Obj := .cells #[.slice (some Ai) 1 1, .slice (some Ao) 1 1, .slice none 0 0, .slice none 0 0, .slice (some As) 1 1, .slice none 0 0, .slice none 0 0, .slice none 0 0, .slice (some ⟨gd, 0, none⟩) 1 1, .slice none 0 0, .slice none 0 0, .int .i64 9, .slice none 0 0, .slice none 0 0, .slice none 0 0] 74
theorem jcells {w : World} {g gd : Nat} {Ai Ao As : Addr} (h : w.heap[g]? = some (.cells #[.slice (some Ai) 1 1, .slice (some Ao) 1 1, .slice none 0 0, .slice none 0 0, .slice (some As) 1 1, .slice none 0 0, .slice none 0 0, .slice none 0 0, .slice (some ⟨gd, 0, none⟩) 1 1, .slice none 0 0, .slice none 0 0, .int .i64 9, .slice none 0 0, .slice none 0 0, .slice none 0 0] 74 (0, 0))) :
    w.cell? ⟨g, 0, none⟩ = some (.slice (some Ai) 1 1) ∧ w.cell? ⟨g, 1, none⟩ = some (.slice (some Ao) 1 1) ∧ w.cell? ⟨g, 2, none⟩ = some (.slice none 0 0) ∧ w.cell? ⟨g, 3, none⟩ = some (.slice none 0 0) ∧ w.cell? ⟨g, 4, none⟩ = some (.slice (some As) 1 1) ∧ w.cell? ⟨g, 5, none⟩ = some (.slice none 0 0) ∧ w.cell? ⟨g, 6, none⟩ = some (.slice none 0 0) ∧ w.cell? ⟨g, 7, none⟩ = some (.slice none 0 0) ∧ w.cell? ⟨g, 8, none⟩ = some (.slice (some ⟨gd, 0, none⟩) 1 1) ∧ w.cell? ⟨g, 9, none⟩ = some (.slice none 0 0) ∧ w.cell? ⟨g, 10, none⟩ = some (.slice none 0 0) ∧ w.cell? ⟨g, 11, none⟩ = some (.int .i64 9) ∧ w.cell? ⟨g, 12, none⟩ = some (.slice none 0 0) ∧ w.cell? ⟨g, 13, none⟩ = some (.slice none 0 0) ∧ w.cell? ⟨g, 14, none⟩ = some (.slice none 0 0) :=
  ⟨(blk_cell h 0).trans rfl, (blk_cell h 1).trans rfl, (blk_cell h 2).trans rfl, (blk_cell h 3).trans rfl, (blk_cell h 4).trans rfl, (blk_cell h 5).trans rfl, (blk_cell h 6).trans rfl, (blk_cell h 7).trans rfl, (blk_cell h 8).trans rfl, (blk_cell h 9).trans rfl, (blk_cell h 10).trans rfl, (blk_cell h 11).trans rfl, (blk_cell h 12).trans rfl, (blk_cell h 13).trans rfl, (blk_cell h 14).trans rfl⟩
theorem Wire.a {w : World} {Ai Ao As : Addr} (h : Wire w Ai Ao As) : w.cell? Ai = some (.string ⟨#[97]⟩) := by
  obtain ⟨ad, e, hc⟩ := Kd.at_string h.inn 0 (by decide) (by decide)
  obtain rfl := Option.some.inj e
  simpa [Addr.add, rdOf, wA] using hc
theorem Wire.b {w : World} {Ai Ao As : Addr} (h : Wire w Ai Ao As) : w.cell? Ao = some (.string ⟨#[98]⟩) := by
  obtain ⟨ad, e, hc⟩ := Kd.at_string h.out 0 (by decide) (by decide)
  obtain rfl := Option.some.inj e
  simpa [Addr.add, rdOf, wB] using hc

set_option maxHeartbeats 4000000 in
set_option maxRecDepth 100000 in
theorem jobcheck_c (Ai Ao As : Addr) (gd : Nat) (w : World) (h : Wire w Ai Ao As) (hd : Win w gd) :
    Calls Tryd.prog 32 #[.agg #[.slice (some Ai) 1 1, .slice (some Ao) 1 1, .slice none 0 0, .slice none 0 0, .slice (some As) 1 1, .slice none 0 0, .slice none 0 0, .slice none 0 0, .slice (some ⟨gd, 0, none⟩) 1 1, .slice none 0 0, .slice none 0 0, .int .i64 9, .slice none 0 0, .slice none 0 0, .slice none 0 0]] w fun e w' => e = .returned (.int .i64 0) ∧ Below w.heap.size w w' := by
  have hu51 := Tryd.underlying74
  have hu37 := Tryd.underlying27
  have hu43 := Tryd.underlying67
  have hu48 := Tryd.underlying72
  have HB := Aside0.mk (below_alloc (Below.refl w.heap.size w) (jobC Ai Ao As gd))
  have BX := Aside0.mk (blk_new w (jobC Ai Ao As gd))
  have HW := Aside0.mk (h.below HB.out)
  have HD := Aside0.mk (hd.below HB.out)
  clear h hd
  go_enter Tryd.func32, Tryd.ntmps32
  go_wp2_with fail
  refine (netcheck_c Ai Ao As _ HW.out).mono ?_
  rintro e w1 ⟨rfl, hw⟩
  have HB1 := Aside0.mk (below_step HB.out hw)
  have BX1 := Aside0.mk (blk_below BX.out hw)
  have HD1 := Aside0.mk (HD.out.below hw)
  clear hw HB BX HW HD
  obtain ⟨b0, b1, b2, b3, b4, b5, b6, b7, b8, b9, b10, b11, b12, b13, b14⟩ := jcells BX1.out
  go_wp2_with fail
  refine wp_loop_once ?_
  go_wp2_with fail
  refine (delcheck_c Ai Ao As gd _ HD1.out).mono ?_
  rintro e w2 ⟨rfl, hw⟩
  have HB2 := Aside0.mk (below_step HB1.out hw)
  have BX2 := Aside0.mk (blk_below BX1.out hw)
  clear hw HB1 BX1 HD1 b0 b1 b2 b3 b4 b5 b6 b7 b8 b9 b10 b11 b12 b13 b14
  obtain ⟨b0, b1, b2, b3, b4, b5, b6, b7, b8, b9, b10, b11, b12, b13, b14⟩ := jcells BX2.out
  go_wp2_with fail
  refine (checkfor_c Ai Ao As _).mono ?_
  rintro e w3 ⟨rfl, hw⟩
  have HB3 := Aside0.mk (below_step HB2.out hw)
  clear hw
  go_wp2
  go_ret
  exact ⟨rfl, HB3.out⟩
theorem at9 : clocks_At.f 1 9 [] [] [] ⟨#[97]⟩ = some (0, 0) := by decide +kernel
set_option maxHeartbeats 4000000 in
set_option maxRecDepth 100000 in
theorem leaves_c (Ai Ao As : Addr) (gd : Nat) (w : World) (h : Wire w Ai Ao As) :
    Calls Tryd.prog 46 #[.agg #[.slice (some Ai) 1 1, .slice (some Ao) 1 1, .slice none 0 0, .slice none 0 0, .slice (some As) 1 1, .slice none 0 0, .slice none 0 0, .slice none 0 0, .slice (some ⟨gd, 0, none⟩) 1 1, .slice none 0 0, .slice none 0 0, .int .i64 9, .slice none 0 0, .slice none 0 0, .slice none 0 0], .int .i64 0] w fun e w' => e = .returned (.agg #[.int .i64 0, .int .i64 0]) ∧ Below w.heap.size w w' := by
  have hu51 := Tryd.underlying74
  have hu37 := Tryd.underlying27
  have hu48 := Tryd.underlying72
  have hu39 := Tryd.underlying63
  have da := h.a
  have d1 : Ai.add 0 = Ai := by simp [Addr.add]
  have lt := World.block_lt_of_cell? w _ da
  have HB := Aside0.mk (below_drew1 (below_alloc (below_alloc (Below.refl w.heap.size w) (jobC Ai Ao As gd)) (.cells #[.int .i64 0, .int .i64 0] 63)))
  have X0 := Aside0.mk (blk_drew (blk_alloc (blk_new w (jobC Ai Ao As gd)) (.cells #[.int .i64 0, .int .i64 0] 63)))
  have R0' := blk_drew (blk_new (w.alloc (jobC Ai Ao As gd)) (.cells #[.int .i64 0, .int .i64 0] 63))
  have hsz : (w.alloc (jobC Ai Ao As gd)).heap.size = w.heap.size + 1 := by simp
  rw [hsz] at R0'
  have R0 := Aside0.mk R0'
  clear hsz R0'
  have DA := Aside0.mk da
  have LT := Aside0.mk lt
  go_enter Tryd.func46, Tryd.ntmps46
  go_wp2_with fail
  clear da
  go_region_held3 (fun w' => w'.cell? ⟨w.heap.size, 0, none⟩ = some (.slice (some Ai) 1 1) ∧ w'.cell? ⟨w.heap.size, 11, none⟩ = some (.int .i64 9) ∧ w'.cell? ⟨w.heap.size, 12, none⟩ = some (.slice none 0 0) ∧ w'.cell? ⟨w.heap.size, 13, none⟩ = some (.slice none 0 0) ∧ w'.cell? ⟨w.heap.size, 14, none⟩ = some (.slice none 0 0) ∧ w'.cell? Ai = some (.string ⟨#[97]⟩))
    (first | exact ⟨(blk_cell XA.out 0).trans rfl, (blk_cell XA.out 11).trans rfl, (blk_cell XA.out 12).trans rfl, (blk_cell XA.out 13).trans rfl, (blk_cell XA.out 14).trans rfl, (HBA.out.cell LT.out).trans DA.out⟩
           | exact ⟨(blk_cell X0.out 0).trans rfl, (blk_cell X0.out 11).trans rfl, (blk_cell X0.out 12).trans rfl, (blk_cell X0.out 13).trans rfl, (blk_cell X0.out 14).trans rfl, (HB.out.cell LT.out).trans DA.out⟩
           | exact ⟨(blk_cell (blk_far (blk_far XA.out (Nat.ne_of_lt (Nat.lt_succ_self _)) _) (Nat.ne_of_lt (Nat.lt_succ_self _)) _) 0).trans rfl, (blk_cell (blk_far (blk_far XA.out (Nat.ne_of_lt (Nat.lt_succ_self _)) _) (Nat.ne_of_lt (Nat.lt_succ_self _)) _) 11).trans rfl, (blk_cell (blk_far (blk_far XA.out (Nat.ne_of_lt (Nat.lt_succ_self _)) _) (Nat.ne_of_lt (Nat.lt_succ_self _)) _) 12).trans rfl, (blk_cell (blk_far (blk_far XA.out (Nat.ne_of_lt (Nat.lt_succ_self _)) _) (Nat.ne_of_lt (Nat.lt_succ_self _)) _) 13).trans rfl, (blk_cell (blk_far (blk_far XA.out (Nat.ne_of_lt (Nat.lt_succ_self _)) _) (Nat.ne_of_lt (Nat.lt_succ_self _)) _) 14).trans rfl, ((below_set (below_set HBA.out (Nat.le_succ _)) (Nat.le_succ _)).cell LT.out).trans DA.out⟩)
    (first
      | (go_at_call 65; refine (clocks_At.calls 1 9 none 0 [] none 0 [] none 0 [] ⟨#[97]⟩ 0 0 _ (Kd.C_nil _ _) (by decide) (Kd.C_nil _ _) (by decide) (Kd.C_nil _ _) (by decide) at9).mono ?_; rintro e w1 ⟨rfl, hw⟩; have HBA := Aside0.mk (below_step HB.out hw); have XA := Aside0.mk (blk_below X0.out hw); have RA := Aside0.mk (blk_below R0.out hw); have r0 : w1.cell? ⟨w.heap.size + 1, 0, none⟩ = some (.int .i64 0) := (blk_cell RA.out 0).trans rfl; have r1 : w1.cell? ⟨w.heap.size + 1, 1, none⟩ = some (.int .i64 0) := (blk_cell RA.out 1).trans rfl; have f0 : w1.frozen? ⟨w.heap.size + 1, 0, none⟩ = false := blk_frozen RA.out 0; have f1 : w1.frozen? ⟨w.heap.size + 1, 1, none⟩ = false := blk_frozen RA.out 1))
  go_wp2
  refine bodyPost_ret (results_cell_row rfl _ _ (w.heap.size + 1) 63 #[.int .i64 0, .int .i64 0] (0, 0) _ rfl (blk_put (cs := #[.int .i64 0, .int .i64 0]) (blk_put (cs := #[.int .i64 0, .int .i64 0]) RA.out 0 _ rfl) 1 _ rfl) Tryd.underlying63 rfl (by kernel_rfl)) rfl ?_
  exact ⟨rfl, below_set (below_set HBA.out (Nat.le_succ _)) (Nat.le_succ _)⟩
end Go.Proofs.YtpkpmdmmnhmnlaaDoor.PT
namespace Go.Proofs.YtpkpmdmmnhmnlaaDoor.PT
open Go.RowKit Go.Proofs.YtpkpmdmmnhmnlaaDoorW.PrintWords Go.Proofs.YtpkpmdmmnhmnlaaDoorW.PrintLast Go.Proofs.YtpkpmdmmnhmnlaaDoorW.PrintMore
set_option linter.unusedVariables false
set_option linter.unusedSimpArgs false

abbrev newC : Obj := .cells #[.bool false, .int .i64 0, .int .i64 0, .bool false, .int .i64 0, .int .i64 0, .bool false, .int .i64 0, .int .i64 0] 89
theorem make3 (W : World) : (Instr.makeSlice 84 (.int .i64 3) (.int .i64 3)).run Tryd.prog W = .ok (.slice (some ⟨W.heap.size, 0, none⟩) 3 3) (W.alloc newC) := by
  obtain ⟨i, hi, h0, h1, h2⟩ := info_parts info89
  rw [run_makeSlice W 84 89 i _ Tryd.underlying84 hi h0 .i64 .i64 3 3 (by decide) (by decide) (by rw [h1]; decide) (by rw [h2]; decide) (by decide), h1]
  have e : madeCells (Value.agg #[Value.bool false, Value.int .i64 0, Value.int .i64 0]).cells (Int.toNat 3 * 3) = #[.bool false, .int .i64 0, .int .i64 0, .bool false, .int .i64 0, .int .i64 0, .bool false, .int .i64 0, .int .i64 0] := by kernel_rfl
  rw [e]
  rfl
set_option maxHeartbeats 4000000 in
set_option maxRecDepth 100000 in
theorem from_c (Ai Ao As : Addr) (gd gs : Nat) (w : World) (h : Wire w Ai Ao As) (hs : w.cell? ⟨gs, 0, none⟩ = some (.int .i64 0)) :
    Calls Tryd.prog 35 #[.agg #[.slice (some Ai) 1 1, .slice (some Ao) 1 1, .slice none 0 0, .slice none 0 0, .slice (some As) 1 1, .slice none 0 0, .slice none 0 0, .slice none 0 0, .slice (some ⟨gd, 0, none⟩) 1 1, .slice none 0 0, .slice none 0 0, .int .i64 9, .slice none 0 0, .slice none 0 0, .slice none 0 0], .slice (some ⟨gs, 0, none⟩) 1 1] w fun e w' => (∃ gn, e = .returned (.slice (some ⟨gn, 0, none⟩) 3 3) ∧ w'.cell? ⟨gn, 6, none⟩ = some (.bool true) ∧ w'.cell? ⟨gn, 7, none⟩ = some (.int .i64 0) ∧ w'.cell? ⟨gn, 8, none⟩ = some (.int .i64 0)) ∧ Below w.heap.size w w' := by
  have hu51 := Tryd.underlying74
  have hu37 := Tryd.underlying27
  have hu39 := Tryd.underlying63
  have hu67 := Tryd.underlying89
  have HS := Aside0.mk hs
  have LS := Aside0.mk (World.block_lt_of_cell? w _ hs)
  have HB := Aside0.mk (below_alloc (Below.refl w.heap.size w) (jobC Ai Ao As gd))
  have BX := Aside0.mk (blk_new w (jobC Ai Ao As gd))
  have HW := Aside0.mk (h.below HB.out)
  clear h hs
  go_enter Tryd.func35, Tryd.ntmps35
  go_wp2_with fail
  refine (nets_c Ai Ao As _).mono ?_
  rintro e w1 ⟨rfl, hw⟩
  have HB1 := Aside0.mk (below_step HB.out hw)
  have BX1 := Aside0.mk (blk_below BX.out hw)
  have HW1 := Aside0.mk (HW.out.below hw)
  clear hw HB BX HW
  obtain ⟨b0, b1, b2, b3, b4, b5, b6, b7, b8, b9, b10, b11, b12, b13, b14⟩ := jcells BX1.out
  have hmk := make3
  go_wp2_with fail
  have glt : w.heap.size < w1.heap.size := blk_lt BX1.out
  have HB2 := Aside0.mk (below_alloc HB1.out newC)
  have BX2 := Aside0.mk (blk_alloc BX1.out newC)
  have BN2 := Aside0.mk (blk_new w1 newC)
  have HW2 := Aside0.mk (HW1.out.below (below_alloc (Below.refl w1.heap.size w1) newC))
  have s2 : (w1.alloc newC).cell? ⟨gs, 0, none⟩ = some (.int .i64 0) := (HB2.out.cell LS.out).trans HS.out
  clear b0 b1 b2 b3 b4 b5 b6 b7 b8 b9 b10 b11 b12 b13 b14
  generalize hg : w1.heap.size = gn at *
  generalize w1.alloc newC = w2 at *
  obtain ⟨b0, b1, b2, b3, b4, b5, b6, b7, b8, b9, b10, b11, b12, b13, b14⟩ := jcells BX2.out
  refine wp_loop_rounds 2 ?_
  rw [rounds_succ]
  go_wp2_with fail
  refine (leaves_c Ai Ao As gd w2 HW2.out).mono ?_
  rintro e w3 ⟨rfl, hw⟩
  have HB3 := Aside0.mk (below_step HB2.out hw)
  have BX3 := Aside0.mk (blk_below BX2.out hw)
  have BN3 := Aside0.mk (blk_below BN2.out hw)
  have HW3 := Aside0.mk (HW2.out.below hw)
  clear hw HB2 BX2 BN2 HW2 s2 b0 b1 b2 b3 b4 b5 b6 b7 b8 b9 b10 b11 b12 b13 b14
  obtain ⟨b0, b1, b2, b3, b4, b5, b6, b7, b8, b9, b10, b11, b12, b13, b14⟩ := jcells BX3.out
  have n6 : w3.cell? ⟨gn, 6, none⟩ = some (.bool false) := (blk_cell BN3.out 6).trans rfl
  have n7 : w3.cell? ⟨gn, 7, none⟩ = some (.int .i64 0) := (blk_cell BN3.out 7).trans rfl
  have n8 : w3.cell? ⟨gn, 8, none⟩ = some (.int .i64 0) := (blk_cell BN3.out 8).trans rfl
  have f6 : w3.frozen? ⟨gn, 6, none⟩ = false := blk_frozen BN3.out 6
  have f7 : w3.frozen? ⟨gn, 7, none⟩ = false := blk_frozen BN3.out 7
  have f8 : w3.frozen? ⟨gn, 8, none⟩ = false := blk_frozen BN3.out 8
  have gl3 : gn < w3.heap.size := blk_lt BN3.out
  have ne1 : w.heap.size ≠ gn := Nat.ne_of_lt glt
  go_wp2_with fail
  have BXW := Aside0.mk (blk_alloc (blk_far (blk_far (blk_far BX3.out (p := ⟨gn, 6, none⟩) ne1 (.bool true)) (p := ⟨gn, 7, none⟩) ne1 (.int .i64 0)) (p := ⟨gn, 8, none⟩) ne1 (.int .i64 0)) (.cells #[.int .i64 0, .int .i64 0] 63))
  have BNW := Aside0.mk (blk_alloc (blk_put (blk_put (blk_put BN3.out 6 (.bool true) rfl) 7 (.int .i64 0) rfl) 8 (.int .i64 0) rfl) (.cells #[.int .i64 0, .int .i64 0] 63))
  have HBW := Aside0.mk (below_alloc (below_set (below_set (below_set HB3.out (g := gn) (j := 6) (v := .bool true) (Nat.le_of_lt glt)) (g := gn) (j := 7) (v := .int .i64 0) (Nat.le_of_lt glt)) (g := gn) (j := 8) (v := .int .i64 0) (Nat.le_of_lt glt)) (.cells #[.int .i64 0, .int .i64 0] 63))
  clear n6 n7 n8 f6 f7 f8 b0 b1 b2 b3 b4 b5 b6 b7 b8 b9 b10 b11 b12 b13 b14 HB3 BX3 BN3 HW3 gl3
  generalize (((w3.setCell ⟨gn, 6, none⟩ (.bool true)).setCell ⟨gn, 7, none⟩ (.int .i64 0)).setCell ⟨gn, 8, none⟩ (.int .i64 0)).alloc (.cells #[.int .i64 0, .int .i64 0] 63) = w4 at *
  obtain ⟨b0, b1, b2, b3, b4, b5, b6, b7, b8, b9, b10, b11, b12, b13, b14⟩ := jcells BXW.out
  rw [rounds_succ]
  go_wp2_with fail
  refine (first_c Ai Ao As _).mono ?_
  rintro e w5 ⟨rfl, hw⟩
  have HB5 := Aside0.mk (below_step HBW.out hw)
  have BX5 := Aside0.mk (blk_below BXW.out hw)
  have BN5 := Aside0.mk (blk_below BNW.out hw)
  clear hw HBW BXW BNW b0 b1 b2 b3 b4 b5 b6 b7 b8 b9 b10 b11 b12 b13 b14
  obtain ⟨b0, b1, b2, b3, b4, b5, b6, b7, b8, b9, b10, b11, b12, b13, b14⟩ := jcells BX5.out
  go_wp2_with fail
  refine wp_loop_once ?_
  go_wp2_with fail
  go_ret
  exact ⟨⟨gn, rfl, (blk_cell BN5.out 6).trans rfl, (blk_cell BN5.out 7).trans rfl, (blk_cell BN5.out 8).trans rfl⟩, HB5.out⟩
end Go.Proofs.YtpkpmdmmnhmnlaaDoor.PT
namespace Go.Proofs.YtpkpmdmmnhmnlaaDoor.PT
open Go.RowKit Go.Proofs.YtpkpmdmmnhmnlaaDoorW.PrintWords Go.Proofs.YtpkpmdmmnhmnlaaDoorW.PrintLast Go.Proofs.YtpkpmdmmnhmnlaaDoorW.PrintMore
set_option linter.unusedVariables false
set_option linter.unusedSimpArgs false

/-- An endpoint lies at the begin of a row. -/
def Row8 (w : World) (g : Nat) (l : List Value) : Prop := ∃ cur : Array Value, w.heap[g]? = some (.cells cur 38 (0, 0)) ∧ cur.toList.take 8 = l
theorem Row8.below {w w' : World} {g : Nat} {l : List Value} (h : Row8 w g l) (hb : Below w.heap.size w w') : Row8 w' g l := by
  obtain ⟨cur, h1, h2⟩ := h
  exact ⟨cur, blk_below h1 hb, h2⟩
theorem Row8.alloc {w : World} {g : Nat} {l : List Value} (h : Row8 w g l) (o : Obj) : Row8 (w.alloc o) g l := by
  obtain ⟨cur, h1, h2⟩ := h
  exact ⟨cur, blk_alloc h1 o, h2⟩
theorem Row8.drew {w : World} {g : Nat} {l : List Value} (h : Row8 w g l) : Row8 w.drew g l := h
theorem Row8.lt {w : World} {g : Nat} {l : List Value} (h : Row8 w g l) : g < w.heap.size := by
  obtain ⟨cur, h1, h2⟩ := h
  exact blk_lt h1
theorem Row8.cell {w : World} {g : Nat} {l : List Value} (h : Row8 w g l) (i : Nat) (hi : i < 8) : w.cell? ⟨g, i, none⟩ = l[i]? := by
  obtain ⟨cur, h1, rfl⟩ := h
  rw [blk_cell h1 i, List.getElem?_take, if_pos hi, Array.getElem?_toList]
theorem Row8.frozen {w : World} {g : Nat} {l : List Value} (h : Row8 w g l) (i : Nat) : w.frozen? ⟨g, i, none⟩ = false := by
  obtain ⟨cur, h1, h2⟩ := h
  exact blk_frozen h1 i
theorem Row8.set {w : World} {g : Nat} {l : List Value} (h : Row8 w g l) (i : Nat) (v : Value) : Row8 (w.setCell ⟨g, i, none⟩ v) g (l.set i v) := by
  obtain ⟨cur, h1, rfl⟩ := h
  refine ⟨cur.setIfInBounds i v, blk_set h1 i v, ?_⟩
  rw [Array.toList_setIfInBounds, List.take_set]
theorem Row8.all {w : World} {g : Nat} {a b c d e f x y : Value} (h : Row8 w g [a, b, c, d, e, f, x, y]) : w.cell? ⟨g, 0, none⟩ = some a ∧ w.cell? ⟨g, 1, none⟩ = some b ∧ w.cell? ⟨g, 2, none⟩ = some c ∧ w.cell? ⟨g, 3, none⟩ = some d ∧ w.cell? ⟨g, 4, none⟩ = some e ∧ w.cell? ⟨g, 5, none⟩ = some f ∧ w.cell? ⟨g, 6, none⟩ = some x ∧ w.cell? ⟨g, 7, none⟩ = some y :=
  ⟨h.cell 0 (by decide), h.cell 1 (by decide), h.cell 2 (by decide), h.cell 3 (by decide), h.cell 4 (by decide), h.cell 5 (by decide), h.cell 6 (by decide), h.cell 7 (by decide)⟩
theorem infoE : (Tryd.prog.info? 38).map (fun i => (i.zero, i.size, i.bytes)) = some (some (.agg #[.int .i64 0, .int .i64 0, .bool false, .int .i64 0, .int .i64 0, .bool false, .int .i64 0, .int .i64 0]), 8, 64) := by kernel_rfl
abbrev end0 : List Value := [.int .i64 (-1), .int .i64 0, .bool false, .int .i64 0, .int .i64 0, .bool false, .int .i64 0, .int .i64 0]

set_option maxHeartbeats 4000000 in
set_option maxRecDepth 100000 in
theorem ends9_c (Ai Ao As : Addr) (w : World) :
    Calls Tryd.prog 33 #[.agg #[.slice (some Ai) 1 1, .slice (some Ao) 1 1, .slice none 0 0, .slice none 0 0, .slice (some As) 1 1]] w fun e w' => (∃ g cap, e = .returned (.slice (some ⟨g, 0, none⟩) 1 cap) ∧ w.heap.size < g ∧ 1 ≤ cap ∧ Row8 w' g [.int .i64 (-1), .int .i64 0, .bool false, .int .i64 0, .int .i64 0, .bool false, .int .i64 0, .int .i64 0]) ∧ Below w.heap.size w w' := by
  obtain ⟨i0, hi, hz0, hz1, hz2⟩ := info_parts infoE
  have hu37 := Tryd.underlying27
  have HB := Aside0.mk (below_alloc (Below.refl w.heap.size w) (netC Ai Ao As))
  have BX := Aside0.mk (blk_new w (netC Ai Ao As))
  go_enter Tryd.func33, Tryd.ntmps33
  go_wp2
  refine wp_loop_once ?_
  go_wp2
  have HB1 := HB
  have BX1 := BX
  clear HB BX
  generalize w.alloc (netC Ai Ao As) = w1 at *
  refine wp_loop_rounds 2 ?_
  rw [rounds_succ]
  obtain ⟨b0, b1, b2, b3, b4⟩ := cells5 BX1.out
  go_wp2_with (first
    | (at_builtin; refine wpList_append_own _ rfl _ _ 39 rfl (w.heap.size + 1) 38 i0 (.agg #[.int .i64 0, .int .i64 0, .bool false, .int .i64 0, .int .i64 0, .bool false, .int .i64 0, .int .i64 0]) 8 64 Tryd.underlying39 hi hz0 hz1 hz2 rfl (by decide) _ _ _ rfl (World.ownsRow_nil _ _ _ _) ⟨w1.heap.size, 0, none⟩ 1 1 [.int .i64 (-1), .int .i64 0, .bool false, .int .i64 0, .int .i64 0, .bool false, .int .i64 0, .int .i64 0] rfl rfl (fun j u hj => by rw [Hnd.add0, blk_cell (blk_new w1 _) j]; simpa using hj) (fun x hx => by simp only [List.mem_cons, List.not_mem_nil, or_false] at hx; rcases hx with rfl | rfl | rfl | rfl | rfl | rfl | rfl | rfl <;> rfl) (by decide) (by decide) (by have := blk_lt BX1.out; simp; omega) ?_; intro v' w3 hown' hgrow3 hnil3))
  obtain ⟨g, cap, rfl, hg, hcap, hrow⟩ : ∃ g cap, v' = .slice (some ⟨g, 0, none⟩) 1 cap ∧ w.heap.size < g ∧ 1 ≤ cap ∧ Row8 w3 g [.int .i64 (-1), .int .i64 0, .bool false, .int .i64 0, .int .i64 0, .bool false, .int .i64 0, .int .i64 0] := by
    rcases hown'.2 with ⟨_, h⟩ | ⟨g, cap, cur, h, hb, hc, hn, _, _, ht⟩
    · exact absurd h (by decide)
    · exact ⟨g, cap, h, hb, hn, cur, hc, ht⟩
  have HR := Aside0.mk hrow
  have HB3 := Aside0.mk ((below_alloc HB1.out _).grown hgrow3 (by have := blk_lt BX1.out; simp; omega) (fun k hk => absurd (show (Value.slice none 0 0).ownBlock = some k from hk) (by simp [Value.ownBlock])))
  clear hrow hown' hgrow3 hnil3 b0 b1 b2 b3 b4 HB1 BX1
  rw [rounds_succ]
  go_wp2
  go_ret
  exact ⟨⟨g, cap, rfl, hg, hcap, HR.out⟩, HB3.out⟩
end Go.Proofs.YtpkpmdmmnhmnlaaDoor.PT
