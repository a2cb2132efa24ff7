/- When the endpoint of a wire can change. -/
/- What is left at the endpoint of a wire. -/
/- What is left at the endpoint of a wire, entered. -/
import Derived.Test.YtpkpmdmmnhmnlaaDoorPTq5
import Derived.Test.YtpkpmdmmnhmnlaaDoorPTx43
set_option linter.unusedSectionVars false
namespace Go.Proofs.YtpkpmdmmnhmnlaaDoor.PT
open Go.RowKit Go.Proofs.YtpkpmdmmnhmnlaaDoorW.PrintWords Go.Proofs.YtpkpmdmmnhmnlaaDoorW.PrintLast Go.Proofs.YtpkpmdmmnhmnlaaDoorW.PrintMore
set_option linter.unusedVariables false
set_option linter.unusedSimpArgs false

theorem later34 : timing_later.f true 0 0 3 4 = some (true, 3, 4) := by decide +kernel
/-- The arrival at the input of a wire. -/
structure Arv (w : World) (gn : Nat) : Prop where
  c6 : w.cell? ⟨gn, 6, none⟩ = some (.bool true)
  c7 : w.cell? ⟨gn, 7, none⟩ = some (.int .i64 0)
  c8 : w.cell? ⟨gn, 8, none⟩ = some (.int .i64 0)
theorem Arv.below {w w' : World} {gn : Nat} (h : Arv w gn) {n : Nat} (hn : w.heap.size ≤ n) (hb : Below n w w') : Arv w' gn :=
  ⟨(hb.cell (Nat.lt_of_lt_of_le (World.block_lt_of_cell? w _ h.c6) hn)).trans h.c6, (hb.cell (Nat.lt_of_lt_of_le (World.block_lt_of_cell? w _ h.c7) hn)).trans h.c7, (hb.cell (Nat.lt_of_lt_of_le (World.block_lt_of_cell? w _ h.c8) hn)).trans h.c8⟩
abbrev endC (x : Bool) (y z : Int) : Obj := .cells #[.int .i64 (-1), .int .i64 0, .bool x, .int .i64 y, .int .i64 z, .bool false, .int .i64 0, .int .i64 0] 38
abbrev jobL (Ai Ao As : Addr) (gd : Nat) : Array Value := #[.slice (some Ai) 1 1, .slice (some Ao) 1 1, .slice none 0 0, .slice none 0 0, .slice (some As) 1 1, .slice none 0 0, .slice none 0 0, .slice none 0 0, .slice (some ⟨gd, 0, none⟩) 1 1, .slice none 0 0, .slice none 0 0, .int .i64 9, .slice none 0 0, .slice none 0 0, .slice none 0 0]
theorem at_facts {w w' : World} {Ai Ao As : Addr} {gd gn g e n : Nat} {x : Bool} {y z : Int} (hn : w.heap.size ≤ n) (h : Wire w Ai Ao As) (hd : Win w gd) (ha : Arv w gn) (X : w'.heap[g]? = some (.cells (jobL Ai Ao As gd) 74 (0, 0))) (E : w'.heap[e]? = some (.cells #[.int .i64 (-1), .int .i64 0, .bool x, .int .i64 y, .int .i64 z, .bool false, .int .i64 0, .int .i64 0] 38 (0, 0))) (B : Below n w w') :
    w'.cell? ⟨g, 4, none⟩ = some (.slice (some As) 1 1) ∧ w'.cell? ⟨g, 8, none⟩ = some (.slice (some ⟨gd, 0, none⟩) 1 1) ∧ w'.cell? ⟨e, 1, none⟩ = some (.int .i64 0) ∧ w'.cell? As = some (.int .i64 2) ∧ w'.cell? ⟨gd, 0, none⟩ = some (.int .i64 3) ∧ w'.cell? ⟨gd, 1, none⟩ = some (.int .i64 4) ∧ w'.cell? ⟨gn, 6, none⟩ = some (.bool true) ∧ w'.cell? ⟨gn, 7, none⟩ = some (.int .i64 0) ∧ w'.cell? ⟨gn, 8, none⟩ = some (.int .i64 0) :=
  ⟨(blk_cell X 4).trans rfl, (blk_cell X 8).trans rfl, (blk_cell E 1).trans rfl, (B.cell (Nat.lt_of_lt_of_le (World.block_lt_of_cell? w _ h.outs) hn)).trans h.outs, (B.cell (Nat.lt_of_lt_of_le (World.block_lt_of_cell? w _ hd.lo) hn)).trans hd.lo, (B.cell (Nat.lt_of_lt_of_le (World.block_lt_of_cell? w _ hd.hi) hn)).trans hd.hi, (Arv.below ha hn B).c6, (Arv.below ha hn B).c7, (Arv.below ha hn B).c8⟩
theorem n_two (n : Nat) : n ≠ n + 2 := by omega
theorem n_three (n : Nat) : n + 1 ≠ n + 2 := by omega

set_option maxHeartbeats 4000000 in
set_option maxRecDepth 100000 in
theorem at_c (Ai Ao As : Addr) (gd gn : Nat) (x : Bool) (y z : Int) (w : World) (h : Wire w Ai Ao As) (hd : Win w gd) (ha : Arv w gn) :
    Calls Tryd.prog 55 #[.agg #[.slice (some Ai) 1 1, .slice (some Ao) 1 1, .slice none 0 0, .slice none 0 0, .slice (some As) 1 1, .slice none 0 0, .slice none 0 0, .slice none 0 0, .slice (some ⟨gd, 0, none⟩) 1 1, .slice none 0 0, .slice none 0 0, .int .i64 9, .slice none 0 0, .slice none 0 0, .slice none 0 0], .slice (some ⟨gn, 0, none⟩) 3 3, .agg #[.int .i64 (-1), .int .i64 0, .bool x, .int .i64 y, .int .i64 z, .bool false, .int .i64 0, .int .i64 0]] w fun e w' => e = .returned (.agg #[.bool true, .int .i64 3, .int .i64 4]) ∧ Below w.heap.size w w' := by
  have hu51 := Tryd.underlying74
  have hu37 := Tryd.underlying27
  have hu43 := Tryd.underlying67
  have hu39 := Tryd.underlying63
  have hu67 := Tryd.underlying89
  have hu27 := Tryd.underlying38
  have H := Aside0.mk h
  have HD := Aside0.mk hd
  have HA := Aside0.mk ha
  have HB := Aside0.mk (below_drew1 (below_alloc (below_alloc (below_alloc (Below.refl w.heap.size w) (jobC Ai Ao As gd)) (endC x y z)) (.cells #[.bool false, .int .i64 0, .int .i64 0] 89)))
  have X0 := Aside0.mk (blk_drew (blk_alloc (blk_alloc (blk_new w (jobC Ai Ao As gd)) (endC x y z)) (.cells #[.bool false, .int .i64 0, .int .i64 0] 89)))
  have E0' := blk_drew (blk_alloc (blk_new (w.alloc (jobC Ai Ao As gd)) (endC x y z)) (.cells #[.bool false, .int .i64 0, .int .i64 0] 89))
  have R0' := blk_drew (blk_new ((w.alloc (jobC Ai Ao As gd)).alloc (endC x y z)) (.cells #[.bool false, .int .i64 0, .int .i64 0] 89))
  have hsz : (w.alloc (jobC Ai Ao As gd)).heap.size = w.heap.size + 1 := by simp
  have hsz2 : ((w.alloc (jobC Ai Ao As gd)).alloc (endC x y z)).heap.size = w.heap.size + 2 := by simp
  rw [hsz] at E0'
  rw [hsz2] at R0'
  have E0 := Aside0.mk E0'
  have R0 := Aside0.mk R0'
  clear hsz hsz2 E0' R0' h hd ha
  go_enter Tryd.func55, Tryd.ntmps55
  go_wp2_with fail
  go_region_held3 (fun w' => w'.cell? ⟨w.heap.size, 4, none⟩ = some (.slice (some As) 1 1) ∧ w'.cell? ⟨w.heap.size, 8, none⟩ = some (.slice (some ⟨gd, 0, none⟩) 1 1) ∧ w'.cell? ⟨w.heap.size + 1, 1, none⟩ = some (.int .i64 0) ∧ w'.cell? As = some (.int .i64 2) ∧ w'.cell? ⟨gd, 0, none⟩ = some (.int .i64 3) ∧ w'.cell? ⟨gd, 1, none⟩ = some (.int .i64 4) ∧ w'.cell? ⟨gn, 6, none⟩ = some (.bool true) ∧ w'.cell? ⟨gn, 7, none⟩ = some (.int .i64 0) ∧ w'.cell? ⟨gn, 8, none⟩ = some (.int .i64 0))
    (first | exact at_facts (Nat.le_refl _) H.out HD.out HA.out XA.out EA.out HBA.out
           | exact at_facts (Nat.le_refl _) H.out HD.out HA.out X0.out E0.out HB.out
           | exact at_facts (Nat.le_refl _) H.out HD.out HA.out (blk_far (blk_far (blk_far XA.out (n_two _) _) (n_two _) _) (n_two _) _) (blk_far (blk_far (blk_far EA.out (n_three _) _) (n_three _) _) (n_three _) _) (below_set (below_set (below_set HBA.out (Nat.le_add_right _ 2)) (Nat.le_add_right _ 2)) (Nat.le_add_right _ 2)))
    (first
      | (go_at_call 49; refine (timing_later.calls true 0 0 3 4 true 3 4 _ later34).mono ?_; rintro e w1 ⟨rfl, hw⟩; have HBA := Aside0.mk (below_step HB.out hw); have XA := Aside0.mk (blk_below X0.out hw); have EA := Aside0.mk (blk_below E0.out hw); have RA := Aside0.mk (blk_below R0.out hw); have r0 : w1.cell? ⟨w.heap.size + 2, 0, none⟩ = some (.bool false) := (blk_cell RA.out 0).trans rfl; have r1 : w1.cell? ⟨w.heap.size + 2, 1, none⟩ = some (.int .i64 0) := (blk_cell RA.out 1).trans rfl; have r2 : w1.cell? ⟨w.heap.size + 2, 2, none⟩ = some (.int .i64 0) := (blk_cell RA.out 2).trans rfl; have f0 : w1.frozen? ⟨w.heap.size + 2, 0, none⟩ = false := blk_frozen RA.out 0; have f1 : w1.frozen? ⟨w.heap.size + 2, 1, none⟩ = false := blk_frozen RA.out 1; have f2 : w1.frozen? ⟨w.heap.size + 2, 2, none⟩ = false := blk_frozen RA.out 2))
  go_wp2
  refine bodyPost_ret (results_cell_row rfl _ _ (w.heap.size + 2) 89 #[.bool true, .int .i64 3, .int .i64 4] (0, 0) _ rfl (blk_put (cs := #[.bool true, .int .i64 3, .int .i64 0]) (blk_put (cs := #[.bool true, .int .i64 0, .int .i64 0]) (blk_put (cs := #[.bool false, .int .i64 0, .int .i64 0]) RA.out 0 _ rfl) 1 _ rfl) 2 _ rfl) Tryd.underlying89 rfl (by kernel_rfl)) rfl ?_
  exact ⟨rfl, below_set (below_set (below_set HBA.out (Nat.le_add_right _ 2)) (Nat.le_add_right _ 2)) (Nat.le_add_right _ 2)⟩
set_option maxHeartbeats 4000000 in
set_option maxRecDepth 100000 in
theorem in_c (Ai Ao As : Addr) (gd gn : Nat) (x : Bool) (y z : Int) (w : World) (h : Wire w Ai Ao As) (hd : Win w gd) (ha : Arv w gn) :
    Calls Tryd.prog 37 #[.agg #[.int .i64 (-1), .int .i64 0, .bool x, .int .i64 y, .int .i64 z, .bool false, .int .i64 0, .int .i64 0], .agg #[.slice (some Ai) 1 1, .slice (some Ao) 1 1, .slice none 0 0, .slice none 0 0, .slice (some As) 1 1, .slice none 0 0, .slice none 0 0, .slice none 0 0, .slice (some ⟨gd, 0, none⟩) 1 1, .slice none 0 0, .slice none 0 0, .int .i64 9, .slice none 0 0, .slice none 0 0, .slice none 0 0], .slice (some ⟨gn, 0, none⟩) 3 3] w fun e w' => e = .returned (.agg #[.bool true, .int .i64 3, .int .i64 4]) ∧ Below w.heap.size w w' := by
  have hu51 := Tryd.underlying74
  have hu27 := Tryd.underlying38
  have hu67 := Tryd.underlying89
  have HB := Aside0.mk (below_alloc (below_alloc (below_alloc (Below.refl w.heap.size w) (endC x y z)) (jobC Ai Ao As gd)) (.cells #[.bool false, .int .i64 0, .int .i64 0] 89))
  have R0' := blk_new ((w.alloc (endC x y z)).alloc (jobC Ai Ao As gd)) (.cells #[.bool false, .int .i64 0, .int .i64 0] 89)
  have hsz2 : ((w.alloc (endC x y z)).alloc (jobC Ai Ao As gd)).heap.size = w.heap.size + 2 := by simp
  rw [hsz2] at R0'
  have R0 := Aside0.mk R0'
  have HW := Aside0.mk (h.below HB.out)
  have HD := Aside0.mk (hd.below HB.out)
  have HA := Aside0.mk (ha.below (Nat.le_refl _) HB.out)
  clear hsz2 R0' h hd ha
  go_enter Tryd.func37, Tryd.ntmps37
  go_wp2_with fail
  refine (at_c Ai Ao As gd gn x y z _ HW.out HD.out HA.out).mono ?_
  rintro e w1 ⟨rfl, hw⟩
  have HBA := Aside0.mk (below_step HB.out hw)
  have RA := Aside0.mk (blk_below R0.out hw)
  have r0 : w1.cell? ⟨w.heap.size + 2, 0, none⟩ = some (.bool false) := (blk_cell RA.out 0).trans rfl
  have r1 : w1.cell? ⟨w.heap.size + 2, 1, none⟩ = some (.int .i64 0) := (blk_cell RA.out 1).trans rfl
  have r2 : w1.cell? ⟨w.heap.size + 2, 2, none⟩ = some (.int .i64 0) := (blk_cell RA.out 2).trans rfl
  have f0 : w1.frozen? ⟨w.heap.size + 2, 0, none⟩ = false := blk_frozen RA.out 0
  have f1 : w1.frozen? ⟨w.heap.size + 2, 1, none⟩ = false := blk_frozen RA.out 1
  have f2 : w1.frozen? ⟨w.heap.size + 2, 2, none⟩ = false := blk_frozen RA.out 2
  clear hw
  go_wp2
  refine bodyPost_ret (results_cell_row rfl _ _ (w.heap.size + 2) 89 #[.bool true, .int .i64 3, .int .i64 4] (0, 0) _ rfl (blk_put (cs := #[.bool true, .int .i64 3, .int .i64 0]) (blk_put (cs := #[.bool true, .int .i64 0, .int .i64 0]) (blk_put (cs := #[.bool false, .int .i64 0, .int .i64 0]) RA.out 0 _ rfl) 1 _ rfl) 2 _ rfl) Tryd.underlying89 rfl (by kernel_rfl)) rfl ?_
  exact ⟨rfl, below_set (below_set (below_set HBA.out (Nat.le_add_right _ 2)) (Nat.le_add_right _ 2)) (Nat.le_add_right _ 2)⟩
end Go.Proofs.YtpkpmdmmnhmnlaaDoor.PT
namespace Go.Proofs.YtpkpmdmmnhmnlaaDoor.PT
open Go.RowKit Go.Proofs.YtpkpmdmmnhmnlaaDoorW.PrintWords Go.Proofs.YtpkpmdmmnhmnlaaDoorW.PrintLast Go.Proofs.YtpkpmdmmnhmnlaaDoorW.PrintMore
set_option linter.unusedVariables false
set_option linter.unusedSimpArgs false

set_option maxHeartbeats 2000000 in
set_option maxRecDepth 100000 in
theorem name_c (Ai Ao As : Addr) (w : World) (h : Wire w Ai Ao As) :
    Calls Tryd.prog 51 #[.agg #[.slice (some Ai) 1 1, .slice (some Ao) 1 1, .slice none 0 0, .slice none 0 0, .slice (some As) 1 1], .int .i64 0] w fun e w' => e = .returned (.string ⟨#[97]⟩) ∧ Below w.heap.size w w' := by
  have hu37 := Tryd.underlying27
  have da := h.a
  have d1 : Ai.add 0 = Ai := by simp [Addr.add]
  have lt := World.block_lt_of_cell? w _ da
  go_enter Tryd.func51, Tryd.ntmps51
  go_wp2
  go_ret
  exact ⟨rfl, by repeat (first | exact Below.refl _ _ | apply below_alloc | apply pw_below_drewN | apply below_drew1)⟩
set_option maxHeartbeats 2000000 in
set_option maxRecDepth 100000 in
theorem label_c (Ai Ao As : Addr) (w : World) (h : Wire w Ai Ao As) :
    Calls Tryd.prog 52 #[.agg #[.slice (some Ai) 1 1, .slice (some Ao) 1 1, .slice none 0 0, .slice none 0 0, .slice (some As) 1 1], .agg #[.int .i64 (-1), .int .i64 0, .bool false, .int .i64 0, .int .i64 0, .bool false, .int .i64 0, .int .i64 0]] w fun e w' => e = .returned (.string ⟨#[98]⟩) ∧ Below w.heap.size w w' := by
  have hu37 := Tryd.underlying27
  have hu27 := Tryd.underlying38
  have da := h.b
  have d1 : Ao.add 0 = Ao := by simp [Addr.add]
  have lt := World.block_lt_of_cell? w _ da
  go_enter Tryd.func52, Tryd.ntmps52
  go_wp2
  go_ret
  exact ⟨rfl, by repeat (first | exact Below.refl _ _ | apply below_alloc | apply pw_below_drewN | apply below_drew1)⟩
set_option maxHeartbeats 2000000 in
set_option maxRecDepth 100000 in
theorem less_c (g : Nat) (w : World) (h : Row8 w g [.int .i64 (-1), .int .i64 0, .bool false, .int .i64 0, .int .i64 0, .bool false, .int .i64 0, .int .i64 0]) :
    Calls Tryd.prog 53 #[.pointer (some ⟨g, 2, none⟩), .int .i64 4, .int .i64 0] w fun e w' => e = .returned (.tuple #[]) ∧ w' = ((w.setCell ⟨g, 2, none⟩ (.bool true)).setCell ⟨g, 3, none⟩ (.int .i64 4)).setCell ⟨g, 4, none⟩ (.int .i64 0) := by
  have hu25 := Tryd.underlying36
  obtain ⟨r0, r1, r2, r3, r4, r5, r6, r7⟩ := h.all
  have f2 := h.frozen 2
  have f3 := h.frozen 3
  have f4 := h.frozen 4
  go_enter Tryd.func53, Tryd.ntmps53
  go_wp2
  first | go_end0 | ((try simp only [Exit.inBlock, Exit.then]); refine bodyPost_ret (results_none rfl _ _ _) rfl ?_)
  exact ⟨rfl, rfl⟩
theorem cyc1 : clocks_Cycles.f 1 9 [] [] [] ⟨#[97]⟩ ⟨#[98]⟩ = some 1 := by decide +kernel
theorem bef1 : clocks_Before.f 1 9 [] [] [] ⟨#[98]⟩ = some 1 := by decide +kernel
end Go.Proofs.YtpkpmdmmnhmnlaaDoor.PT
namespace Go.Proofs.YtpkpmdmmnhmnlaaDoor.PT
open Go.RowKit Go.Proofs.YtpkpmdmmnhmnlaaDoorW.PrintWords Go.Proofs.YtpkpmdmmnhmnlaaDoorW.PrintLast Go.Proofs.YtpkpmdmmnhmnlaaDoorW.PrintMore
set_option linter.unusedVariables false
set_option linter.unusedSimpArgs false

theorem sl_facts {w' : World} {Ai Ao As : Addr} {gd g r : Nat} {x y z : Value} (X : w'.heap[g]? = some (.cells (jobL Ai Ao As gd) 74 (0, 0))) (R : Row8 w' r [.int .i64 (-1), .int .i64 0, x, y, z, .bool false, .int .i64 0, .int .i64 0]) :
    w'.cell? ⟨g, 0, none⟩ = some (.slice (some Ai) 1 1) ∧ w'.cell? ⟨g, 1, none⟩ = some (.slice (some Ao) 1 1) ∧ w'.cell? ⟨g, 2, none⟩ = some (.slice none 0 0) ∧ w'.cell? ⟨g, 3, none⟩ = some (.slice none 0 0) ∧ w'.cell? ⟨g, 4, none⟩ = some (.slice (some As) 1 1) ∧ w'.cell? ⟨g, 11, none⟩ = some (.int .i64 9) ∧ w'.cell? ⟨g, 12, none⟩ = some (.slice none 0 0) ∧ w'.cell? ⟨g, 13, none⟩ = some (.slice none 0 0) ∧ w'.cell? ⟨g, 14, none⟩ = some (.slice none 0 0) ∧ w'.cell? ⟨r, 0, none⟩ = some (.int .i64 (-1)) ∧ w'.cell? ⟨r, 1, none⟩ = some (.int .i64 0) ∧ w'.cell? ⟨r, 2, none⟩ = some x ∧ w'.cell? ⟨r, 3, none⟩ = some y ∧ w'.cell? ⟨r, 4, none⟩ = some z ∧ w'.cell? ⟨r, 5, none⟩ = some (.bool false) ∧ w'.cell? ⟨r, 6, none⟩ = some (.int .i64 0) ∧ w'.cell? ⟨r, 7, none⟩ = some (.int .i64 0) :=
  ⟨(blk_cell X 0).trans rfl, (blk_cell X 1).trans rfl, (blk_cell X 2).trans rfl, (blk_cell X 3).trans rfl, (blk_cell X 4).trans rfl, (blk_cell X 11).trans rfl, (blk_cell X 12).trans rfl, (blk_cell X 13).trans rfl, (blk_cell X 14).trans rfl, R.all.1, R.all.2.1, R.all.2.2.1, R.all.2.2.2.1, R.all.2.2.2.2.1, R.all.2.2.2.2.2.1, R.all.2.2.2.2.2.2.1, R.all.2.2.2.2.2.2.2⟩
theorem sl_facts2 {w' : World} {Ai Ao As : Addr} {gd g a r : Nat} {x y z : Value} (X : w'.heap[g]? = some (.cells (jobL Ai Ao As gd) 74 (0, 0))) (A : w'.heap[a]? = some (.cells #[.bool true, .int .i64 3, .int .i64 4] 89 (0, 0))) (R : Row8 w' r [.int .i64 (-1), .int .i64 0, x, y, z, .bool false, .int .i64 0, .int .i64 0]) (hb : w'.cell? Ao = some (.string ⟨#[98]⟩)) :
    w'.cell? ⟨g, 1, none⟩ = some (.slice (some Ao) 1 1) ∧ w'.cell? ⟨g, 11, none⟩ = some (.int .i64 9) ∧ w'.cell? ⟨g, 12, none⟩ = some (.slice none 0 0) ∧ w'.cell? ⟨g, 13, none⟩ = some (.slice none 0 0) ∧ w'.cell? ⟨g, 14, none⟩ = some (.slice none 0 0) ∧ w'.cell? ⟨r, 1, none⟩ = some (.int .i64 0) ∧ w'.cell? ⟨a, 2, none⟩ = some (.int .i64 4) ∧ w'.cell? Ao = some (.string ⟨#[98]⟩) :=
  ⟨(blk_cell X 1).trans rfl, (blk_cell X 11).trans rfl, (blk_cell X 12).trans rfl, (blk_cell X 13).trans rfl, (blk_cell X 14).trans rfl, R.all.2.1, (blk_cell A 2).trans rfl, hb⟩
theorem far3 {w : World} {g r T : Nat} {cs : Array Value} (h : w.heap[g]? = some (.cells cs T (0, 0))) (hne : g ≠ r) (u v x : Value) : (((w.setCell ⟨r, 2, none⟩ u).setCell ⟨r, 3, none⟩ v).setCell ⟨r, 4, none⟩ x).heap[g]? = some (.cells cs T (0, 0)) :=
  blk_far (blk_far (blk_far h (p := ⟨r, 2, none⟩) hne u) (p := ⟨r, 3, none⟩) hne v) (p := ⟨r, 4, none⟩) hne x
theorem below3 {n : Nat} {w0 w : World} {r : Nat} (h : Below n w0 w) (hn : n ≤ r) (u v x : Value) : Below n w0 (((w.setCell ⟨r, 2, none⟩ u).setCell ⟨r, 3, none⟩ v).setCell ⟨r, 4, none⟩ x) :=
  ((h.setCell (p := ⟨r, 2, none⟩) hn u).setCell (p := ⟨r, 3, none⟩) hn v).setCell (p := ⟨r, 4, none⟩) hn x
set_option maxHeartbeats 8000000 in
set_option maxRecDepth 100000 in
theorem slacks_c (Ai Ao As : Addr) (gd r : Nat) (w : World) (h : Wire w Ai Ao As) (hb : Ao.block < r) (hr : Row8 w r [.int .i64 (-1), .int .i64 0, .bool false, .int .i64 0, .int .i64 0, .bool false, .int .i64 0, .int .i64 0]) :
    Calls Tryd.prog 36 #[.agg #[.slice (some Ai) 1 1, .slice (some Ao) 1 1, .slice none 0 0, .slice none 0 0, .slice (some As) 1 1, .slice none 0 0, .slice none 0 0, .slice none 0 0, .slice (some ⟨gd, 0, none⟩) 1 1, .slice none 0 0, .slice none 0 0, .int .i64 9, .slice none 0 0, .slice none 0 0, .slice none 0 0], .pointer (some ⟨r, 0, none⟩), .int .i64 0, .agg #[.bool true, .int .i64 3, .int .i64 4]] w fun e w' => e = .returned (.tuple #[]) ∧ Row8 w' r [.int .i64 (-1), .int .i64 0, .bool true, .int .i64 4, .int .i64 0, .bool false, .int .i64 0, .int .i64 0] ∧ Below r w w' := by
  have hu51 := Tryd.underlying74
  have hu37 := Tryd.underlying27
  have hu48 := Tryd.underlying72
  have hu67 := Tryd.underlying89
  have hu27 := Tryd.underlying38
  have LR := Aside0.mk hr.lt
  have LB := Aside0.mk hb
  have HB := Aside0.mk (below_drew1 (below_alloc (below_alloc (Below.refl w.heap.size w) (jobC Ai Ao As gd)) (.cells #[.bool true, .int .i64 3, .int .i64 4] 89)))
  have X0 := Aside0.mk (blk_drew (blk_alloc (blk_new w (jobC Ai Ao As gd)) (.cells #[.bool true, .int .i64 3, .int .i64 4] 89)))
  have A0' := blk_drew (blk_new (w.alloc (jobC Ai Ao As gd)) (.cells #[.bool true, .int .i64 3, .int .i64 4] 89))
  have hsz : (w.alloc (jobC Ai Ao As gd)).heap.size = w.heap.size + 1 := by simp
  rw [hsz] at A0'
  have A0 := Aside0.mk A0'
  have R0 := Aside0.mk (hr.below HB.out)
  have W0 := Aside0.mk (h.below HB.out)
  clear hsz A0' h hr hb
  go_enter Tryd.func36, Tryd.ntmps36
  go_wp2_with fail
  go_region_held3 (fun w' => w'.cell? ⟨w.heap.size, 0, none⟩ = some (.slice (some Ai) 1 1) ∧ w'.cell? ⟨w.heap.size, 1, none⟩ = some (.slice (some Ao) 1 1) ∧ w'.cell? ⟨w.heap.size, 2, none⟩ = some (.slice none 0 0) ∧ w'.cell? ⟨w.heap.size, 3, none⟩ = some (.slice none 0 0) ∧ w'.cell? ⟨w.heap.size, 4, none⟩ = some (.slice (some As) 1 1) ∧ w'.cell? ⟨w.heap.size, 11, none⟩ = some (.int .i64 9) ∧ w'.cell? ⟨w.heap.size, 12, none⟩ = some (.slice none 0 0) ∧ w'.cell? ⟨w.heap.size, 13, none⟩ = some (.slice none 0 0) ∧ w'.cell? ⟨w.heap.size, 14, none⟩ = some (.slice none 0 0) ∧ w'.cell? ⟨r, 0, none⟩ = some (.int .i64 (-1)) ∧ w'.cell? ⟨r, 1, none⟩ = some (.int .i64 0) ∧ w'.cell? ⟨r, 2, none⟩ = some (.bool false) ∧ w'.cell? ⟨r, 3, none⟩ = some (.int .i64 0) ∧ w'.cell? ⟨r, 4, none⟩ = some (.int .i64 0) ∧ w'.cell? ⟨r, 5, none⟩ = some (.bool false) ∧ w'.cell? ⟨r, 6, none⟩ = some (.int .i64 0) ∧ w'.cell? ⟨r, 7, none⟩ = some (.int .i64 0))
    (first | exact sl_facts X3.out R3.out | exact sl_facts X2.out R2.out | exact sl_facts X1.out R1.out | exact sl_facts X0.out R0.out)
    (first
      | (go_at_call 51; refine (name_c Ai Ao As _ W0.out).mono ?_; rintro e w1 ⟨rfl, hw⟩; have HB1 := Aside0.mk (below_step HB.out hw); have X1 := Aside0.mk (blk_below X0.out hw); have A1 := Aside0.mk (blk_below A0.out hw); have R1 := Aside0.mk (R0.out.below hw); have W1 := Aside0.mk (W0.out.below hw))
      | (go_at_call 52; refine (label_c Ai Ao As _ W1.out).mono ?_; rintro e w2 ⟨rfl, hw2⟩; have HB2 := Aside0.mk (below_step HB1.out hw2); have X2 := Aside0.mk (blk_below X1.out hw2); have A2 := Aside0.mk (blk_below A1.out hw2); have R2 := Aside0.mk (R1.out.below hw2); have W2 := Aside0.mk (W1.out.below hw2))
      | (go_at_call 50; refine (clocks_Cycles.calls 1 9 none 0 [] none 0 [] none 0 [] ⟨#[97]⟩ ⟨#[98]⟩ 1 _ (Kd.C_nil _ _) (by decide) (Kd.C_nil _ _) (by decide) (Kd.C_nil _ _) (by decide) cyc1).mono ?_; rintro e w3 ⟨rfl, hw3⟩; have HB3 := Aside0.mk (below_step HB2.out hw3); have X3 := Aside0.mk (blk_below X2.out hw3); have A3 := Aside0.mk (blk_below A2.out hw3); have R3 := Aside0.mk (R2.out.below hw3); have W3 := Aside0.mk (W2.out.below hw3)))
  all_goals clear X0 A0 R0 W0 HB X1 A1 R1 W1 HB1 X2 A2 R2 W2 HB2
  all_goals obtain ⟨b0, b1, b2, b3, b4, b5, b6, b7, b8, b9, b10, b11, b12, b13, b14⟩ := jcells X3.out
  all_goals obtain ⟨r0, r1, r2, r3, r4, r5, r6, r7⟩ := R3.out.all
  all_goals have a0 : w3.cell? ⟨w.heap.size + 1, 0, none⟩ = some (.bool true) := (blk_cell A3.out 0).trans rfl
  all_goals have a1 : w3.cell? ⟨w.heap.size + 1, 1, none⟩ = some (.int .i64 3) := (blk_cell A3.out 1).trans rfl
  all_goals have a2 : w3.cell? ⟨w.heap.size + 1, 2, none⟩ = some (.int .i64 4) := (blk_cell A3.out 2).trans rfl
  all_goals go_wp2_with fail
  all_goals clear b0 b1 b2 b3 b4 b5 b6 b7 b8 b9 b10 b11 b12 b13 b14 r0 r1 r2 r3 r4 r5 r6 r7 a0 a1 a2
  all_goals have HB4 := Aside0.mk (below_drew1 HB3.out)
  all_goals have X4 := Aside0.mk (blk_drew X3.out)
  all_goals have A4 := Aside0.mk (blk_drew A3.out)
  all_goals have R4 := Aside0.mk R3.out.drew
  all_goals have d4 := Aside0.mk (show w3.drew.cell? Ao = some (.string ⟨#[98]⟩) from W3.out.b)
  all_goals have lo := Aside0.mk (show Ao.block < w3.drew.heap.size from World.block_lt_of_cell? w3 _ W3.out.b)
  all_goals have e1 : Ao.add 0 = Ao := by simp [Addr.add]
  all_goals have ne1 := Aside0.mk (show w.heap.size ≠ r from (Nat.ne_of_lt LR.out).symm)
  all_goals have ne2 := Aside0.mk (show w.heap.size + 1 ≠ r from (Nat.ne_of_lt (Nat.lt_succ_of_lt LR.out)).symm)
  all_goals clear X3 A3 R3 W3 HB3
  all_goals go_region_held3 (fun w' => w'.cell? ⟨w.heap.size, 1, none⟩ = some (.slice (some Ao) 1 1) ∧ w'.cell? ⟨w.heap.size, 11, none⟩ = some (.int .i64 9) ∧ w'.cell? ⟨w.heap.size, 12, none⟩ = some (.slice none 0 0) ∧ w'.cell? ⟨w.heap.size, 13, none⟩ = some (.slice none 0 0) ∧ w'.cell? ⟨w.heap.size, 14, none⟩ = some (.slice none 0 0) ∧ w'.cell? ⟨r, 1, none⟩ = some (.int .i64 0) ∧ w'.cell? ⟨w.heap.size + 1, 2, none⟩ = some (.int .i64 4) ∧ w'.cell? Ao = some (.string ⟨#[98]⟩))
    (first | exact sl_facts2 (far3 X5.out ne1.out _ _ _) (far3 A5.out ne2.out _ _ _) ((((R5.out.set 2 (.bool true)).set 3 (.int .i64 4)).set 4 (.int .i64 0))) (((below3 (Below.refl r _) (Nat.le_refl _) _ _ _).cell LB.out).trans d5.out) | exact sl_facts2 X5.out A5.out R5.out d5.out | exact sl_facts2 X4.out A4.out R4.out d4.out)
    (first
      | (go_at_call 54; refine (clocks_Before.calls 1 9 none 0 [] none 0 [] none 0 [] ⟨#[98]⟩ 1 _ (Kd.C_nil _ _) (by decide) (Kd.C_nil _ _) (by decide) (Kd.C_nil _ _) (by decide) bef1).mono ?_; rintro e w5 ⟨rfl, hw5⟩; have HB5 := Aside0.mk (below_step HB4.out hw5); have X5 := Aside0.mk (blk_below X4.out hw5); have A5 := Aside0.mk (blk_below A4.out hw5); have R5 := Aside0.mk (R4.out.below hw5); have d5 := Aside0.mk ((hw5.cell lo.out).trans d4.out))
      | (go_at_call 53; refine (less_c r _ R5.out).mono ?_; rintro e w6 ⟨rfl, rfl⟩))
  all_goals go_wp2
  all_goals first | go_end0 | ((try simp only [Exit.inBlock, Exit.then]); refine bodyPost_ret (results_none rfl _ _ _) rfl ?_)
  all_goals exact ⟨rfl, ((R5.out.set 2 (.bool true)).set 3 (.int .i64 4)).set 4 (.int .i64 0), below3 (HB5.out.mono (Nat.le_of_lt LR.out)) (Nat.le_refl _) _ _ _⟩
end Go.Proofs.YtpkpmdmmnhmnlaaDoor.PT
