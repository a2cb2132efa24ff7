/- The report of a wire. -/
/- timed() is true. -/
import Derived.Test.YtpkpmdmmnhmnlaaDoorPTq8
set_option linter.unusedSectionVars false
namespace Go.Proofs.YtpkpmdmmnhmnlaaDoor.PT
open Go.RowKit Go.Proofs.YtpkpmdmmnhmnlaaDoorW.PrintWords Go.Proofs.YtpkpmdmmnhmnlaaDoorW.PrintLast Go.Proofs.YtpkpmdmmnhmnlaaDoorW.PrintMore
set_option linter.unusedVariables false
set_option linter.unusedSimpArgs false

set_option maxHeartbeats 2000000 in
set_option maxRecDepth 100000 in
theorem starts_c (Ai Ao As : Addr) (w : World) :
    Calls Tryd.prog 34 #[.agg #[.slice (some Ai) 1 1, .slice (some Ao) 1 1, .slice none 0 0, .slice none 0 0, .slice (some As) 1 1]] w fun e w' => e = .returned (.int .i64 1) ∧ Below w.heap.size w w' := by
  have hu37 := Tryd.underlying27
  go_enter Tryd.func34, Tryd.ntmps34
  go_wp2
  go_ret
  exact ⟨rfl, by repeat (first | exact Below.refl _ _ | apply below_alloc | apply pw_below_drewN | apply below_drew1)⟩
set_option maxHeartbeats 8000000 in
set_option maxRecDepth 100000 in
theorem report_c (Ai Ao As : Addr) (gd : Nat) (w : World) (h : Wire w Ai Ao As) (hd : Win w gd) :
    Calls Tryd.prog 25 #[.agg #[.slice (some Ai) 1 1, .slice (some Ao) 1 1, .slice none 0 0, .slice none 0 0, .slice (some As) 1 1, .slice none 0 0, .slice none 0 0, .slice none 0 0, .slice (some ⟨gd, 0, none⟩) 1 1, .slice none 0 0, .slice none 0 0, .int .i64 9, .slice none 0 0, .slice none 0 0, .slice none 0 0]] w fun e w' => (∃ g cap, e = .returned (.tuple #[.slice (some ⟨g, 0, none⟩) 1 cap, .int .i64 0]) ∧ 1 ≤ cap ∧ Row8 w' g [.int .i64 (-1), .int .i64 0, .bool true, .int .i64 4, .int .i64 0, .bool false, .int .i64 0, .int .i64 0]) ∧ Below w.heap.size w w' := by
  have hu51 := Tryd.underlying74
  have hu37 := Tryd.underlying27
  have hu27 := Tryd.underlying38
  have LO := Aside0.mk (World.block_lt_of_cell? w _ h.b)
  have HB := Aside0.mk (below_alloc (Below.refl w.heap.size w) (jobC Ai Ao As gd))
  have BX := Aside0.mk (blk_new w (jobC Ai Ao As gd))
  have HW := Aside0.mk (h.below HB.out)
  have HD := Aside0.mk (hd.below HB.out)
  clear h hd
  go_enter Tryd.func25, Tryd.ntmps25
  go_wp2_with fail
  refine (jobcheck_c Ai Ao As gd _ HW.out HD.out).mono ?_
  rintro e w1 ⟨rfl, hw⟩
  have HB1 := Aside0.mk (below_step HB.out hw)
  have BX1 := Aside0.mk (blk_below BX.out hw)
  have HW1 := Aside0.mk (HW.out.below hw)
  have HD1 := Aside0.mk (HD.out.below hw)
  clear hw HB BX HW HD
  obtain ⟨b0, b1, b2, b3, b4, b5, b6, b7, b8, b9, b10, b11, b12, b13, b14⟩ := jcells BX1.out
  go_wp2_with fail
  refine (ends9_c Ai Ao As _).mono ?_
  rintro e w2 ⟨⟨g, cap, rfl, hg, hcap, hR⟩, hw⟩
  have HB2 := Aside0.mk (below_step HB1.out hw)
  have BX2 := Aside0.mk (blk_below BX1.out hw)
  have HW2 := Aside0.mk (HW1.out.below hw)
  have HD2 := Aside0.mk (HD1.out.below hw)
  have R2 := Aside0.mk hR
  have LB := Aside0.mk (Nat.lt_of_lt_of_le LO.out (Nat.le_of_lt (Nat.lt_trans (blk_lt BX1.out) hg)))
  have LG := Aside0.mk (Nat.lt_trans (blk_lt BX1.out) hg)
  have HC := Aside0.mk hcap
  clear hw HB1 BX1 HW1 HD1 hR hg b0 b1 b2 b3 b4 b5 b6 b7 b8 b9 b10 b11 b12 b13 b14
  obtain ⟨b0, b1, b2, b3, b4, b5, b6, b7, b8, b9, b10, b11, b12, b13, b14⟩ := jcells BX2.out
  go_wp2_with fail
  refine (starts_c Ai Ao As _).mono ?_
  rintro e w3 ⟨rfl, hw⟩
  have HB3 := Aside0.mk (below_step HB2.out hw)
  have BX3 := Aside0.mk (blk_below BX2.out hw)
  have HW3 := Aside0.mk (HW2.out.below hw)
  have HD3 := Aside0.mk (HD2.out.below hw)
  have R3 := Aside0.mk (R2.out.below hw)
  clear hw HB2 BX2 HW2 HD2 R2 b0 b1 b2 b3 b4 b5 b6 b7 b8 b9 b10 b11 b12 b13 b14
  obtain ⟨b0, b1, b2, b3, b4, b5, b6, b7, b8, b9, b10, b11, b12, b13, b14⟩ := jcells BX3.out
  go_wp2_with fail
  refine wp_loop_rounds 2 ?_
  rw [rounds_succ]
  go_wp2_with fail
  have HBs := Aside0.mk (below_alloc HB3.out (.cells #[.int .i64 0] 3))
  have BXs := Aside0.mk (blk_alloc BX3.out (.cells #[.int .i64 0] 3))
  have hbs := below_alloc (Below.refl w3.heap.size w3) (.cells #[.int .i64 0] 3)
  have HWs := Aside0.mk (HW3.out.below hbs)
  have HDs := Aside0.mk (HD3.out.below hbs)
  have Rs := Aside0.mk (R3.out.below hbs)
  have s0 : (w3.alloc (.cells #[.int .i64 0] 3)).cell? ⟨w3.heap.size, 0, none⟩ = some (.int .i64 0) := (blk_cell (blk_new w3 (.cells #[.int .i64 0] 3)) 0).trans rfl
  clear hbs HB3 BX3 HW3 HD3 R3 b0 b1 b2 b3 b4 b5 b6 b7 b8 b9 b10 b11 b12 b13 b14
  generalize hgs : w3.heap.size = gs at *
  generalize w3.alloc (.cells #[.int .i64 0] 3) = w4 at *
  refine (from_c Ai Ao As gd gs w4 HWs.out s0).mono ?_
  rintro e w5 ⟨⟨gn, rfl, n6, n7, n8⟩, hw⟩
  have HB5 := Aside0.mk (below_step HBs.out hw)
  have BX5 := Aside0.mk (blk_below BXs.out hw)
  have HW5 := Aside0.mk (HWs.out.below hw)
  have HD5 := Aside0.mk (HDs.out.below hw)
  have R5 := Aside0.mk (Rs.out.below hw)
  have AV5 := Aside0.mk (Arv.mk n6 n7 n8)
  clear hw HBs BXs HWs HDs Rs s0 hgs n6 n7 n8
  go_wp2_with fail
  refine wp_loop_rounds 2 ?_
  rw [rounds_succ]
  go_wp2_with fail
  have HBd := Aside0.mk (below_drew1 HB5.out)
  have XD := Aside0.mk (blk_drew BX5.out)
  have RD := Aside0.mk R5.out.drew
  have hbs := below_drew1 (Below.refl w5.heap.size w5)
  have WD := Aside0.mk (HW5.out.below hbs)
  have DD := Aside0.mk (HD5.out.below hbs)
  have AD := Aside0.mk (AV5.out.below (Nat.le_refl _) hbs)
  clear hbs HB5 BX5 HW5 HD5 R5 AV5
  obtain ⟨r0, r1, r2, r3, r4, r5, r6, r7⟩ := RD.out.all
  refine wp_region_held_drew (S := (fun w' : World => w'.cell? ⟨w.heap.size, 0, none⟩ = some (.slice (some Ai) 1 1) ∧ w'.cell? ⟨w.heap.size, 1, none⟩ = some (.slice (some Ao) 1 1) ∧ w'.cell? ⟨w.heap.size, 2, none⟩ = some (.slice none 0 0) ∧ w'.cell? ⟨w.heap.size, 3, none⟩ = some (.slice none 0 0) ∧ w'.cell? ⟨w.heap.size, 4, none⟩ = some (.slice (some As) 1 1) ∧ w'.cell? ⟨w.heap.size, 5, none⟩ = some (.slice none 0 0) ∧ w'.cell? ⟨w.heap.size, 6, none⟩ = some (.slice none 0 0) ∧ w'.cell? ⟨w.heap.size, 7, none⟩ = some (.slice none 0 0) ∧ w'.cell? ⟨w.heap.size, 8, none⟩ = some (.slice (some ⟨gd, 0, none⟩) 1 1) ∧ w'.cell? ⟨w.heap.size, 9, none⟩ = some (.slice none 0 0) ∧ w'.cell? ⟨w.heap.size, 10, none⟩ = some (.slice none 0 0) ∧ w'.cell? ⟨w.heap.size, 11, none⟩ = some (.int .i64 9) ∧ w'.cell? ⟨w.heap.size, 12, none⟩ = some (.slice none 0 0) ∧ w'.cell? ⟨w.heap.size, 13, none⟩ = some (.slice none 0 0) ∧ w'.cell? ⟨w.heap.size, 14, none⟩ = some (.slice none 0 0))) (by kernel_rfl) (jcells XD.out) (fun hHeld => ?_)
  refine wpAnyH_take (i := 0) (oi := _) (v := ?_) rfl (by kernel_rfl) (by kernel_rfl) (by kernel_rfl) (fun _ _ _ h => h) (Or.inl ⟨by rfl, ?_⟩) (by assumption) ?_
  rotate_left
  focus
    intro w' hSw
    (try dsimp only at hSw)
    go_simp
    try with_reducible rfl
  try simp only [Act.put, List.setIfInBounds_toArray, List.set_cons_zero, List.set_cons_succ]
  refine wpAnyH_take (i := 1) (oi := _) (v := ?_) rfl (by kernel_rfl) (by kernel_rfl) (by kernel_rfl) (fun _ _ _ h => h) (Or.inl ⟨by rfl, ?_⟩) (by assumption) ?_
  rotate_left
  focus
    intro w' hSw
    (try dsimp only at hSw)
    go_simp
    try with_reducible rfl
  try simp only [Act.put, List.setIfInBounds_toArray, List.set_cons_zero, List.set_cons_succ]
  refine wpAnyH_take (i := 2) (oi := _) (v := ?_) rfl (by kernel_rfl) (by kernel_rfl) (by kernel_rfl) (fun _ _ _ h => h) (Or.inl ⟨by rfl, ?_⟩) (by assumption) ?_
  rotate_left
  focus
    intro w' hSw
    (try dsimp only at hSw)
    go_simp
    try with_reducible rfl
  try simp only [Act.put, List.setIfInBounds_toArray, List.set_cons_zero, List.set_cons_succ]
  refine wpAnyH_take (i := 3) (oi := _) (v := ?_) rfl (by kernel_rfl) (by kernel_rfl) (by kernel_rfl) (fun _ _ _ h => h) (Or.inl ⟨by rfl, ?_⟩) (by assumption) ?_
  rotate_left
  focus
    intro w' hSw
    (try dsimp only at hSw)
    go_simp
    try with_reducible rfl
  try simp only [Act.put, List.setIfInBounds_toArray, List.set_cons_zero, List.set_cons_succ]
  refine wpAnyH_take (i := 4) (oi := _) (v := ?_) rfl (by kernel_rfl) (by kernel_rfl) (by kernel_rfl) (fun _ _ _ h => h) (Or.inl ⟨by rfl, ?_⟩) (by assumption) ?_
  rotate_left
  focus
    intro w' hSw
    (try dsimp only at hSw)
    go_simp
    try with_reducible rfl
  try simp only [Act.put, List.setIfInBounds_toArray, List.set_cons_zero, List.set_cons_succ]
  refine wpAnyH_take (i := 5) (oi := _) (v := ?_) rfl (by kernel_rfl) (by kernel_rfl) (by kernel_rfl) (fun _ _ _ h => h) (Or.inl ⟨by rfl, ?_⟩) (by assumption) ?_
  rotate_left
  focus
    intro w' hSw
    (try dsimp only at hSw)
    go_simp
    try with_reducible rfl
  try simp only [Act.put, List.setIfInBounds_toArray, List.set_cons_zero, List.set_cons_succ]
  refine wpAnyH_take (i := 6) (oi := _) (v := ?_) rfl (by kernel_rfl) (by kernel_rfl) (by kernel_rfl) (fun _ _ _ h => h) (Or.inl ⟨by rfl, ?_⟩) (by assumption) ?_
  rotate_left
  focus
    intro w' hSw
    (try dsimp only at hSw)
    go_simp
    try with_reducible rfl
  try simp only [Act.put, List.setIfInBounds_toArray, List.set_cons_zero, List.set_cons_succ]
  refine wpAnyH_take (i := 7) (oi := _) (v := ?_) rfl (by kernel_rfl) (by kernel_rfl) (by kernel_rfl) (fun _ _ _ h => h) (Or.inl ⟨by rfl, ?_⟩) (by assumption) ?_
  rotate_left
  focus
    intro w' hSw
    (try dsimp only at hSw)
    go_simp
    try with_reducible rfl
  try simp only [Act.put, List.setIfInBounds_toArray, List.set_cons_zero, List.set_cons_succ]
  refine wpAnyH_take (i := 9) (oi := _) (v := ?_) rfl (by kernel_rfl) (by kernel_rfl) (by kernel_rfl) (fun _ _ _ h => h) (Or.inl ⟨by rfl, ?_⟩) (by assumption) ?_
  rotate_left
  focus
    intro w' hSw
    (try dsimp only at hSw)
    go_simp
    try with_reducible rfl
  try simp only [Act.put, List.setIfInBounds_toArray, List.set_cons_zero, List.set_cons_succ]
  refine wpAnyH_take (i := 10) (oi := _) (v := ?_) rfl (by kernel_rfl) (by kernel_rfl) (by kernel_rfl) (fun _ _ _ h => h) (Or.inl ⟨by rfl, ?_⟩) (by assumption) ?_
  rotate_left
  focus
    intro w' hSw
    (try dsimp only at hSw)
    go_simp
    try with_reducible rfl
  try simp only [Act.put, List.setIfInBounds_toArray, List.set_cons_zero, List.set_cons_succ]
  refine wpAnyH_ready (rs := [8]) (by kernel_rfl) (by simp) ?_
  refine AllReadyH.cons rfl (fun K hK => ?_) AllReadyH.nil
  go_simp
  refine hK.out _ _ (jcells XD.out) (fun hHeld => ?_)
  clear hK K
  try simp only [Act.put, List.setIfInBounds_toArray, List.set_cons_zero, List.set_cons_succ]
  refine wpAnyH_ready (rs := [11]) (by kernel_rfl) (by simp) ?_
  refine AllReadyH.cons rfl (fun K hK => ?_) AllReadyH.nil
  go_simp
  refine (in_c Ai Ao As gd gn _ _ _ _ WD.out DD.out AD.out).mono ?_
  rintro e w6 ⟨rfl, hw⟩
  have HB6 := Aside0.mk (below_step HBd.out hw)
  have X6 := Aside0.mk (blk_below XD.out hw)
  have R6 := Aside0.mk (RD.out.below hw)
  have W6 := Aside0.mk (WD.out.below hw)
  clear r0 r1 r2 r3 r4 r5 r6 r7
  go_wp2_with fail
  refine hK.out _ _ (jcells X6.out) (fun hHeld => ?_)
  clear hK K
  try simp only [Act.put, List.setIfInBounds_toArray, List.set_cons_zero, List.set_cons_succ]
  refine wpAnyH_ready (rs := [12]) (by kernel_rfl) (by simp) ?_
  refine AllReadyH.cons rfl (fun K hK => ?_) AllReadyH.nil
  go_simp
  refine (slacks_c Ai Ao As gd g _ W6.out LB.out R6.out).mono ?_
  rintro e w7 ⟨rfl, hR7, hw7⟩
  have HB7 := Aside0.mk (HB6.out.trans (hw7.mono (Nat.le_of_lt LG.out)))
  have X7 := Aside0.mk ((hw7.block _ LG.out).trans X6.out)
  have R7 := Aside0.mk hR7
  go_wp2_with fail
  refine hK.out _ _ (jcells X7.out) (fun hHeld => ?_)
  clear hK K
  try simp only [Act.put, List.setIfInBounds_toArray, List.set_cons_zero, List.set_cons_succ]
  refine wpAnyH_done (by kernel_rfl) ?_ _
  clear XD RD WD DD AD HBd X6 R6 W6 HB6
  go_wp2_with fail
  rw [rounds_succ]
  go_wp2_with fail
  rw [rounds_succ]
  go_wp2
  go_ret2
  exact ⟨⟨g, cap, rfl, HC.out, R7.out⟩, HB7.out⟩
end Go.Proofs.YtpkpmdmmnhmnlaaDoor.PT
namespace Go.Proofs.YtpkpmdmmnhmnlaaDoor.PT
open Go.RowKit Go.Proofs.YtpkpmdmmnhmnlaaDoorW.PrintWords Go.Proofs.YtpkpmdmmnhmnlaaDoorW.PrintLast Go.Proofs.YtpkpmdmmnhmnlaaDoorW.PrintMore
set_option linter.unusedVariables false
set_option linter.unusedSimpArgs false

theorem C_one {w : World} {g : Nat} {s : ByteArray} (h : w.cell? ⟨g, 0, none⟩ = some (.string s)) : Kd.C Kd.string w (some ⟨g, 0, none⟩) 1 [s] := by
  refine ⟨rfl, by decide, fun _ => ⟨_, rfl, fun j p hj => ?_⟩⟩
  obtain ⟨rfl, rfl⟩ : j = 0 ∧ p = s := by
    match j with
    | 0 => exact ⟨rfl, by simpa using hj.symm⟩
    | j + 1 => simp at hj
  refine ⟨[.string p], rfl, rfl, fun i u hi => ?_⟩
  match i with
  | 0 =>
    obtain rfl : Value.string p = u := by simpa using hi
    simpa [Addr.add] using h
  | i + 1 => simp at hi
theorem new_cell {w w' : World} {g i T : Nat} {cs : Array Value} {v : Value} (hw : w' = w.alloc (.cells cs T)) (hg : g = w.heap.size) (hv : cs[i]? = some v) : w'.cell? ⟨g, i, none⟩ = some v := by
  subst hw hg
  exact (blk_cell (blk_new w (.cells cs T)) i).trans hv
theorem old_cell {w : World} {g i T : Nat} {cs : Array Value} {v : Value} (h : w.cell? ⟨g, i, none⟩ = some v) : (w.alloc (.cells cs T)).cell? ⟨g, i, none⟩ = some v :=
  ((below_alloc (Below.refl w.heap.size w) (.cells cs T)).cell (World.block_lt_of_cell? w _ h)).trans h
set_option maxHeartbeats 8000000 in
set_option maxRecDepth 100000 in
theorem timed_c (w : World) : Calls Tryd.prog 8 #[] w fun e w' => e = .returned (.bool true) ∧ Below w.heap.size w w' := by
  have hu51 := Tryd.underlying74
  have hu37 := Tryd.underlying27
  have hu39 := Tryd.underlying63
  have hu43 := Tryd.underlying67
  have hu48 := Tryd.underlying72
  have hu27 := Tryd.underlying38
  have hu25 := Tryd.underlying36
  go_enter Tryd.func8, Tryd.ntmps8
  go_wp2_with fail
  have q0 := new_cell (g := w.heap.size) (i := 0) (v := .string ⟨#[97]⟩) (rfl : _ = w.alloc (.cells #[.string ⟨#[97]⟩] 9)) rfl rfl
  have q1 := new_cell (g := w.heap.size + 1) (i := 0) (v := .string ⟨#[98]⟩) (rfl : _ = (w.alloc (.cells #[.string ⟨#[97]⟩] 9)).alloc (.cells #[.string ⟨#[98]⟩] 9)) (by simp) rfl
  have q2 := new_cell (g := w.heap.size + 1 + 1) (i := 0) (v := .int .i64 2) (rfl : _ = ((w.alloc (.cells #[.string ⟨#[97]⟩] 9)).alloc (.cells #[.string ⟨#[98]⟩] 9)).alloc (.cells #[.int .i64 2] 3)) (by simp) rfl
  have q3 := new_cell (g := w.heap.size + 1 + 1 + 1 + 1) (i := 0) (v := .int .i64 3) (rfl : _ = ((((w.alloc (.cells #[.string ⟨#[97]⟩] 9)).alloc (.cells #[.string ⟨#[98]⟩] 9)).alloc (.cells #[.int .i64 2] 3)).alloc (netC ⟨w.heap.size, 0, none⟩ ⟨w.heap.size + 1, 0, none⟩ ⟨w.heap.size + 1 + 1, 0, none⟩)).alloc (.cells #[.int .i64 3, .int .i64 4] 63)) (by simp) rfl
  have q4 := new_cell (g := w.heap.size + 1 + 1 + 1 + 1) (i := 1) (v := .int .i64 4) (rfl : _ = ((((w.alloc (.cells #[.string ⟨#[97]⟩] 9)).alloc (.cells #[.string ⟨#[98]⟩] 9)).alloc (.cells #[.int .i64 2] 3)).alloc (netC ⟨w.heap.size, 0, none⟩ ⟨w.heap.size + 1, 0, none⟩ ⟨w.heap.size + 1 + 1, 0, none⟩)).alloc (.cells #[.int .i64 3, .int .i64 4] 63)) (by simp) rfl
  have HWi : Wire (((((w.alloc (.cells #[.string ⟨#[97]⟩] 9)).alloc (.cells #[.string ⟨#[98]⟩] 9)).alloc (.cells #[.int .i64 2] 3)).alloc (netC ⟨w.heap.size, 0, none⟩ ⟨w.heap.size + 1, 0, none⟩ ⟨w.heap.size + 1 + 1, 0, none⟩)).alloc (.cells #[.int .i64 3, .int .i64 4] 63) |>.alloc (jobC ⟨w.heap.size, 0, none⟩ ⟨w.heap.size + 1, 0, none⟩ ⟨w.heap.size + 1 + 1, 0, none⟩ (w.heap.size + 1 + 1 + 1 + 1))) ⟨w.heap.size, 0, none⟩ ⟨w.heap.size + 1, 0, none⟩ ⟨w.heap.size + 1 + 1, 0, none⟩ := ⟨C_one (old_cell (old_cell (old_cell (old_cell (old_cell q0))))), C_one (old_cell (old_cell (old_cell (old_cell q1)))), old_cell (old_cell (old_cell q2))⟩
  have HDi := Win.mk (old_cell (cs := (jobL ⟨w.heap.size, 0, none⟩ ⟨w.heap.size + 1, 0, none⟩ ⟨w.heap.size + 1 + 1, 0, none⟩ (w.heap.size + 1 + 1 + 1 + 1))) (T := 74) q3) (old_cell q4)
  refine (report_c ⟨w.heap.size, 0, none⟩ ⟨w.heap.size + 1, 0, none⟩ ⟨w.heap.size + 1 + 1, 0, none⟩ (w.heap.size + 1 + 1 + 1 + 1) _ HWi HDi).mono ?_
  rintro e w1 ⟨⟨g, cap, rfl, hc, hR⟩, hw⟩
  obtain ⟨r0, r1, r2, r3, r4, r5, r6, r7⟩ := hR.all
  have HBf : Aside0 (Below w.heap.size w w1) := Aside0.mk (below_step (w := w) (below_alloc (below_alloc (below_alloc (below_alloc (below_alloc (below_alloc (Below.refl _ _) _) _) _) _) _) _) hw)
  clear q0 q1 q2 q3 q4 HWi HDi hw hR
  go_wp2
  go_ret
  exact ⟨rfl, HBf.out⟩
end Go.Proofs.YtpkpmdmmnhmnlaaDoor.PT
