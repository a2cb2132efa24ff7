/- mends(): a closed run of hold.Better, by hand. No conditions. -/
import Derived.Test.YtpkpmdmmnhmnlaaDoorPTq10
import Derived.Test.YtpkpmdmmnhmnlaaDoorPTx49
set_option linter.unusedVariables false
set_option linter.unusedSimpArgs false
namespace Go.Proofs.YtpkpmdmmnhmnlaaDoor.PT
open Go.RowKit Go.Proofs.YtpkpmdmmnhmnlaaDoorW.PrintWords Go.Proofs.YtpkpmdmmnhmnlaaDoorW.PrintLast Go.Proofs.YtpkpmdmmnhmnlaaDoorW.PrintMore

abbrev endH (v : Int) : Obj := .cells #[.int .i64 0, .int .i64 0, .bool false, .int .i64 0, .int .i64 0, .bool true, .int .i64 v, .int .i64 0] 38
theorem endh6 {w : World} {g : Nat} {v : Int} (h : w.heap[g]? = some (endH v)) : w.cell? ⟨g, 2, none⟩ = some (.bool false) ∧ w.cell? ⟨g, 3, none⟩ = some (.int .i64 0) ∧ w.cell? ⟨g, 4, none⟩ = some (.int .i64 0) ∧ w.cell? ⟨g, 5, none⟩ = some (.bool true) ∧ w.cell? ⟨g, 6, none⟩ = some (.int .i64 v) ∧ w.cell? ⟨g, 7, none⟩ = some (.int .i64 0) :=
  ⟨(blk_cell h 2).trans rfl, (blk_cell h 3).trans rfl, (blk_cell h 4).trans rfl, (blk_cell h 5).trans rfl, (blk_cell h 6).trans rfl, (blk_cell h 7).trans rfl⟩
theorem endh12 {w : World} {a b : Nat} {u v : Int} (h : w.heap[a]? = some (endH u)) (k : w.heap[b]? = some (endH v)) :
    w.cell? ⟨a, 2, none⟩ = some (.bool false) ∧ w.cell? ⟨a, 3, none⟩ = some (.int .i64 0) ∧ w.cell? ⟨a, 4, none⟩ = some (.int .i64 0) ∧ w.cell? ⟨a, 5, none⟩ = some (.bool true) ∧ w.cell? ⟨a, 6, none⟩ = some (.int .i64 u) ∧ w.cell? ⟨a, 7, none⟩ = some (.int .i64 0) ∧ w.cell? ⟨b, 2, none⟩ = some (.bool false) ∧ w.cell? ⟨b, 3, none⟩ = some (.int .i64 0) ∧ w.cell? ⟨b, 4, none⟩ = some (.int .i64 0) ∧ w.cell? ⟨b, 5, none⟩ = some (.bool true) ∧ w.cell? ⟨b, 6, none⟩ = some (.int .i64 v) ∧ w.cell? ⟨b, 7, none⟩ = some (.int .i64 0) :=
  ⟨(blk_cell h 2).trans rfl, (blk_cell h 3).trans rfl, (blk_cell h 4).trans rfl, (blk_cell h 5).trans rfl, (blk_cell h 6).trans rfl, (blk_cell h 7).trans rfl, (blk_cell k 2).trans rfl, (blk_cell k 3).trans rfl, (blk_cell k 4).trans rfl, (blk_cell k 5).trans rfl, (blk_cell k 6).trans rfl, (blk_cell k 7).trans rfl⟩
set_option maxHeartbeats 4000000 in
set_option maxRecDepth 100000 in
theorem worse_c (a b : Nat) (w : World) (ha : w.heap[a]? = some (endH 1)) (hb : w.heap[b]? = some (endH (-3))) :
    Calls Tryd.prog 9 #[.slice (some ⟨a, 0, none⟩) 1 1, .slice (some ⟨b, 0, none⟩) 1 1, .int .i64 0] w fun e w' => e = .returned (.bool false) ∧ Below w.heap.size w w' := by
  have HB := Aside0.mk (below_drew1 (Below.refl w.heap.size w))
  have HA := Aside0.mk (blk_drew ha)
  have HC := Aside0.mk (blk_drew hb)
  clear ha hb
  go_enter Tryd.func9, Tryd.ntmps9
  go_wp2_with fail
  go_region_held3 (fun w' => w'.cell? ⟨a, 6, none⟩ = some (.int .i64 1) ∧ w'.cell? ⟨b, 6, none⟩ = some (.int .i64 (-3)))
    (first | exact ⟨(blk_cell HA.out 6).trans rfl, (blk_cell HC.out 6).trans rfl⟩)
    (first | fail)
  all_goals go_wp2
  all_goals go_ret
  all_goals exact ⟨rfl, HB.out⟩
set_option maxHeartbeats 20000000 in
set_option maxRecDepth 100000 in
theorem better_c (a b : Nat) (w : World) (ha : w.heap[a]? = some (endH (-3))) (hb : w.heap[b]? = some (endH 1)) :
    Calls Tryd.prog 9 #[.slice (some ⟨a, 0, none⟩) 1 1, .slice (some ⟨b, 0, none⟩) 1 1, .int .i64 0] w fun e w' => e = .returned (.bool true) ∧ Below w.heap.size w w' := by
  have HB := Aside0.mk (below_drew1 (Below.refl w.heap.size w))
  have HA := Aside0.mk (blk_drew ha)
  have HC := Aside0.mk (blk_drew hb)
  clear ha hb
  go_enter Tryd.func9, Tryd.ntmps9
  go_wp2_with fail
  go_region_held3 (fun w' => w'.cell? ⟨a, 6, none⟩ = some (.int .i64 (-3)) ∧ w'.cell? ⟨b, 6, none⟩ = some (.int .i64 1))
    (first | exact ⟨(blk_cell HA.out 6).trans rfl, (blk_cell HC.out 6).trans rfl⟩)
    (first | fail)
  go_wp2_with fail
  refine wp_loop_rounds 2 ?_
  rw [rounds_succ]
  go_wp2_with fail
  replace HB := Aside0.mk (below_drew1 HB.out)
  replace HA := Aside0.mk (blk_drew HA.out)
  replace HC := Aside0.mk (blk_drew HC.out)
  refine wp_region_held_drew (S := (fun w' : World => w'.cell? ⟨a, 2, none⟩ = some (.bool false) ∧ w'.cell? ⟨a, 3, none⟩ = some (.int .i64 0) ∧ w'.cell? ⟨a, 4, none⟩ = some (.int .i64 0) ∧ w'.cell? ⟨a, 5, none⟩ = some (.bool true) ∧ w'.cell? ⟨a, 6, none⟩ = some (.int .i64 (-3)) ∧ w'.cell? ⟨a, 7, none⟩ = some (.int .i64 0) ∧ w'.cell? ⟨b, 2, none⟩ = some (.bool false) ∧ w'.cell? ⟨b, 3, none⟩ = some (.int .i64 0) ∧ w'.cell? ⟨b, 4, none⟩ = some (.int .i64 0) ∧ w'.cell? ⟨b, 5, none⟩ = some (.bool true) ∧ w'.cell? ⟨b, 6, none⟩ = some (.int .i64 1) ∧ w'.cell? ⟨b, 7, none⟩ = some (.int .i64 0))) (by kernel_rfl) (endh12 HA.out HC.out) (fun hHeld => ?_)
  refine wpAnyH_take (i := 0) (oi := ⟨some 43, .move (.tmp 0), 39, "hold.go:86", #[], none⟩) (v := ?_) rfl (by kernel_rfl) (by kernel_rfl) (by kernel_rfl) (fun _ _ _ h => h) (Or.inl ⟨by rfl, ?_⟩) (by assumption) ?_
  rotate_left
  focus
    intro w' hSw
    (try dsimp only at hSw)
    go_simp
    try with_reducible rfl
  try simp only [Act.put, List.setIfInBounds_toArray, List.set_cons_zero, List.set_cons_succ]
  refine wpAnyH_take (i := 1) (oi := ⟨some 44, .move (.tmp 7), 3, "hold.go:86", #[], none⟩) (v := ?_) rfl (by kernel_rfl) (by kernel_rfl) (by kernel_rfl) (fun _ _ _ h => h) (Or.inl ⟨by rfl, ?_⟩) (by assumption) ?_
  rotate_left
  focus
    intro w' hSw
    (try dsimp only at hSw)
    go_simp
    try with_reducible rfl
  try simp only [Act.put, List.setIfInBounds_toArray, List.set_cons_zero, List.set_cons_succ]
  refine wpAnyH_take (i := 2) (oi := ⟨some 45, .indexAddr 39 (.tmp 43) (.tmp 44), 0, "hold.go:86", #[⟨0, .data⟩, ⟨1, .data⟩], none⟩) (v := ?_) rfl (by kernel_rfl) (by kernel_rfl) (by kernel_rfl) (fun _ _ _ h => h) (Or.inl ⟨by rfl, ?_⟩) (by assumption) ?_
  rotate_left
  focus
    intro w' hSw
    (try dsimp only at hSw)
    go_simp
    try with_reducible rfl
  try simp only [Act.put, List.setIfInBounds_toArray, List.set_cons_zero, List.set_cons_succ]
  refine wpAnyH_take (i := 3) (oi := ⟨some 46, .fieldAddr 38 (.tmp 45) 2, 0, "hold.go:86", #[⟨2, .data⟩], none⟩) (v := ?_) rfl (by kernel_rfl) (by kernel_rfl) (by kernel_rfl) (fun _ _ _ h => h) (Or.inl ⟨by rfl, ?_⟩) (by assumption) ?_
  rotate_left
  focus
    intro w' hSw
    (try dsimp only at hSw)
    go_simp
    try with_reducible rfl
  try simp only [Act.put, List.setIfInBounds_toArray, List.set_cons_zero, List.set_cons_succ]
  refine wpAnyH_take (i := 4) (oi := ⟨some 47, .load 36 (.tmp 46), 36, "hold.go:86", #[⟨3, .data⟩], none⟩) (v := ?_) rfl (by kernel_rfl) (by kernel_rfl) (by kernel_rfl) (fun _ _ _ h => h) (Or.inl ⟨by rfl, ?_⟩) (by assumption) ?_
  rotate_left
  focus
    intro w' hSw
    (try dsimp only at hSw)
    go_simp
    try with_reducible rfl
  try simp only [Act.put, List.setIfInBounds_toArray, List.set_cons_zero, List.set_cons_succ]
  refine wpAnyH_take (i := 5) (oi := ⟨some 48, .move (.tmp 1), 39, "hold.go:86", #[], none⟩) (v := ?_) rfl (by kernel_rfl) (by kernel_rfl) (by kernel_rfl) (fun _ _ _ h => h) (Or.inl ⟨by rfl, ?_⟩) (by assumption) ?_
  rotate_left
  focus
    intro w' hSw
    (try dsimp only at hSw)
    go_simp
    try with_reducible rfl
  try simp only [Act.put, List.setIfInBounds_toArray, List.set_cons_zero, List.set_cons_succ]
  refine wpAnyH_take (i := 6) (oi := ⟨some 49, .move (.tmp 7), 3, "hold.go:86", #[], none⟩) (v := ?_) rfl (by kernel_rfl) (by kernel_rfl) (by kernel_rfl) (fun _ _ _ h => h) (Or.inl ⟨by rfl, ?_⟩) (by assumption) ?_
  rotate_left
  focus
    intro w' hSw
    (try dsimp only at hSw)
    go_simp
    try with_reducible rfl
  try simp only [Act.put, List.setIfInBounds_toArray, List.set_cons_zero, List.set_cons_succ]
  refine wpAnyH_take (i := 7) (oi := ⟨some 50, .indexAddr 39 (.tmp 48) (.tmp 49), 0, "hold.go:86", #[⟨5, .data⟩, ⟨6, .data⟩], none⟩) (v := ?_) rfl (by kernel_rfl) (by kernel_rfl) (by kernel_rfl) (fun _ _ _ h => h) (Or.inl ⟨by rfl, ?_⟩) (by assumption) ?_
  rotate_left
  focus
    intro w' hSw
    (try dsimp only at hSw)
    go_simp
    try with_reducible rfl
  try simp only [Act.put, List.setIfInBounds_toArray, List.set_cons_zero, List.set_cons_succ]
  refine wpAnyH_take (i := 8) (oi := ⟨some 51, .fieldAddr 38 (.tmp 50) 2, 0, "hold.go:86", #[⟨7, .data⟩], none⟩) (v := ?_) rfl (by kernel_rfl) (by kernel_rfl) (by kernel_rfl) (fun _ _ _ h => h) (Or.inl ⟨by rfl, ?_⟩) (by assumption) ?_
  rotate_left
  focus
    intro w' hSw
    (try dsimp only at hSw)
    go_simp
    try with_reducible rfl
  try simp only [Act.put, List.setIfInBounds_toArray, List.set_cons_zero, List.set_cons_succ]
  refine wpAnyH_take (i := 9) (oi := ⟨some 52, .load 36 (.tmp 51), 36, "hold.go:86", #[⟨8, .data⟩], none⟩) (v := ?_) rfl (by kernel_rfl) (by kernel_rfl) (by kernel_rfl) (fun _ _ _ h => h) (Or.inl ⟨by rfl, ?_⟩) (by assumption) ?_
  rotate_left
  focus
    intro w' hSw
    (try dsimp only at hSw)
    go_simp
    try with_reducible rfl
  try simp only [Act.put, List.setIfInBounds_toArray, List.set_cons_zero, List.set_cons_succ]
  refine wpAnyH_ready (rs := [10]) (by kernel_rfl) (by simp) ?_
  refine AllReadyH.cons (o := ⟨some 53, .call { callee := .value (.func 26), args := #[.tmp 47, .tmp 52], argTypes := #[36, 36] }, 4, "hold.go:86", #[⟨4, .data⟩, ⟨9, .data⟩], none⟩) rfl (fun K hK => ?_) AllReadyH.nil
  go_simp
  refine (hold_bad.calls false 0 0 false 0 0 false _ rfl).mono ?_
  rintro e w1 ⟨rfl, hw⟩
  have HB1 := Aside0.mk (below_step HB.out hw)
  have HA1 := Aside0.mk (blk_below HA.out hw)
  have HC1 := Aside0.mk (blk_below HC.out hw)
  clear hw
  go_wp2_with fail
  refine hK.out _ _ (endh12 HA1.out HC1.out) (fun hHeld => ?_)
  clear hK K
  try simp only [Act.put, List.setIfInBounds_toArray, List.set_cons_zero, List.set_cons_succ]
  refine wpAnyH_take (i := 11) (oi := ⟨some 54, .move (.tmp 53), 4, "hold.go:86", #[⟨10, .data⟩, ⟨10, .chain⟩], none⟩) (v := ?_) rfl (by kernel_rfl) (by kernel_rfl) (by kernel_rfl) (fun _ _ _ h => h) (Or.inl ⟨by rfl, ?_⟩) (by assumption) ?_
  rotate_left
  focus
    intro w' hSw
    (try dsimp only at hSw)
    go_simp
    try with_reducible rfl
  try simp only [Act.put, List.setIfInBounds_toArray, List.set_cons_zero, List.set_cons_succ]
  refine wpAnyH_take (i := 12) (oi := ⟨some 55, .move (.tmp 0), 39, "hold.go:86", #[⟨11, .guard⟩], some (11, false)⟩) (v := ?_) rfl (by kernel_rfl) (by kernel_rfl) (by kernel_rfl) (fun _ _ _ h => h) (Or.inl ⟨by rfl, ?_⟩) (by assumption) ?_
  rotate_left
  focus
    intro w' hSw
    (try dsimp only at hSw)
    go_simp
    try with_reducible rfl
  try simp only [Act.put, List.setIfInBounds_toArray, List.set_cons_zero, List.set_cons_succ]
  refine wpAnyH_take (i := 13) (oi := ⟨some 56, .move (.tmp 7), 3, "hold.go:86", #[⟨11, .guard⟩], some (11, false)⟩) (v := ?_) rfl (by kernel_rfl) (by kernel_rfl) (by kernel_rfl) (fun _ _ _ h => h) (Or.inl ⟨by rfl, ?_⟩) (by assumption) ?_
  rotate_left
  focus
    intro w' hSw
    (try dsimp only at hSw)
    go_simp
    try with_reducible rfl
  try simp only [Act.put, List.setIfInBounds_toArray, List.set_cons_zero, List.set_cons_succ]
  refine wpAnyH_take (i := 14) (oi := ⟨some 57, .indexAddr 39 (.tmp 55) (.tmp 56), 0, "hold.go:86", #[⟨12, .data⟩, ⟨13, .data⟩, ⟨11, .guard⟩], some (11, false)⟩) (v := ?_) rfl (by kernel_rfl) (by kernel_rfl) (by kernel_rfl) (fun _ _ _ h => h) (Or.inl ⟨by rfl, ?_⟩) (by assumption) ?_
  rotate_left
  focus
    intro w' hSw
    (try dsimp only at hSw)
    go_simp
    try with_reducible rfl
  try simp only [Act.put, List.setIfInBounds_toArray, List.set_cons_zero, List.set_cons_succ]
  refine wpAnyH_take (i := 15) (oi := ⟨some 58, .fieldAddr 38 (.tmp 57) 3, 0, "hold.go:86", #[⟨14, .data⟩, ⟨11, .guard⟩], some (11, false)⟩) (v := ?_) rfl (by kernel_rfl) (by kernel_rfl) (by kernel_rfl) (fun _ _ _ h => h) (Or.inl ⟨by rfl, ?_⟩) (by assumption) ?_
  rotate_left
  focus
    intro w' hSw
    (try dsimp only at hSw)
    go_simp
    try with_reducible rfl
  try simp only [Act.put, List.setIfInBounds_toArray, List.set_cons_zero, List.set_cons_succ]
  refine wpAnyH_take (i := 16) (oi := ⟨some 59, .load 36 (.tmp 58), 36, "hold.go:86", #[⟨15, .data⟩, ⟨11, .guard⟩], some (11, false)⟩) (v := ?_) rfl (by kernel_rfl) (by kernel_rfl) (by kernel_rfl) (fun _ _ _ h => h) (Or.inl ⟨by rfl, ?_⟩) (by assumption) ?_
  rotate_left
  focus
    intro w' hSw
    (try dsimp only at hSw)
    go_simp
    try with_reducible rfl
  try simp only [Act.put, List.setIfInBounds_toArray, List.set_cons_zero, List.set_cons_succ]
  refine wpAnyH_take (i := 17) (oi := ⟨some 60, .move (.tmp 1), 39, "hold.go:86", #[⟨11, .guard⟩], some (11, false)⟩) (v := ?_) rfl (by kernel_rfl) (by kernel_rfl) (by kernel_rfl) (fun _ _ _ h => h) (Or.inl ⟨by rfl, ?_⟩) (by assumption) ?_
  rotate_left
  focus
    intro w' hSw
    (try dsimp only at hSw)
    go_simp
    try with_reducible rfl
  try simp only [Act.put, List.setIfInBounds_toArray, List.set_cons_zero, List.set_cons_succ]
  refine wpAnyH_take (i := 18) (oi := ⟨some 61, .move (.tmp 7), 3, "hold.go:86", #[⟨11, .guard⟩], some (11, false)⟩) (v := ?_) rfl (by kernel_rfl) (by kernel_rfl) (by kernel_rfl) (fun _ _ _ h => h) (Or.inl ⟨by rfl, ?_⟩) (by assumption) ?_
  rotate_left
  focus
    intro w' hSw
    (try dsimp only at hSw)
    go_simp
    try with_reducible rfl
  try simp only [Act.put, List.setIfInBounds_toArray, List.set_cons_zero, List.set_cons_succ]
  refine wpAnyH_take (i := 19) (oi := ⟨some 62, .indexAddr 39 (.tmp 60) (.tmp 61), 0, "hold.go:86", #[⟨17, .data⟩, ⟨18, .data⟩, ⟨11, .guard⟩], some (11, false)⟩) (v := ?_) rfl (by kernel_rfl) (by kernel_rfl) (by kernel_rfl) (fun _ _ _ h => h) (Or.inl ⟨by rfl, ?_⟩) (by assumption) ?_
  rotate_left
  focus
    intro w' hSw
    (try dsimp only at hSw)
    go_simp
    try with_reducible rfl
  try simp only [Act.put, List.setIfInBounds_toArray, List.set_cons_zero, List.set_cons_succ]
  refine wpAnyH_take (i := 20) (oi := ⟨some 63, .fieldAddr 38 (.tmp 62) 3, 0, "hold.go:86", #[⟨19, .data⟩, ⟨11, .guard⟩], some (11, false)⟩) (v := ?_) rfl (by kernel_rfl) (by kernel_rfl) (by kernel_rfl) (fun _ _ _ h => h) (Or.inl ⟨by rfl, ?_⟩) (by assumption) ?_
  rotate_left
  focus
    intro w' hSw
    (try dsimp only at hSw)
    go_simp
    try with_reducible rfl
  try simp only [Act.put, List.setIfInBounds_toArray, List.set_cons_zero, List.set_cons_succ]
  refine wpAnyH_take (i := 21) (oi := ⟨some 64, .load 36 (.tmp 63), 36, "hold.go:86", #[⟨20, .data⟩, ⟨11, .guard⟩], some (11, false)⟩) (v := ?_) rfl (by kernel_rfl) (by kernel_rfl) (by kernel_rfl) (fun _ _ _ h => h) (Or.inl ⟨by rfl, ?_⟩) (by assumption) ?_
  rotate_left
  focus
    intro w' hSw
    (try dsimp only at hSw)
    go_simp
    try with_reducible rfl
  try simp only [Act.put, List.setIfInBounds_toArray, List.set_cons_zero, List.set_cons_succ]
  refine wpAnyH_ready (rs := [22]) (by kernel_rfl) (by simp) ?_
  refine AllReadyH.cons (o := ⟨some 65, .call { callee := .value (.func 26), args := #[.tmp 59, .tmp 64], argTypes := #[36, 36] }, 4, "hold.go:86", #[⟨16, .data⟩, ⟨21, .data⟩, ⟨11, .chain⟩, ⟨11, .guard⟩], some (11, false)⟩) rfl (fun K hK => ?_) AllReadyH.nil
  go_simp
  refine (hold_bad.calls true (-3) 0 true 1 0 false _ rfl).mono ?_
  rintro e w2 ⟨rfl, hw⟩
  have HB2 := Aside0.mk (below_step HB1.out hw)
  have HA2 := Aside0.mk (blk_below HA1.out hw)
  have HC2 := Aside0.mk (blk_below HC1.out hw)
  clear hw
  go_wp2_with fail
  refine hK.out _ _ (endh12 HA2.out HC2.out) (fun hHeld => ?_)
  clear hK K
  try simp only [Act.put, List.setIfInBounds_toArray, List.set_cons_zero, List.set_cons_succ]
  refine wpAnyH_take (i := 23) (oi := ⟨some 66, .pick (.tmp 54) (.const (.bool true)) (.tmp 65), 4, "hold.go:86", #[⟨11, .data⟩, ⟨22, .data⟩], none⟩) (v := ?_) rfl (by kernel_rfl) (by kernel_rfl) (by kernel_rfl) (fun _ _ _ h => h) (Or.inl ⟨by rfl, ?_⟩) (by assumption) ?_
  rotate_left
  focus
    intro w' hSw
    (try dsimp only at hSw)
    go_simp
    try with_reducible rfl
  try simp only [Act.put, List.setIfInBounds_toArray, List.set_cons_zero, List.set_cons_succ]
  refine wpAnyH_done (by kernel_rfl) ?_ _
  clear hHeld
  go_wp2_with fail
  rw [rounds_succ]
  go_wp2
  go_ret
  exact ⟨rfl, HB2.out⟩
set_option maxHeartbeats 4000000 in
set_option maxRecDepth 100000 in
theorem mends_c (w : World) : Calls Tryd.prog 4 #[] w fun e w' => e = .returned (.bool true) ∧ Below w.heap.size w w' := by
  have HB := Aside0.mk (below_alloc (below_alloc (Below.refl w.heap.size w) (endH (-3))) (endH 1))
  have HA := Aside0.mk (blk_alloc (blk_new w (endH (-3))) (endH 1))
  have HC := Aside0.mk (Hnd.blk_new1 w (endH (-3)) (endH 1))
  go_enter Tryd.func4, Tryd.ntmps4
  go_wp2_with fail
  refine (timed_c _).mono ?_
  rintro e w1 ⟨rfl, hw⟩
  replace HB := Aside0.mk (below_step HB.out hw)
  replace HA := Aside0.mk (blk_below HA.out hw)
  replace HC := Aside0.mk (blk_below HC.out hw)
  clear hw
  go_wp2_with fail
  refine (better_c _ _ _ HA.out HC.out).mono ?_
  rintro e w2 ⟨rfl, hw⟩
  replace HB := Aside0.mk (below_step HB.out hw)
  replace HA := Aside0.mk (blk_below HA.out hw)
  replace HC := Aside0.mk (blk_below HC.out hw)
  clear hw
  go_wp2_with fail
  refine (worse_c _ _ _ HC.out HA.out).mono ?_
  rintro e w3 ⟨rfl, hw⟩
  replace HB := Aside0.mk (below_step HB.out hw)
  clear hw
  go_wp2
  go_ret
  exact ⟨rfl, HB.out⟩
end Go.Proofs.YtpkpmdmmnhmnlaaDoor.PT
