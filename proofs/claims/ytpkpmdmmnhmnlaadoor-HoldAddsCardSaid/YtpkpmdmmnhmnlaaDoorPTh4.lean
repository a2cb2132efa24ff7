/- hold.Add puts the buffer in, by hand. Conditions: its arguments' rows are readable. -/
import Derived.Test.YtpkpmdmmnhmnlaaDoorPTh3
import Derived.Test.YtpkpmdmmnhmnlaaDoorPTx91
namespace Go.Proofs.YtpkpmdmmnhmnlaaDoor.PT
open Go.RowKit Go.Proofs.YtpkpmdmmnhmnlaaDoorW.PrintWords Go.Proofs.YtpkpmdmmnhmnlaaDoorW.PrintLast Go.Proofs.YtpkpmdmmnhmnlaaDoorW.PrintMore Go.Proofs.YtpkpmdmmnhmnlaaDoor.Aid
set_option linter.unusedVariables false
set_option linter.unusedSimpArgs false

set_option maxHeartbeats 8000000 in
set_option maxRecDepth 100000 in
theorem add_ok (A0 : Option Addr) (c0 : Nat) (i : List ByteArray) (A1 : Option Addr) (c1 : Nat) (o : List ByteArray) (A2 : Option Addr) (c2 : Nat) (f : List S44) (A3 : Option Addr) (c3 : Nat) (g : List S51) (A4 : Option Addr) (c4 : Nat) (s : List Int) (AL : Option Addr) (cL : Nat) (lb : List S48) (flop input cell : Int) (ce : Int) (k : Nat) (w : World) (hn : NetC w A0 c0 i A1 c1 o A2 c2 f A3 c3 g A4 c4 s) (hl : Kd.C k48 w AL lb.length lb) (hcL : lb.length ≤ cL) (hck : floor_CheckChip.f k i o f g s lb = some ce) (h0 : ce = 0) (h1 : EndB f flop input) (h2 : CelB lb cell) (h3 : g.length + f.length < 300) :
    Calls Tryd.prog 5 #[.agg #[.slice A0 i.length c0, .slice A1 o.length c1, .slice A2 f.length c2, .slice A3 g.length c3, .slice A4 s.length c4], .slice AL lb.length cL, .int .i64 flop, .int .i64 input, .int .i64 cell] w fun e w' => (∃ A2 c2 A3 c3, e = .returned (.tuple #[.agg #[.slice A0 i.length c0, .slice A1 o.length c1, .slice A2 (outF i f g flop input).length c2, .slice A3 (outG f g flop input cell).length c3, .slice A4 s.length c4], .int .i64 0]) ∧ NetC w' A0 c0 i A1 c1 o A2 c2 (outF i f g flop input) A3 c3 (outG f g flop input cell) A4 c4 s) ∧ Below w.heap.size w w' := by
  have hu27 := Tryd.underlying27
  have HB := Aside0.mk (below_alloc (below_alloc (Below.refl w.heap.size w) (.cells #[.slice A0 i.length c0, .slice A1 o.length c1, .slice A2 f.length c2, .slice A3 g.length c3, .slice A4 s.length c4] 27)) (.cells #[.slice none 0 0, .slice none 0 0, .slice none 0 0, .slice none 0 0, .slice none 0 0] 27))
  have X := Aside0.mk (blk_alloc (blk_new w (.cells #[.slice A0 i.length c0, .slice A1 o.length c1, .slice A2 f.length c2, .slice A3 g.length c3, .slice A4 s.length c4] 27)) (.cells #[.slice none 0 0, .slice none 0 0, .slice none 0 0, .slice none 0 0, .slice none 0 0] 27))
  have Z := Aside0.mk (Hnd.blk_new1 w (.cells #[.slice A0 i.length c0, .slice A1 o.length c1, .slice A2 f.length c2, .slice A3 g.length c3, .slice A4 s.length c4] 27) (.cells #[.slice none 0 0, .slice none 0 0, .slice none 0 0, .slice none 0 0, .slice none 0 0] 27))
  have HN := Aside0.mk (hn.below HB.out)
  have HL := Aside0.mk (Kd.C_below hl HB.out)
  have ML := Aside0.mk hcL
  have CK := Aside0.mk hck
  have HW := Aside0.mk hn
  have HF := Aside0.mk (Kd.C_F k51_heap hn.1.2.2.2.1)
  clear hn hl hcL hck
  go_enter Tryd.func5, Tryd.ntmps5
  go_wp2_with fail
  refine (floor_CheckChip.calls k A0 c0 i A1 c1 o A2 c2 f A3 c3 g A4 c4 s AL cL lb ce _ HN.out.1.1 HN.out.2.1 HN.out.1.2.1 HN.out.2.2.1 HN.out.1.2.2.1 HN.out.2.2.2.1 HN.out.1.2.2.2.1 HN.out.2.2.2.2.1 HN.out.1.2.2.2.2 HN.out.2.2.2.2.2 HL.out ML.out CK.out).mono ?_
  rintro e w1 ⟨rfl, hw⟩
  replace HB := Aside0.mk (below_step HB.out hw)
  replace X := Aside0.mk (blk_below X.out hw)
  replace Z := Aside0.mk (blk_below Z.out hw)
  replace HN := Aside0.mk (HN.out.below hw)
  replace HL := Aside0.mk (Kd.C_below HL.out hw)
  clear hw
  obtain ⟨x0, x1, x2, x3, x4⟩ := ncells X.out
  obtain ⟨z0, z1, z2, z3, z4⟩ := ncells Z.out
  obtain ⟨y0, y1, y2, y3, y4⟩ := nfroz Z.out
  subst h0
  obtain ⟨e0, e1, e2, e3⟩ := h1
  obtain ⟨b0, b1, hb⟩ := h2
  have d1 : decide (flop < 0) = false := decide_eq_false (by omega)
  have d2 : decide (flop ≥ (f.length : Int)) = false := decide_eq_false (by omega)
  have d2' : decide ((f.length : Int) ≤ flop) = false := decide_eq_false (by omega)
  have d3 : decide (input < 0) = false := decide_eq_false (by omega)
  obtain ⟨ad, rfl, t0, t1, t2, t3, t4⟩ := at_T44 HN.out.1.2.2.1 flop e0 e1
  go_wp2_with fail
  refine (delay_Inputs.calls _ _ _ _ _ (takesV (rd_T44 f flop)) _ (takesV_eq _)).mono ?_
  rintro e w2 ⟨rfl, hw⟩
  clear t0 t1 t2 t3 t4
  (try clear x0 x1 x2 x3 x4 z0 z1 z2 z3 z4 y0 y1 y2 y3 y4)
  replace HB := Aside0.mk (below_step HB.out hw)
  replace X := Aside0.mk (blk_below X.out hw)
  replace Z := Aside0.mk (blk_below Z.out hw)
  replace HN := Aside0.mk (HN.out.below hw)
  replace HL := Aside0.mk (Kd.C_below HL.out hw)
  clear hw
  obtain ⟨x0, x1, x2, x3, x4⟩ := ncells X.out
  obtain ⟨z0, z1, z2, z3, z4⟩ := ncells Z.out
  obtain ⟨y0, y1, y2, y3, y4⟩ := nfroz Z.out
  have d4 : decide (input ≥ takesV (rd_T44 f flop)) = false := decide_eq_false (by omega)
  have d4' : decide (takesV (rd_T44 f flop) ≤ input) = false := decide_eq_false (by omega)
  have g1 : decide (cell < 0) = false := decide_eq_false (by omega)
  have g2 : decide (cell ≥ (lb.length : Int)) = false := decide_eq_false (by omega)
  have g2' : decide ((lb.length : Int) ≤ cell) = false := decide_eq_false (by omega)
  obtain ⟨ab, A5, c5, A6, c6, A7, c7, rfl, u0, u1, u2, u3, u4, u5, u6, u7, u8, u9, u10, l5, r5, l6, r6, l7, r7⟩ := at_T48 HL.out cell b0 b1
  go_wp2_with fail
  refine (tree_IsBuffer.calls _ _ _ _ _ A5 c5 _ A6 c6 _ A7 c7 _ _ _ _ true _ r5 l5 r6 l6 r7 l7 ((isbV_eq _).trans (congrArg some hb))).mono ?_
  rintro e w3 ⟨rfl, hw⟩
  clear u0 u1 u2 u3 u4 u5 u6 u7 u8 u9 u10 l5 r5 l6 r6 l7 r7
  (try clear x0 x1 x2 x3 x4 z0 z1 z2 z3 z4 y0 y1 y2 y3 y4)
  replace HB := Aside0.mk (below_step HB.out hw)
  replace X := Aside0.mk (blk_below X.out hw)
  replace Z := Aside0.mk (blk_below Z.out hw)
  replace HN := Aside0.mk (HN.out.below hw)
  replace HL := Aside0.mk (Kd.C_below HL.out hw)
  clear hw
  obtain ⟨x0, x1, x2, x3, x4⟩ := ncells X.out
  obtain ⟨z0, z1, z2, z3, z4⟩ := ncells Z.out
  obtain ⟨y0, y1, y2, y3, y4⟩ := nfroz Z.out
  have s1 : wrap64 ((g.length : Int) + (f.length : Int)) = (g.length : Int) + (f.length : Int) := w64 (by omega) (by omega)
  have s2 : ((g.length : Int) + (f.length : Int) == 300) = false := by simp; omega
  have s3 : decide ((g.length : Int) + (f.length : Int) = 300) = false := decide_eq_false (by omega)
  go_upto_region 11 with (fail)
  clear s1 s2 s3
  have HV := Aside0.mk (show NetC w3 A0 c0 i A1 c1 o (some ad) c2 f A3 c3 g A4 c4 s from HN.out)
  have Y := Aside0.mk (blk_drew (blk_new w3 (.cells #[.slice A0 i.length c0, .slice A1 o.length c1, .slice (some ad) f.length c2, .slice A3 g.length c3, .slice A4 s.length c4] 27)))
  have NX := Aside0.mk (show w.heap.size ≠ w3.heap.size from Nat.ne_of_lt (blk_lt X.out))
  have NZ := Aside0.mk (show w.heap.size + 1 ≠ w3.heap.size from Nat.ne_of_lt (blk_lt Z.out))
  have GE := Aside0.mk (show w.heap.size ≤ w3.heap.size from HB.out.size)
  have hw0 := below_drew1 (below_alloc (Below.refl w3.heap.size w3) (.cells #[.slice A0 i.length c0, .slice A1 o.length c1, .slice (some ad) f.length c2, .slice A3 g.length c3, .slice A4 s.length c4] 27))
  replace X := Aside0.mk (blk_below X.out hw0)
  replace Z := Aside0.mk (blk_below Z.out hw0)
  replace HN := Aside0.mk (HV.out.below hw0)
  replace HB := Aside0.mk (below_step HB.out hw0)
  have LT := Aside0.mk (show w3.heap.size < (w3.alloc (.cells #[.slice A0 i.length c0, .slice A1 o.length c1, .slice (some ad) f.length c2, .slice A3 g.length c3, .slice A4 s.length c4] 27)).drew.heap.size from blk_lt Y.out)
  replace HF := Aside0.mk (Kd.F_below HF.out HB.out)
  clear hw0 HV HL ML CK x0 x1 x2 x3 x4 z0 z1 z2 z3 z4 y0 y1 y2 y3 y4
  refine wp_region_held_drew (S := (fun w' : World => w'.cell? ⟨w.heap.size, 2, none⟩ = some (.slice (some ad) f.length c2) ∧ w'.cell? ⟨w.heap.size, 3, none⟩ = some (.slice A3 g.length c3))) (by kernel_rfl) ⟨(blk_cell X.out 2).trans rfl, (blk_cell X.out 3).trans rfl⟩ (fun hHeld => ?_)
  generalize hg13 : w3.heap.size = g13 at *
  generalize (w3.alloc (.cells #[.slice A0 i.length c0, .slice A1 o.length c1, .slice (some ad) f.length c2, .slice A3 g.length c3, .slice A4 s.length c4] 27)).drew = w4 at *
  clear hg13
  refine wpAnyH_take (i := 0) (oi := _) (v := ?_) rfl (by kernel_rfl) (by kernel_rfl) (by kernel_rfl) (fun _ _ _ h => h) (Or.inl ⟨by rfl, ?_⟩) (by assumption) ?_
  rotate_left
  focus
    intro w' hSw
    (try dsimp only at hSw)
    go_simp
    try with_reducible rfl
  try simp only [Act.put, List.setIfInBounds_toArray, List.set_cons_zero, List.set_cons_succ]
  refine wpAnyH_take (i := 1) (oi := _) (v := ?_) rfl (by kernel_rfl) (by kernel_rfl) (by kernel_rfl) (fun _ _ _ h => h) (Or.inl ⟨by rfl, ?_⟩) (by assumption) ?_
  rotate_left
  focus
    intro w' hSw
    (try dsimp only at hSw)
    go_simp
    try with_reducible rfl
  try simp only [Act.put, List.setIfInBounds_toArray, List.set_cons_zero, List.set_cons_succ]
  refine wpAnyH_take (i := 3) (oi := _) (v := ?_) rfl (by kernel_rfl) (by kernel_rfl) (by kernel_rfl) (fun _ _ _ h => h) (Or.inl ⟨by rfl, ?_⟩) (by assumption) ?_
  rotate_left
  focus
    intro w' hSw
    (try dsimp only at hSw)
    go_simp
    try with_reducible rfl
  try simp only [Act.put, List.setIfInBounds_toArray, List.set_cons_zero, List.set_cons_succ]
  refine wpAnyH_take (i := 4) (oi := _) (v := ?_) rfl (by kernel_rfl) (by kernel_rfl) (by kernel_rfl) (fun _ _ _ h => h) (Or.inl ⟨by rfl, ?_⟩) (by assumption) ?_
  rotate_left
  focus
    intro w' hSw
    (try dsimp only at hSw)
    go_simp
    try with_reducible rfl
  try simp only [Act.put, List.setIfInBounds_toArray, List.set_cons_zero, List.set_cons_succ]
  refine wpAnyH_ready (rs := [2]) (by kernel_rfl) (by simp) ?_
  refine AllReadyH.cons rfl (fun K hK => ?_) AllReadyH.nil
  go_simp
  refine (api_Gate.calls (fun k_ => k_ < w.heap.size) A3 c3 g g _ (Kd.V_mk HN.out.2.2.2.2.1 HF.out) (by unfold api_Gate.f; rw [if_pos (by omega)])).mono ?_
  rintro e w5 ⟨v3, rfl, hN, hw⟩
  obtain ⟨Ag, cg, rfl⟩ := Kd.N_slice hN
  replace HB := Aside0.mk (below_step HB.out hw)
  replace X := Aside0.mk (blk_below X.out hw)
  replace Z := Aside0.mk (blk_below Z.out hw)
  replace Y := Aside0.mk (blk_below Y.out hw)
  replace HN := Aside0.mk (HN.out.below hw)
  have HG := Aside0.mk hN
  have L5 := Aside0.mk (show w4.heap.size ≤ w5.heap.size from hw.size)
  clear hw hN HF
  go_wp2_with fail
  refine hK.out _ _ ⟨(blk_cell X.out 2).trans rfl, (blk_cell X.out 3).trans rfl⟩ (fun hHeld => ?_)
  clear hK K
  try simp only [Act.put, List.setIfInBounds_toArray, List.set_cons_zero, List.set_cons_succ]
  refine wpAnyH_take (i := 6) (oi := _) (v := ?_) rfl (by kernel_rfl) (by kernel_rfl) (by kernel_rfl) (fun _ _ _ h => h) (Or.inl ⟨by rfl, ?_⟩) (by assumption) ?_
  rotate_left
  focus
    intro w' hSw
    (try dsimp only at hSw)
    go_simp
    try with_reducible rfl
  try simp only [Act.put, List.setIfInBounds_toArray, List.set_cons_zero, List.set_cons_succ]
  refine wpAnyH_ready (rs := [5]) (by kernel_rfl) (by simp) ?_
  refine AllReadyH.cons rfl (fun K hK => ?_) AllReadyH.nil
  go_simp
  refine (api_Flop.calls (some ad) c2 f f _ HN.out.1.2.2.1 HN.out.2.2.2.1 (by unfold api_Flop.f; rw [if_pos (by omega)])).mono ?_
  rintro e w6 ⟨v2, rfl, hR, hw⟩
  obtain ⟨gf, cap, rfl, hgf, hgl, -⟩ := Kd.N_form (Kd.R_N hR) (by omega)
  replace HB := Aside0.mk (below_step HB.out hw)
  replace X := Aside0.mk (blk_below X.out hw)
  replace Z := Aside0.mk (blk_below Z.out hw)
  replace Y := Aside0.mk (blk_below Y.out hw)
  replace HG := Aside0.mk (Kd.N_elder' HG.out (Kd.R_base hR) hw)
  have HR := Aside0.mk (Kd.R_mono (Kd.R_tight rfl hR) (ok' := fun k => k = gf) (fun k hk => by simpa [Value.ownBlock] using hk))
  have L6 := Aside0.mk (show w5.heap.size ≤ gf from hgf)
  clear hw hR HN hgf hgl
  obtain ⟨y0, y1, y2, y3, y4⟩ := nfroz Y.out
  obtain ⟨z0, z1, z2, z3, z4⟩ := ncells Y.out
  go_wp2_with fail
  refine hK.out _ _ ⟨(blk_cell X.out 2).trans rfl, (blk_cell X.out 3).trans rfl⟩ (fun hHeld => ?_)
  clear hK K
  try simp only [Act.put, List.setIfInBounds_toArray, List.set_cons_zero, List.set_cons_succ]
  have HGn := Aside0.mk (show ∀ k, ((k < w.heap.size ∨ w4.heap.size ≤ k) ∧ some k ≠ (.slice (some ⟨gf, 0, none⟩) f.length cap : Value).ownBlock) → k ≠ g13 from fun k hk => by have := LT.out; have := GE.out; have := hk.1; omega)
  refine wpAnyH_ready (rs := [7]) (by kernel_rfl) (by simp) ?_
  refine AllReadyH.cons rfl (fun K hK => ?_) AllReadyH.nil
  go_simp
  refine hK.out _ _ ⟨(blk_cell (blk_far X.out NX.out _) 2).trans rfl, (blk_cell (blk_far X.out NX.out _) 3).trans rfl⟩ (fun hHeld => ?_)
  clear hK K
  try simp only [Act.put, List.setIfInBounds_toArray, List.set_cons_zero, List.set_cons_succ]
  replace HB := Aside0.mk (below_set (g := g13) (j := 3) (v := .slice Ag g.length cg) HB.out GE.out)
  replace X := Aside0.mk (blk_far X.out (p := ⟨g13, 3, none⟩) NX.out (.slice Ag g.length cg))
  replace Z := Aside0.mk (blk_far Z.out (p := ⟨g13, 3, none⟩) NZ.out (.slice Ag g.length cg))
  replace Y := Aside0.mk (blk_put Y.out 3 (.slice Ag g.length cg) (cs' := #[.slice A0 i.length c0, .slice A1 o.length c1, .slice (some ad) f.length c2, .slice Ag g.length cg, .slice A4 s.length c4]) rfl)
  replace HG := Aside0.mk (Kd.N_far HG.out (p := ⟨g13, 3, none⟩) (fun k hk => HGn.out k hk) (.slice Ag g.length cg))
  replace HR := Aside0.mk (Kd.R_far HR.out (p := ⟨g13, 3, none⟩) (fun k hk => by have := LT.out; have := L5.out; have := L6.out; show k ≠ g13; omega) (.slice Ag g.length cg))
  (try clear y0 y1 y2 y3 y4 z0 z1 z2 z3 z4)
  obtain ⟨y0, y1, y2, y3, y4⟩ := nfroz Y.out
  obtain ⟨z0, z1, z2, z3, z4⟩ := ncells Y.out
  refine wpAnyH_take (i := 8) (oi := _) (v := ?_) rfl (by kernel_rfl) (by kernel_rfl) (by kernel_rfl) (fun _ _ _ h => h) (Or.inl ⟨by rfl, ?_⟩) (by assumption) ?_
  rotate_left
  focus
    intro w' hSw
    (try dsimp only at hSw)
    go_simp
    try with_reducible rfl
  try simp only [Act.put, List.setIfInBounds_toArray, List.set_cons_zero, List.set_cons_succ]
  refine wpAnyH_ready (rs := [9]) (by kernel_rfl) (by simp) ?_
  refine AllReadyH.cons rfl (fun K hK => ?_) AllReadyH.nil
  go_simp
  refine hK.out _ _ ⟨(blk_cell (blk_far X.out NX.out _) 2).trans rfl, (blk_cell (blk_far X.out NX.out _) 3).trans rfl⟩ (fun hHeld => ?_)
  clear hK K
  try simp only [Act.put, List.setIfInBounds_toArray, List.set_cons_zero, List.set_cons_succ]
  replace HB := Aside0.mk (below_set (g := g13) (j := 2) (v := .slice (some ⟨gf, 0, none⟩) f.length cap) HB.out GE.out)
  replace X := Aside0.mk (blk_far X.out (p := ⟨g13, 2, none⟩) NX.out (.slice (some ⟨gf, 0, none⟩) f.length cap))
  replace Z := Aside0.mk (blk_far Z.out (p := ⟨g13, 2, none⟩) NZ.out (.slice (some ⟨gf, 0, none⟩) f.length cap))
  replace Y := Aside0.mk (blk_put Y.out 2 (.slice (some ⟨gf, 0, none⟩) f.length cap) (cs' := #[.slice A0 i.length c0, .slice A1 o.length c1, .slice (some ⟨gf, 0, none⟩) f.length cap, .slice Ag g.length cg, .slice A4 s.length c4]) rfl)
  replace HG := Aside0.mk (Kd.N_far HG.out (p := ⟨g13, 2, none⟩) (fun k hk => HGn.out k hk) (.slice (some ⟨gf, 0, none⟩) f.length cap))
  replace HR := Aside0.mk (Kd.R_far HR.out (p := ⟨g13, 2, none⟩) (fun k hk => by have := LT.out; have := L5.out; have := L6.out; show k ≠ g13; omega) (.slice (some ⟨gf, 0, none⟩) f.length cap))
  (try clear y0 y1 y2 y3 y4 z0 z1 z2 z3 z4)
  obtain ⟨y0, y1, y2, y3, y4⟩ := nfroz Y.out
  obtain ⟨z0, z1, z2, z3, z4⟩ := ncells Y.out
  refine wpAnyH_done (by kernel_rfl) ?_ _
  clear hHeld
  obtain ⟨x0, x1, x2, x3, x4⟩ := ncells X.out
  by_cases hin : input = 1
  · subst hin
    have q1 : ((1 : Int) == 1) = true := rfl
    have q2 : decide ((1 : Int) = 1) = true := rfl
    have qF : newF 1 (rd_T44 f flop) (netN i f g) = (⟨(rd_T44 f flop).f0, (rd_T44 f flop).f1, (rd_T44 f flop).f2, netN i f g, (rd_T44 f flop).f4⟩ : Flp) := by unfold newF; rw [if_pos rfl]
    have qG : oldD 1 (rd_T44 f flop) = (rd_T44 f flop).f3 := by unfold oldD; rw [if_pos rfl]
    go_upto_region 16 with (fail)
    clear q1 q2 d1 d2 d2' d3 d4 d4' g1 g2 g2' x0 x1 x2 x3 x4 y0 y1 y2 y3 y4 z0 z1 z2 z3 z4
    generalize (w6.setCell ⟨g13, 3, none⟩ (.slice Ag g.length cg)).setCell ⟨g13, 2, none⟩ (.slice (some ⟨gf, 0, none⟩) f.length cap) = w7 at *
    have LG := Aside0.mk (Kd.N_base HG.out)
    have LK := Aside0.mk HG.out.1
    replace HB := Aside0.mk (below_drew1 HB.out)
    replace X := Aside0.mk (blk_drew X.out)
    replace Z := Aside0.mk (blk_drew Z.out)
    replace Y := Aside0.mk (blk_drew Y.out)
    replace HG := Aside0.mk (Kd.N_drew HG.out)
    replace HR := Aside0.mk (Kd.R_drew HR.out)
    obtain ⟨cf, hcl, hM, hcc, hfr⟩ := Kd.R_elem HR.out z44 flop e0 e1
    obtain rfl := k44_openM hM
    have dD : ∀ w', Kd.R k44 44 w' w5.heap.size (fun k => k = gf) (.slice (some ⟨gf, 0, none⟩) f.length cap) f → w'.cell? ⟨gf, flop.toNat * 5 + 3, none⟩ = some (.int .i64 (rd_T44 f flop).f3) := fun w' h => by
      obtain ⟨cf, hcl, hM, hcc, hfr⟩ := Kd.R_elem h z44 flop e0 e1
      obtain rfl := k44_openM hM
      exact hcc 3 _ rfl
    clear hcl hM hcc hfr
    refine wp_region_held_drew (S := (fun w' : World => w'.cell? ⟨gf, flop.toNat * 5 + 3, none⟩ = some (.int .i64 (rd_T44 f flop).f3))) (by kernel_rfl) (dD _ HR.out) (fun hHeld => ?_)
    generalize w7.drew = w8 at *
    refine wpAnyH_take (i := 0) (oi := _) (v := ?_) rfl (by kernel_rfl) (by kernel_rfl) (by kernel_rfl) (fun _ _ _ h => h) (Or.inl ⟨by rfl, ?_⟩) (by assumption) ?_
    rotate_left
    focus
      intro w' hSw
      (try dsimp only at hSw)
      go_simp
      try with_reducible rfl
    try simp only [Act.put, List.setIfInBounds_toArray, List.set_cons_zero, List.set_cons_succ]
    refine wpAnyH_take (i := 2) (oi := _) (v := ?_) rfl (by kernel_rfl) (by kernel_rfl) (by kernel_rfl) (fun _ _ _ h => h) (Or.inl ⟨by rfl, ?_⟩) (by assumption) ?_
    rotate_left
    focus
      intro w' hSw
      (try dsimp only at hSw)
      go_simp
      try with_reducible rfl
    try simp only [Act.put, List.setIfInBounds_toArray, List.set_cons_zero, List.set_cons_succ]
    refine wpAnyH_take (i := 3) (oi := _) (v := ?_) rfl (by kernel_rfl) (by kernel_rfl) (by kernel_rfl) (fun _ _ _ h => h) (Or.inl ⟨by rfl, ?_⟩) (by assumption) ?_
    rotate_left
    focus
      intro w' hSw
      (try dsimp only at hSw)
      go_simp
      try with_reducible rfl
    try simp only [Act.put, List.setIfInBounds_toArray, List.set_cons_zero, List.set_cons_succ]
    refine wpAnyH_take (i := 4) (oi := _) (v := ?_) rfl (by kernel_rfl) (by kernel_rfl) (by kernel_rfl) (fun _ _ _ h => h) (Or.inl ⟨by rfl, ?_⟩) (by assumption) ?_
    rotate_left
    focus
      intro w' hSw
      (try dsimp only at hSw)
      go_simp
      try with_reducible rfl
    try simp only [Act.put, List.setIfInBounds_toArray, List.set_cons_zero, List.set_cons_succ]
    refine wpAnyH_take (i := 5) (oi := _) (v := ?_) rfl (by kernel_rfl) (by kernel_rfl) (by kernel_rfl) (fun _ _ _ h => h) (Or.inl ⟨by rfl, ?_⟩) (by assumption) ?_
    rotate_left
    focus
      intro w' hSw
      (try dsimp only at hSw)
      go_simp
      try with_reducible rfl
    try simp only [Act.put, List.setIfInBounds_toArray, List.set_cons_zero, List.set_cons_succ]
    (try clear z0 z1 z2 z3 z4)
    obtain ⟨z0, z1, z2, z3, z4⟩ := ncells Y.out
    refine wpAnyH_ready (rs := [1, 6]) (by kernel_rfl) (by simp) ?_
    refine AllReadyH.cons rfl (fun K hK => ?_) (AllReadyH.cons rfl (fun K hK => ?_) AllReadyH.nil)
    · go_simp
      refine hK.out _ _ (dD _ HR.out) (fun hHeld => ?_)
      clear hK K
      try simp only [Act.put, List.setIfInBounds_toArray, List.set_cons_zero, List.set_cons_succ]
      clear z0 z1 z2 z3 z4
      refine wpAnyH_ready (rs := [6]) (by kernel_rfl) (by simp) ?_
      refine AllReadyH.cons rfl (fun K hK => ?_) AllReadyH.nil
      go_simp
      have HR9 := Aside0.mk (Kd.R_alloc HR.out (.cells #[.int .i64 (rd_T44 f flop).f3] 3))
      refine hK.out _ _ (dD _ HR9.out) (fun hHeld => ?_)
      clear hK K
      try simp only [Act.put, List.setIfInBounds_toArray, List.set_cons_zero, List.set_cons_succ]
      replace HB := Aside0.mk (below_alloc HB.out (.cells #[.int .i64 (rd_T44 f flop).f3] 3))
      replace X := Aside0.mk (blk_alloc X.out (.cells #[.int .i64 (rd_T44 f flop).f3] 3))
      replace Z := Aside0.mk (blk_alloc Z.out (.cells #[.int .i64 (rd_T44 f flop).f3] 3))
      replace Y := Aside0.mk (blk_alloc Y.out (.cells #[.int .i64 (rd_T44 f flop).f3] 3))
      have BI := Aside0.mk (blk_new w8 (.cells #[.int .i64 (rd_T44 f flop).f3] 3))
      have LI := Aside0.mk (show gf < w8.heap.size from (Kd.R_lt HR.out) gf rfl)
      have LN := Aside0.mk (Kd.N_lt HG.out)
      have L4 := Aside0.mk (show w4.heap.size ≤ w8.heap.size from by have := LI.out; have := L5.out; have := L6.out; omega)
      replace HG := Aside0.mk (Kd.N_alloc HG.out (.cells #[.int .i64 (rd_T44 f flop).f3] 3))
      clear HR
      have LS := Aside0.mk (blk_lt BI.out)
      generalize w8.heap.size = gi at *
      generalize w8.alloc (.cells #[.int .i64 (rd_T44 f flop).f3] 3) = w9 at *
      refine wpAnyH_take (i := 7) (oi := _) (v := ?_) rfl (by kernel_rfl) (by kernel_rfl) (by kernel_rfl) (fun _ _ _ h => h) (Or.inl ⟨by rfl, ?_⟩) (by assumption) ?_
      rotate_left
      focus
        intro w' hSw
        (try dsimp only at hSw)
        go_simp
        try with_reducible rfl
      try simp only [Act.put, List.setIfInBounds_toArray, List.set_cons_zero, List.set_cons_succ]
      refine wpAnyH_ready (rs := [8]) (by kernel_rfl) (by simp) ?_
      refine AllReadyH.cons rfl (fun K hK => ?_) AllReadyH.nil
      go_simp
      refine hK.out _ _ (dD _ (Kd.R_alloc HR9.out _)) (fun hHeld => ?_)
      clear hK K
      try simp only [Act.put, List.setIfInBounds_toArray, List.set_cons_zero, List.set_cons_succ]
      refine wpAnyH_ready (rs := [9]) (by kernel_rfl) (by simp) ?_
      refine AllReadyH.cons rfl (fun K hK => ?_) AllReadyH.nil
      have hp : Kd.FK k51 w9 (fun k => k = gi) (⟨cell, 2, [(rd_T44 f flop).f3]⟩ : Gat) [.int .i64 cell, .int .u64 2, .slice (some ⟨gi, 0, none⟩) 1 1] := k51_mkF _ _ (⟨cell, 2, [(rd_T44 f flop).f3]⟩ : Gat) (Nat.le_refl 1) (fun W hW => Hnd.rowI [(rd_T44 f flop).f3] ((hW gi rfl LS.out).trans BI.out) rfl (show 1 ≤ 9223372036854775807 by decide))
      have hkp : ∀ k, k = gi → (fun k => (k < w.heap.size ∨ w4.heap.size ≤ k) ∧ some k ≠ (.slice (some ⟨gf, 0, none⟩) f.length cap : Value).ownBlock) k ∧ some k ≠ (.slice Ag g.length cg : Value).ownBlock := fun k hk => by
        subst hk
        refine ⟨⟨.inr L4.out, fun e => ?_⟩, fun e => ?_⟩
        · have : k = gf := by simpa [Value.ownBlock] using e
          have := LI.out
          omega
        · have := LN.out k e.symm
          omega
      have hfr : ∀ k, w9.heap.size ≤ k → (fun k => (k < w.heap.size ∨ w4.heap.size ≤ k) ∧ some k ≠ (.slice (some ⟨gf, 0, none⟩) f.length cap : Value).ownBlock) k := fun k hk => ⟨.inr (by have := L4.out; have := LS.out; omega), fun e => by
        have : k = gf := by simpa [Value.ownBlock] using e
        have := LI.out
        have := LS.out
        omega⟩
      have hgw : w.heap.size ≤ w4.heap.size := by have := GE.out; have := LT.out; omega
      refine Kd.N_append_step k51 (w0 := w) w.heap.size rfl (.tmp 110) (.tmp 117) 24 51 (.agg #[.int .i64 0, .int .u64 0, .slice none 0 0]) 40 rfl Tryd.underlying24 info51 rfl (by decide) (by decide) (.slice Ag g.length cg) g (⟨cell, 2, [(rd_T44 f flop).f3]⟩ : Gat) [.int .i64 cell, .int .u64 2, .slice (some ⟨gi, 0, none⟩) 1 1] (fun k => (k < w.heap.size ∨ w4.heap.size ≤ k) ∧ some k ≠ (.slice (some ⟨gf, 0, none⟩) f.length cap : Value).ownBlock) (fun k => k = gi) rfl rfl hp hkp hfr (Kd.N_lower HG.out hgw) HB.out HB.out.size (by omega) ?_
      intro v3 w10 hN hb hg hat
      obtain ⟨Ah, ch, rfl⟩ := Kd.N_slice hN
      simp only [List.length_append, List.length_singleton] at hN ⊢
      clear hp hkp hfr hat
      have hnf : some gf ≠ (.slice Ag g.length cg : Value).ownBlock := fun e => (LK.out gf e.symm).2 rfl
      have hnk : ∀ k, k < w4.heap.size → some k ≠ (.slice Ag g.length cg : Value).ownBlock := fun k hk e => by
        have := LG.out k e.symm
        omega
      replace HB := Aside0.mk hb
      replace X := Aside0.mk (blk_grown X.out hg (hnk _ (by have := GE.out; have := LT.out; have := NX.out; omega)))
      replace Z := Aside0.mk (blk_grown Z.out hg (hnk _ (by have := GE.out; have := LT.out; have := NX.out; omega)))
      replace Y := Aside0.mk (blk_grown Y.out hg (hnk _ LT.out))
      have HR := Aside0.mk (Kd.R_grown HR9.out hg (fun k hk => by rw [hk]; exact hnf))
      replace HG := Aside0.mk hN
      clear hb hg hN HR9 BI
      try simp only [Act.put, List.setIfInBounds_toArray, List.set_cons_zero, List.set_cons_succ]
      refine hK.out _ _ (dD _ HR.out) (fun hHeld => ?_)
      clear hK K
      try simp only [Act.put, List.setIfInBounds_toArray, List.set_cons_zero, List.set_cons_succ]
      refine wpAnyH_take (i := 10) (oi := _) (v := ?_) rfl (by kernel_rfl) (by kernel_rfl) (by kernel_rfl) (fun _ _ _ h => h) (Or.inl ⟨by rfl, ?_⟩) (by assumption) ?_
      rotate_left
      focus
        intro w' hSw
        (try dsimp only at hSw)
        go_simp
        try with_reducible rfl
      try simp only [Act.put, List.setIfInBounds_toArray, List.set_cons_zero, List.set_cons_succ]
      obtain ⟨y0, y1, y2, y3, y4⟩ := nfroz Y.out
      obtain ⟨z0, z1, z2, z3, z4⟩ := ncells Y.out
      refine wpAnyH_ready (rs := [11]) (by kernel_rfl) (by simp) ?_
      refine AllReadyH.cons rfl (fun K hK => ?_) AllReadyH.nil
      go_simp
      refine hK.out _ _ (dD _ (Kd.R_far HR.out (p := ⟨g13, 3, none⟩) (fun k hk => by have := LT.out; have := L5.out; have := L6.out; show k ≠ g13; omega) _)) (fun hHeld => ?_)
      clear hK K
      try simp only [Act.put, List.setIfInBounds_toArray, List.set_cons_zero, List.set_cons_succ]
      replace HB := Aside0.mk (below_set (g := g13) (j := 3) (v := .slice Ah (g.length + 1) ch) HB.out GE.out)
      replace X := Aside0.mk (blk_far X.out (p := ⟨g13, 3, none⟩) NX.out (.slice Ah (g.length + 1) ch))
      replace Z := Aside0.mk (blk_far Z.out (p := ⟨g13, 3, none⟩) NZ.out (.slice Ah (g.length + 1) ch))
      replace Y := Aside0.mk (blk_put Y.out 3 (.slice Ah (g.length + 1) ch) (cs' := #[.slice A0 i.length c0, .slice A1 o.length c1, .slice (some ⟨gf, 0, none⟩) f.length cap, .slice Ah (g.length + 1) ch, .slice A4 s.length c4]) rfl)
      replace HG := Aside0.mk (Kd.N_far HG.out (p := ⟨g13, 3, none⟩) (fun k hk => HGn.out k hk) (.slice Ah (g.length + 1) ch))
      replace HR := Aside0.mk (Kd.R_far HR.out (p := ⟨g13, 3, none⟩) (fun k hk => by have := LT.out; have := L5.out; have := L6.out; show k ≠ g13; omega) (.slice Ah (g.length + 1) ch))
      (try clear y0 y1 y2 y3 y4 z0 z1 z2 z3 z4)
      obtain ⟨y0, y1, y2, y3, y4⟩ := nfroz Y.out
      obtain ⟨z0, z1, z2, z3, z4⟩ := ncells Y.out
      refine wpAnyH_done (by kernel_rfl) ?_ _
      clear hHeld
      obtain ⟨x0, x1, x2, x3, x4⟩ := ncells X.out
      generalize w10.setCell ⟨g13, 3, none⟩ (.slice Ah (g.length + 1) ch) = w11 at *
      obtain ⟨cf, hcl, hM, hcc, hfr⟩ := Kd.R_elem HR.out z44 flop e0 e1
      obtain rfl := k44_openM hM
      have HL := Kd.R_lower HR.out (show w.heap.size ≤ w5.heap.size by have := GE.out; have := LT.out; have := L5.out; omega)
      go_wp2_with (refine Kd.R_store k44 (w0 := w) w.heap.size rfl rfl 3 (.tmp 122) (.tmp 121) rfl 44 flop 3 f (⟨(rd_T44 f flop).f0, (rd_T44 f flop).f1, (rd_T44 f flop).f2, netN i f g, (rd_T44 f flop).f4⟩ : Flp) (.int .i64 (netN i f g)) [.int .i64 (netN i f g)] [.string (rd_T44 f flop).f0, .int .i64 (rd_T44 f flop).f1, .int .i64 (rd_T44 f flop).f2, .int .i64 (rd_T44 f flop).f3, .bool (rd_T44 f flop).f4] (fun k => k = gf) (fun _ => False) rfl rfl rfl rfl (by kernel_rfl) (fun q hq => by simp only [List.mem_singleton] at hq; rw [hq]; rfl) HL e0 e1 hcl hcc (show 3 + 1 ≤ 5 by decide) (k44_mkM _ _ _ (⟨(rd_T44 f flop).f0, (rd_T44 f flop).f1, (rd_T44 f flop).f2, netN i f g, (rd_T44 f flop).f4⟩ : Flp)) (fun _ hk => hk.elim) HB.out ?_; intro w12 hR hb hg; replace HB := Aside0.mk hb; replace X := Aside0.mk (blk_grown X.out hg (fun e => by injection e with e; have := GE.out; have := LT.out; have := L5.out; have := L6.out; omega)); replace Z := Aside0.mk (blk_grown Z.out hg (fun e => by injection e with e; have := GE.out; have := LT.out; have := L5.out; have := L6.out; have := NX.out; omega)); replace Y := Aside0.mk (blk_grown Y.out hg (fun e => by injection e with e; have := LT.out; have := L5.out; have := L6.out; omega)); replace HG := Aside0.mk (Kd.N_grown HG.out hg (fun k hk => hk.2)); have HR2 := Aside0.mk hR; clear hcl hM hcc hfr HL hR hb hg HR x0 x1 x2 x3 x4 y0 y1 y2 y3 y4 z0 z1 z2 z3 z4; obtain ⟨x0, x1, x2, x3, x4⟩ := ncells Z.out; obtain ⟨y0, y1, y2, y3, y4⟩ := nfroz Z.out; obtain ⟨z0, z1, z2, z3, z4⟩ := ncells Y.out)
      refine bodyPost_ret (results_ct rfl _ _ (w.heap.size + 1) 27 #[.slice A0 i.length c0, .slice A1 o.length c1, .slice (some ⟨gf, 0, none⟩) f.length cap, .slice Ah (g.length + 1) ch, .slice A4 s.length c4] (0, 0) _ rfl (nput Z.out _ _ _ _ _) hu27 rfl (by kernel_rfl)) rfl ?_
      have HBf := nput_below (a := .slice A0 i.length c0) (b := .slice A1 o.length c1) (c := .slice (some ⟨gf, 0, none⟩) f.length cap) (d := .slice Ah (g.length + 1) ch) (e := .slice A4 s.length c4) HB.out (Nat.le_succ w.heap.size)
      have HWf := HW.out.below HBf
      have eF : outF i f g flop 1 = f.set flop.toNat (⟨(rd_T44 f flop).f0, (rd_T44 f flop).f1, (rd_T44 f flop).f2, netN i f g, (rd_T44 f flop).f4⟩ : Flp) := by unfold outF; rw [qF]
      have eG : outG f g flop 1 cell = g ++ [(⟨cell, 2, [(rd_T44 f flop).f3]⟩ : Gat)] := by unfold outG; rw [qG]
      have RF := Kd.R_reads' (nfarR HR2.out (g := w.heap.size + 1) (fun k hk => by have := GE.out; have := LT.out; have := L5.out; have := L6.out; have := NZ.out; have := NX.out; omega) (.slice A0 i.length c0) (.slice A1 o.length c1) (.slice (some ⟨gf, 0, none⟩) f.length cap) (.slice Ah (g.length + 1) ch) (.slice A4 s.length c4))
      have NG := Kd.N_reads' (nfarN HG.out (g := w.heap.size + 1) (fun k hk => by have := hk.1; have := GE.out; have := LT.out; have := NZ.out; have := NX.out; omega) (.slice A0 i.length c0) (.slice A1 o.length c1) (.slice (some ⟨gf, 0, none⟩) f.length cap) (.slice Ah (g.length + 1) ch) (.slice A4 s.length c4))
      have lF : (f.set flop.toNat (⟨(rd_T44 f flop).f0, (rd_T44 f flop).f1, (rd_T44 f flop).f2, netN i f g, (rd_T44 f flop).f4⟩ : Flp)).length = f.length := by simp
      have lG : (g ++ [(⟨cell, 2, [(rd_T44 f flop).f3]⟩ : Gat)]).length = g.length + 1 := by simp
      rw [eF, eG]
      refine ⟨⟨some ⟨gf, 0, none⟩, cap, Ah, ch, by rw [lF, lG]; rfl, ⟨HWf.1.1, HWf.1.2.1, RF.2.2, NG.2.2, HWf.1.2.2.2.2⟩, HWf.2.1, HWf.2.2.1, by rw [lF]; exact RF.2.1, by rw [lG]; exact NG.2.1, HWf.2.2.2.2.2⟩, HBf⟩
    · go_simp
      have HR9 := Aside0.mk (Kd.R_alloc HR.out (.cells #[.int .i64 (rd_T44 f flop).f3] 3))
      refine hK.out _ _ (dD _ HR9.out) (fun hHeld => ?_)
      clear hK K
      try simp only [Act.put, List.setIfInBounds_toArray, List.set_cons_zero, List.set_cons_succ]
      replace HB := Aside0.mk (below_alloc HB.out (.cells #[.int .i64 (rd_T44 f flop).f3] 3))
      replace X := Aside0.mk (blk_alloc X.out (.cells #[.int .i64 (rd_T44 f flop).f3] 3))
      replace Z := Aside0.mk (blk_alloc Z.out (.cells #[.int .i64 (rd_T44 f flop).f3] 3))
      replace Y := Aside0.mk (blk_alloc Y.out (.cells #[.int .i64 (rd_T44 f flop).f3] 3))
      have BI := Aside0.mk (blk_new w8 (.cells #[.int .i64 (rd_T44 f flop).f3] 3))
      have LI := Aside0.mk (show gf < w8.heap.size from (Kd.R_lt HR.out) gf rfl)
      have LN := Aside0.mk (Kd.N_lt HG.out)
      have L4 := Aside0.mk (show w4.heap.size ≤ w8.heap.size from by have := LI.out; have := L5.out; have := L6.out; omega)
      replace HG := Aside0.mk (Kd.N_alloc HG.out (.cells #[.int .i64 (rd_T44 f flop).f3] 3))
      clear HR
      have LS := Aside0.mk (blk_lt BI.out)
      generalize w8.heap.size = gi at *
      generalize w8.alloc (.cells #[.int .i64 (rd_T44 f flop).f3] 3) = w9 at *
      refine wpAnyH_take (i := 7) (oi := _) (v := ?_) rfl (by kernel_rfl) (by kernel_rfl) (by kernel_rfl) (fun _ _ _ h => h) (Or.inl ⟨by rfl, ?_⟩) (by assumption) ?_
      rotate_left
      focus
        intro w' hSw
        (try dsimp only at hSw)
        go_simp
        try with_reducible rfl
      try simp only [Act.put, List.setIfInBounds_toArray, List.set_cons_zero, List.set_cons_succ]
      (try clear z0 z1 z2 z3 z4)
      obtain ⟨z0, z1, z2, z3, z4⟩ := ncells Y.out
      refine wpAnyH_ready (rs := [1, 8]) (by kernel_rfl) (by simp) ?_
      refine AllReadyH.cons rfl (fun K hK => ?_) (AllReadyH.cons rfl (fun K hK => ?_) AllReadyH.nil)
      · go_simp
        refine hK.out _ _ (dD _ HR9.out) (fun hHeld => ?_)
        clear hK K
        try simp only [Act.put, List.setIfInBounds_toArray, List.set_cons_zero, List.set_cons_succ]
        clear z0 z1 z2 z3 z4
        refine wpAnyH_ready (rs := [8]) (by kernel_rfl) (by simp) ?_
        refine AllReadyH.cons rfl (fun K hK => ?_) AllReadyH.nil
        go_simp
        refine hK.out _ _ (dD _ (Kd.R_alloc HR9.out _)) (fun hHeld => ?_)
        clear hK K
        try simp only [Act.put, List.setIfInBounds_toArray, List.set_cons_zero, List.set_cons_succ]
        refine wpAnyH_ready (rs := [9]) (by kernel_rfl) (by simp) ?_
        refine AllReadyH.cons rfl (fun K hK => ?_) AllReadyH.nil
        have hp : Kd.FK k51 w9 (fun k => k = gi) (⟨cell, 2, [(rd_T44 f flop).f3]⟩ : Gat) [.int .i64 cell, .int .u64 2, .slice (some ⟨gi, 0, none⟩) 1 1] := k51_mkF _ _ (⟨cell, 2, [(rd_T44 f flop).f3]⟩ : Gat) (Nat.le_refl 1) (fun W hW => Hnd.rowI [(rd_T44 f flop).f3] ((hW gi rfl LS.out).trans BI.out) rfl (show 1 ≤ 9223372036854775807 by decide))
        have hkp : ∀ k, k = gi → (fun k => (k < w.heap.size ∨ w4.heap.size ≤ k) ∧ some k ≠ (.slice (some ⟨gf, 0, none⟩) f.length cap : Value).ownBlock) k ∧ some k ≠ (.slice Ag g.length cg : Value).ownBlock := fun k hk => by
          subst hk
          refine ⟨⟨.inr L4.out, fun e => ?_⟩, fun e => ?_⟩
          · have : k = gf := by simpa [Value.ownBlock] using e
            have := LI.out
            omega
          · have := LN.out k e.symm
            omega
        have hfr : ∀ k, w9.heap.size ≤ k → (fun k => (k < w.heap.size ∨ w4.heap.size ≤ k) ∧ some k ≠ (.slice (some ⟨gf, 0, none⟩) f.length cap : Value).ownBlock) k := fun k hk => ⟨.inr (by have := L4.out; have := LS.out; omega), fun e => by
          have : k = gf := by simpa [Value.ownBlock] using e
          have := LI.out
          have := LS.out
          omega⟩
        have hgw : w.heap.size ≤ w4.heap.size := by have := GE.out; have := LT.out; omega
        refine Kd.N_append_step k51 (w0 := w) w.heap.size rfl (.tmp 110) (.tmp 117) 24 51 (.agg #[.int .i64 0, .int .u64 0, .slice none 0 0]) 40 rfl Tryd.underlying24 info51 rfl (by decide) (by decide) (.slice Ag g.length cg) g (⟨cell, 2, [(rd_T44 f flop).f3]⟩ : Gat) [.int .i64 cell, .int .u64 2, .slice (some ⟨gi, 0, none⟩) 1 1] (fun k => (k < w.heap.size ∨ w4.heap.size ≤ k) ∧ some k ≠ (.slice (some ⟨gf, 0, none⟩) f.length cap : Value).ownBlock) (fun k => k = gi) rfl rfl hp hkp hfr (Kd.N_lower HG.out hgw) HB.out HB.out.size (by omega) ?_
        intro v3 w10 hN hb hg hat
        obtain ⟨Ah, ch, rfl⟩ := Kd.N_slice hN
        simp only [List.length_append, List.length_singleton] at hN ⊢
        clear hp hkp hfr hat
        have hnf : some gf ≠ (.slice Ag g.length cg : Value).ownBlock := fun e => (LK.out gf e.symm).2 rfl
        have hnk : ∀ k, k < w4.heap.size → some k ≠ (.slice Ag g.length cg : Value).ownBlock := fun k hk e => by
          have := LG.out k e.symm
          omega
        replace HB := Aside0.mk hb
        replace X := Aside0.mk (blk_grown X.out hg (hnk _ (by have := GE.out; have := LT.out; have := NX.out; omega)))
        replace Z := Aside0.mk (blk_grown Z.out hg (hnk _ (by have := GE.out; have := LT.out; have := NX.out; omega)))
        replace Y := Aside0.mk (blk_grown Y.out hg (hnk _ LT.out))
        have HR := Aside0.mk (Kd.R_grown HR9.out hg (fun k hk => by rw [hk]; exact hnf))
        replace HG := Aside0.mk hN
        clear hb hg hN HR9 BI
        try simp only [Act.put, List.setIfInBounds_toArray, List.set_cons_zero, List.set_cons_succ]
        refine hK.out _ _ (dD _ HR.out) (fun hHeld => ?_)
        clear hK K
        try simp only [Act.put, List.setIfInBounds_toArray, List.set_cons_zero, List.set_cons_succ]
        refine wpAnyH_take (i := 10) (oi := _) (v := ?_) rfl (by kernel_rfl) (by kernel_rfl) (by kernel_rfl) (fun _ _ _ h => h) (Or.inl ⟨by rfl, ?_⟩) (by assumption) ?_
        rotate_left
        focus
          intro w' hSw
          (try dsimp only at hSw)
          go_simp
          try with_reducible rfl
        try simp only [Act.put, List.setIfInBounds_toArray, List.set_cons_zero, List.set_cons_succ]
        obtain ⟨y0, y1, y2, y3, y4⟩ := nfroz Y.out
        obtain ⟨z0, z1, z2, z3, z4⟩ := ncells Y.out
        refine wpAnyH_ready (rs := [11]) (by kernel_rfl) (by simp) ?_
        refine AllReadyH.cons rfl (fun K hK => ?_) AllReadyH.nil
        go_simp
        refine hK.out _ _ (dD _ (Kd.R_far HR.out (p := ⟨g13, 3, none⟩) (fun k hk => by have := LT.out; have := L5.out; have := L6.out; show k ≠ g13; omega) _)) (fun hHeld => ?_)
        clear hK K
        try simp only [Act.put, List.setIfInBounds_toArray, List.set_cons_zero, List.set_cons_succ]
        replace HB := Aside0.mk (below_set (g := g13) (j := 3) (v := .slice Ah (g.length + 1) ch) HB.out GE.out)
        replace X := Aside0.mk (blk_far X.out (p := ⟨g13, 3, none⟩) NX.out (.slice Ah (g.length + 1) ch))
        replace Z := Aside0.mk (blk_far Z.out (p := ⟨g13, 3, none⟩) NZ.out (.slice Ah (g.length + 1) ch))
        replace Y := Aside0.mk (blk_put Y.out 3 (.slice Ah (g.length + 1) ch) (cs' := #[.slice A0 i.length c0, .slice A1 o.length c1, .slice (some ⟨gf, 0, none⟩) f.length cap, .slice Ah (g.length + 1) ch, .slice A4 s.length c4]) rfl)
        replace HG := Aside0.mk (Kd.N_far HG.out (p := ⟨g13, 3, none⟩) (fun k hk => HGn.out k hk) (.slice Ah (g.length + 1) ch))
        replace HR := Aside0.mk (Kd.R_far HR.out (p := ⟨g13, 3, none⟩) (fun k hk => by have := LT.out; have := L5.out; have := L6.out; show k ≠ g13; omega) (.slice Ah (g.length + 1) ch))
        (try clear y0 y1 y2 y3 y4 z0 z1 z2 z3 z4)
        obtain ⟨y0, y1, y2, y3, y4⟩ := nfroz Y.out
        obtain ⟨z0, z1, z2, z3, z4⟩ := ncells Y.out
        refine wpAnyH_done (by kernel_rfl) ?_ _
        clear hHeld
        obtain ⟨x0, x1, x2, x3, x4⟩ := ncells X.out
        generalize w10.setCell ⟨g13, 3, none⟩ (.slice Ah (g.length + 1) ch) = w11 at *
        obtain ⟨cf, hcl, hM, hcc, hfr⟩ := Kd.R_elem HR.out z44 flop e0 e1
        obtain rfl := k44_openM hM
        have HL := Kd.R_lower HR.out (show w.heap.size ≤ w5.heap.size by have := GE.out; have := LT.out; have := L5.out; omega)
        go_wp2_with (refine Kd.R_store k44 (w0 := w) w.heap.size rfl rfl 3 (.tmp 122) (.tmp 121) rfl 44 flop 3 f (⟨(rd_T44 f flop).f0, (rd_T44 f flop).f1, (rd_T44 f flop).f2, netN i f g, (rd_T44 f flop).f4⟩ : Flp) (.int .i64 (netN i f g)) [.int .i64 (netN i f g)] [.string (rd_T44 f flop).f0, .int .i64 (rd_T44 f flop).f1, .int .i64 (rd_T44 f flop).f2, .int .i64 (rd_T44 f flop).f3, .bool (rd_T44 f flop).f4] (fun k => k = gf) (fun _ => False) rfl rfl rfl rfl (by kernel_rfl) (fun q hq => by simp only [List.mem_singleton] at hq; rw [hq]; rfl) HL e0 e1 hcl hcc (show 3 + 1 ≤ 5 by decide) (k44_mkM _ _ _ (⟨(rd_T44 f flop).f0, (rd_T44 f flop).f1, (rd_T44 f flop).f2, netN i f g, (rd_T44 f flop).f4⟩ : Flp)) (fun _ hk => hk.elim) HB.out ?_; intro w12 hR hb hg; replace HB := Aside0.mk hb; replace X := Aside0.mk (blk_grown X.out hg (fun e => by injection e with e; have := GE.out; have := LT.out; have := L5.out; have := L6.out; omega)); replace Z := Aside0.mk (blk_grown Z.out hg (fun e => by injection e with e; have := GE.out; have := LT.out; have := L5.out; have := L6.out; have := NX.out; omega)); replace Y := Aside0.mk (blk_grown Y.out hg (fun e => by injection e with e; have := LT.out; have := L5.out; have := L6.out; omega)); replace HG := Aside0.mk (Kd.N_grown HG.out hg (fun k hk => hk.2)); have HR2 := Aside0.mk hR; clear hcl hM hcc hfr HL hR hb hg HR x0 x1 x2 x3 x4 y0 y1 y2 y3 y4 z0 z1 z2 z3 z4; obtain ⟨x0, x1, x2, x3, x4⟩ := ncells Z.out; obtain ⟨y0, y1, y2, y3, y4⟩ := nfroz Z.out; obtain ⟨z0, z1, z2, z3, z4⟩ := ncells Y.out)
        refine bodyPost_ret (results_ct rfl _ _ (w.heap.size + 1) 27 #[.slice A0 i.length c0, .slice A1 o.length c1, .slice (some ⟨gf, 0, none⟩) f.length cap, .slice Ah (g.length + 1) ch, .slice A4 s.length c4] (0, 0) _ rfl (nput Z.out _ _ _ _ _) hu27 rfl (by kernel_rfl)) rfl ?_
        have HBf := nput_below (a := .slice A0 i.length c0) (b := .slice A1 o.length c1) (c := .slice (some ⟨gf, 0, none⟩) f.length cap) (d := .slice Ah (g.length + 1) ch) (e := .slice A4 s.length c4) HB.out (Nat.le_succ w.heap.size)
        have HWf := HW.out.below HBf
        have eF : outF i f g flop 1 = f.set flop.toNat (⟨(rd_T44 f flop).f0, (rd_T44 f flop).f1, (rd_T44 f flop).f2, netN i f g, (rd_T44 f flop).f4⟩ : Flp) := by unfold outF; rw [qF]
        have eG : outG f g flop 1 cell = g ++ [(⟨cell, 2, [(rd_T44 f flop).f3]⟩ : Gat)] := by unfold outG; rw [qG]
        have RF := Kd.R_reads' (nfarR HR2.out (g := w.heap.size + 1) (fun k hk => by have := GE.out; have := LT.out; have := L5.out; have := L6.out; have := NZ.out; have := NX.out; omega) (.slice A0 i.length c0) (.slice A1 o.length c1) (.slice (some ⟨gf, 0, none⟩) f.length cap) (.slice Ah (g.length + 1) ch) (.slice A4 s.length c4))
        have NG := Kd.N_reads' (nfarN HG.out (g := w.heap.size + 1) (fun k hk => by have := hk.1; have := GE.out; have := LT.out; have := NZ.out; have := NX.out; omega) (.slice A0 i.length c0) (.slice A1 o.length c1) (.slice (some ⟨gf, 0, none⟩) f.length cap) (.slice Ah (g.length + 1) ch) (.slice A4 s.length c4))
        have lF : (f.set flop.toNat (⟨(rd_T44 f flop).f0, (rd_T44 f flop).f1, (rd_T44 f flop).f2, netN i f g, (rd_T44 f flop).f4⟩ : Flp)).length = f.length := by simp
        have lG : (g ++ [(⟨cell, 2, [(rd_T44 f flop).f3]⟩ : Gat)]).length = g.length + 1 := by simp
        rw [eF, eG]
        refine ⟨⟨some ⟨gf, 0, none⟩, cap, Ah, ch, by rw [lF, lG]; rfl, ⟨HWf.1.1, HWf.1.2.1, RF.2.2, NG.2.2, HWf.1.2.2.2.2⟩, HWf.2.1, HWf.2.2.1, by rw [lF]; exact RF.2.1, by rw [lG]; exact NG.2.1, HWf.2.2.2.2.2⟩, HBf⟩
      · go_simp
        refine hK.out _ _ (dD _ (Kd.R_alloc HR9.out _)) (fun hHeld => ?_)
        clear hK K
        try simp only [Act.put, List.setIfInBounds_toArray, List.set_cons_zero, List.set_cons_succ]
        (try clear z0 z1 z2 z3 z4)
        obtain ⟨z0, z1, z2, z3, z4⟩ := ncells (blk_alloc Y.out (.cells #[.int .i64 cell, .int .u64 2, .slice (some ⟨gi, 0, none⟩) 1 1] 51))
        refine wpAnyH_ready (rs := [1]) (by kernel_rfl) (by simp) ?_
        refine AllReadyH.cons rfl (fun K hK => ?_) AllReadyH.nil
        go_simp
        refine hK.out _ _ (dD _ (Kd.R_alloc HR9.out _)) (fun hHeld => ?_)
        clear hK K
        try simp only [Act.put, List.setIfInBounds_toArray, List.set_cons_zero, List.set_cons_succ]
        clear z0 z1 z2 z3 z4
        refine wpAnyH_ready (rs := [9]) (by kernel_rfl) (by simp) ?_
        refine AllReadyH.cons rfl (fun K hK => ?_) AllReadyH.nil
        have hp : Kd.FK k51 w9 (fun k => k = gi) (⟨cell, 2, [(rd_T44 f flop).f3]⟩ : Gat) [.int .i64 cell, .int .u64 2, .slice (some ⟨gi, 0, none⟩) 1 1] := k51_mkF _ _ (⟨cell, 2, [(rd_T44 f flop).f3]⟩ : Gat) (Nat.le_refl 1) (fun W hW => Hnd.rowI [(rd_T44 f flop).f3] ((hW gi rfl LS.out).trans BI.out) rfl (show 1 ≤ 9223372036854775807 by decide))
        have hkp : ∀ k, k = gi → (fun k => (k < w.heap.size ∨ w4.heap.size ≤ k) ∧ some k ≠ (.slice (some ⟨gf, 0, none⟩) f.length cap : Value).ownBlock) k ∧ some k ≠ (.slice Ag g.length cg : Value).ownBlock := fun k hk => by
          subst hk
          refine ⟨⟨.inr L4.out, fun e => ?_⟩, fun e => ?_⟩
          · have : k = gf := by simpa [Value.ownBlock] using e
            have := LI.out
            omega
          · have := LN.out k e.symm
            omega
        have hfr : ∀ k, w9.heap.size ≤ k → (fun k => (k < w.heap.size ∨ w4.heap.size ≤ k) ∧ some k ≠ (.slice (some ⟨gf, 0, none⟩) f.length cap : Value).ownBlock) k := fun k hk => ⟨.inr (by have := L4.out; have := LS.out; omega), fun e => by
          have : k = gf := by simpa [Value.ownBlock] using e
          have := LI.out
          have := LS.out
          omega⟩
        have hgw : w.heap.size ≤ w4.heap.size := by have := GE.out; have := LT.out; omega
        refine Kd.N_append_step k51 (w0 := w) w.heap.size rfl (.tmp 110) (.tmp 117) 24 51 (.agg #[.int .i64 0, .int .u64 0, .slice none 0 0]) 40 rfl Tryd.underlying24 info51 rfl (by decide) (by decide) (.slice Ag g.length cg) g (⟨cell, 2, [(rd_T44 f flop).f3]⟩ : Gat) [.int .i64 cell, .int .u64 2, .slice (some ⟨gi, 0, none⟩) 1 1] (fun k => (k < w.heap.size ∨ w4.heap.size ≤ k) ∧ some k ≠ (.slice (some ⟨gf, 0, none⟩) f.length cap : Value).ownBlock) (fun k => k = gi) rfl rfl hp hkp hfr (Kd.N_lower HG.out hgw) HB.out HB.out.size (by omega) ?_
        intro v3 w10 hN hb hg hat
        obtain ⟨Ah, ch, rfl⟩ := Kd.N_slice hN
        simp only [List.length_append, List.length_singleton] at hN ⊢
        clear hp hkp hfr hat
        have hnf : some gf ≠ (.slice Ag g.length cg : Value).ownBlock := fun e => (LK.out gf e.symm).2 rfl
        have hnk : ∀ k, k < w4.heap.size → some k ≠ (.slice Ag g.length cg : Value).ownBlock := fun k hk e => by
          have := LG.out k e.symm
          omega
        replace HB := Aside0.mk hb
        replace X := Aside0.mk (blk_grown X.out hg (hnk _ (by have := GE.out; have := LT.out; have := NX.out; omega)))
        replace Z := Aside0.mk (blk_grown Z.out hg (hnk _ (by have := GE.out; have := LT.out; have := NX.out; omega)))
        replace Y := Aside0.mk (blk_grown Y.out hg (hnk _ LT.out))
        have HR := Aside0.mk (Kd.R_grown HR9.out hg (fun k hk => by rw [hk]; exact hnf))
        replace HG := Aside0.mk hN
        clear hb hg hN HR9 BI
        try simp only [Act.put, List.setIfInBounds_toArray, List.set_cons_zero, List.set_cons_succ]
        refine hK.out _ _ (dD _ HR.out) (fun hHeld => ?_)
        clear hK K
        try simp only [Act.put, List.setIfInBounds_toArray, List.set_cons_zero, List.set_cons_succ]
        refine wpAnyH_take (i := 10) (oi := _) (v := ?_) rfl (by kernel_rfl) (by kernel_rfl) (by kernel_rfl) (fun _ _ _ h => h) (Or.inl ⟨by rfl, ?_⟩) (by assumption) ?_
        rotate_left
        focus
          intro w' hSw
          (try dsimp only at hSw)
          go_simp
          try with_reducible rfl
        try simp only [Act.put, List.setIfInBounds_toArray, List.set_cons_zero, List.set_cons_succ]
        obtain ⟨y0, y1, y2, y3, y4⟩ := nfroz Y.out
        obtain ⟨z0, z1, z2, z3, z4⟩ := ncells Y.out
        refine wpAnyH_ready (rs := [11]) (by kernel_rfl) (by simp) ?_
        refine AllReadyH.cons rfl (fun K hK => ?_) AllReadyH.nil
        go_simp
        refine hK.out _ _ (dD _ (Kd.R_far HR.out (p := ⟨g13, 3, none⟩) (fun k hk => by have := LT.out; have := L5.out; have := L6.out; show k ≠ g13; omega) _)) (fun hHeld => ?_)
        clear hK K
        try simp only [Act.put, List.setIfInBounds_toArray, List.set_cons_zero, List.set_cons_succ]
        replace HB := Aside0.mk (below_set (g := g13) (j := 3) (v := .slice Ah (g.length + 1) ch) HB.out GE.out)
        replace X := Aside0.mk (blk_far X.out (p := ⟨g13, 3, none⟩) NX.out (.slice Ah (g.length + 1) ch))
        replace Z := Aside0.mk (blk_far Z.out (p := ⟨g13, 3, none⟩) NZ.out (.slice Ah (g.length + 1) ch))
        replace Y := Aside0.mk (blk_put Y.out 3 (.slice Ah (g.length + 1) ch) (cs' := #[.slice A0 i.length c0, .slice A1 o.length c1, .slice (some ⟨gf, 0, none⟩) f.length cap, .slice Ah (g.length + 1) ch, .slice A4 s.length c4]) rfl)
        replace HG := Aside0.mk (Kd.N_far HG.out (p := ⟨g13, 3, none⟩) (fun k hk => HGn.out k hk) (.slice Ah (g.length + 1) ch))
        replace HR := Aside0.mk (Kd.R_far HR.out (p := ⟨g13, 3, none⟩) (fun k hk => by have := LT.out; have := L5.out; have := L6.out; show k ≠ g13; omega) (.slice Ah (g.length + 1) ch))
        (try clear y0 y1 y2 y3 y4 z0 z1 z2 z3 z4)
        obtain ⟨y0, y1, y2, y3, y4⟩ := nfroz Y.out
        obtain ⟨z0, z1, z2, z3, z4⟩ := ncells Y.out
        refine wpAnyH_done (by kernel_rfl) ?_ _
        clear hHeld
        obtain ⟨x0, x1, x2, x3, x4⟩ := ncells X.out
        generalize w10.setCell ⟨g13, 3, none⟩ (.slice Ah (g.length + 1) ch) = w11 at *
        obtain ⟨cf, hcl, hM, hcc, hfr⟩ := Kd.R_elem HR.out z44 flop e0 e1
        obtain rfl := k44_openM hM
        have HL := Kd.R_lower HR.out (show w.heap.size ≤ w5.heap.size by have := GE.out; have := LT.out; have := L5.out; omega)
        go_wp2_with (refine Kd.R_store k44 (w0 := w) w.heap.size rfl rfl 3 (.tmp 122) (.tmp 121) rfl 44 flop 3 f (⟨(rd_T44 f flop).f0, (rd_T44 f flop).f1, (rd_T44 f flop).f2, netN i f g, (rd_T44 f flop).f4⟩ : Flp) (.int .i64 (netN i f g)) [.int .i64 (netN i f g)] [.string (rd_T44 f flop).f0, .int .i64 (rd_T44 f flop).f1, .int .i64 (rd_T44 f flop).f2, .int .i64 (rd_T44 f flop).f3, .bool (rd_T44 f flop).f4] (fun k => k = gf) (fun _ => False) rfl rfl rfl rfl (by kernel_rfl) (fun q hq => by simp only [List.mem_singleton] at hq; rw [hq]; rfl) HL e0 e1 hcl hcc (show 3 + 1 ≤ 5 by decide) (k44_mkM _ _ _ (⟨(rd_T44 f flop).f0, (rd_T44 f flop).f1, (rd_T44 f flop).f2, netN i f g, (rd_T44 f flop).f4⟩ : Flp)) (fun _ hk => hk.elim) HB.out ?_; intro w12 hR hb hg; replace HB := Aside0.mk hb; replace X := Aside0.mk (blk_grown X.out hg (fun e => by injection e with e; have := GE.out; have := LT.out; have := L5.out; have := L6.out; omega)); replace Z := Aside0.mk (blk_grown Z.out hg (fun e => by injection e with e; have := GE.out; have := LT.out; have := L5.out; have := L6.out; have := NX.out; omega)); replace Y := Aside0.mk (blk_grown Y.out hg (fun e => by injection e with e; have := LT.out; have := L5.out; have := L6.out; omega)); replace HG := Aside0.mk (Kd.N_grown HG.out hg (fun k hk => hk.2)); have HR2 := Aside0.mk hR; clear hcl hM hcc hfr HL hR hb hg HR x0 x1 x2 x3 x4 y0 y1 y2 y3 y4 z0 z1 z2 z3 z4; obtain ⟨x0, x1, x2, x3, x4⟩ := ncells Z.out; obtain ⟨y0, y1, y2, y3, y4⟩ := nfroz Z.out; obtain ⟨z0, z1, z2, z3, z4⟩ := ncells Y.out)
        refine bodyPost_ret (results_ct rfl _ _ (w.heap.size + 1) 27 #[.slice A0 i.length c0, .slice A1 o.length c1, .slice (some ⟨gf, 0, none⟩) f.length cap, .slice Ah (g.length + 1) ch, .slice A4 s.length c4] (0, 0) _ rfl (nput Z.out _ _ _ _ _) hu27 rfl (by kernel_rfl)) rfl ?_
        have HBf := nput_below (a := .slice A0 i.length c0) (b := .slice A1 o.length c1) (c := .slice (some ⟨gf, 0, none⟩) f.length cap) (d := .slice Ah (g.length + 1) ch) (e := .slice A4 s.length c4) HB.out (Nat.le_succ w.heap.size)
        have HWf := HW.out.below HBf
        have eF : outF i f g flop 1 = f.set flop.toNat (⟨(rd_T44 f flop).f0, (rd_T44 f flop).f1, (rd_T44 f flop).f2, netN i f g, (rd_T44 f flop).f4⟩ : Flp) := by unfold outF; rw [qF]
        have eG : outG f g flop 1 cell = g ++ [(⟨cell, 2, [(rd_T44 f flop).f3]⟩ : Gat)] := by unfold outG; rw [qG]
        have RF := Kd.R_reads' (nfarR HR2.out (g := w.heap.size + 1) (fun k hk => by have := GE.out; have := LT.out; have := L5.out; have := L6.out; have := NZ.out; have := NX.out; omega) (.slice A0 i.length c0) (.slice A1 o.length c1) (.slice (some ⟨gf, 0, none⟩) f.length cap) (.slice Ah (g.length + 1) ch) (.slice A4 s.length c4))
        have NG := Kd.N_reads' (nfarN HG.out (g := w.heap.size + 1) (fun k hk => by have := hk.1; have := GE.out; have := LT.out; have := NZ.out; have := NX.out; omega) (.slice A0 i.length c0) (.slice A1 o.length c1) (.slice (some ⟨gf, 0, none⟩) f.length cap) (.slice Ah (g.length + 1) ch) (.slice A4 s.length c4))
        have lF : (f.set flop.toNat (⟨(rd_T44 f flop).f0, (rd_T44 f flop).f1, (rd_T44 f flop).f2, netN i f g, (rd_T44 f flop).f4⟩ : Flp)).length = f.length := by simp
        have lG : (g ++ [(⟨cell, 2, [(rd_T44 f flop).f3]⟩ : Gat)]).length = g.length + 1 := by simp
        rw [eF, eG]
        refine ⟨⟨some ⟨gf, 0, none⟩, cap, Ah, ch, by rw [lF, lG]; rfl, ⟨HWf.1.1, HWf.1.2.1, RF.2.2, NG.2.2, HWf.1.2.2.2.2⟩, HWf.2.1, HWf.2.2.1, by rw [lF]; exact RF.2.1, by rw [lG]; exact NG.2.1, HWf.2.2.2.2.2⟩, HBf⟩
  · have q1 : (input == 1) = false := by simp; exact hin
    have q2 : decide (input = 1) = false := decide_eq_false hin
    have qF : newF input (rd_T44 f flop) (netN i f g) = (⟨(rd_T44 f flop).f0, (rd_T44 f flop).f1, netN i f g, (rd_T44 f flop).f3, (rd_T44 f flop).f4⟩ : Flp) := by unfold newF; rw [if_neg hin]
    have qG : oldD input (rd_T44 f flop) = (rd_T44 f flop).f2 := by unfold oldD; rw [if_neg hin]
    go_upto_region 16 with (fail)
    clear q1 q2 d1 d2 d2' d3 d4 d4' g1 g2 g2' x0 x1 x2 x3 x4 y0 y1 y2 y3 y4 z0 z1 z2 z3 z4
    generalize (w6.setCell ⟨g13, 3, none⟩ (.slice Ag g.length cg)).setCell ⟨g13, 2, none⟩ (.slice (some ⟨gf, 0, none⟩) f.length cap) = w7 at *
    have LG := Aside0.mk (Kd.N_base HG.out)
    have LK := Aside0.mk HG.out.1
    replace HB := Aside0.mk (below_drew1 HB.out)
    replace X := Aside0.mk (blk_drew X.out)
    replace Z := Aside0.mk (blk_drew Z.out)
    replace Y := Aside0.mk (blk_drew Y.out)
    replace HG := Aside0.mk (Kd.N_drew HG.out)
    replace HR := Aside0.mk (Kd.R_drew HR.out)
    obtain ⟨cf, hcl, hM, hcc, hfr⟩ := Kd.R_elem HR.out z44 flop e0 e1
    obtain rfl := k44_openM hM
    have dD : ∀ w', Kd.R k44 44 w' w5.heap.size (fun k => k = gf) (.slice (some ⟨gf, 0, none⟩) f.length cap) f → w'.cell? ⟨gf, flop.toNat * 5 + 2, none⟩ = some (.int .i64 (rd_T44 f flop).f2) := fun w' h => by
      obtain ⟨cf, hcl, hM, hcc, hfr⟩ := Kd.R_elem h z44 flop e0 e1
      obtain rfl := k44_openM hM
      exact hcc 2 _ rfl
    clear hcl hM hcc hfr
    refine wp_region_held_drew (S := (fun w' : World => w'.cell? ⟨gf, flop.toNat * 5 + 2, none⟩ = some (.int .i64 (rd_T44 f flop).f2))) (by kernel_rfl) (dD _ HR.out) (fun hHeld => ?_)
    generalize w7.drew = w8 at *
    refine wpAnyH_take (i := 0) (oi := _) (v := ?_) rfl (by kernel_rfl) (by kernel_rfl) (by kernel_rfl) (fun _ _ _ h => h) (Or.inl ⟨by rfl, ?_⟩) (by assumption) ?_
    rotate_left
    focus
      intro w' hSw
      (try dsimp only at hSw)
      go_simp
      try with_reducible rfl
    try simp only [Act.put, List.setIfInBounds_toArray, List.set_cons_zero, List.set_cons_succ]
    refine wpAnyH_take (i := 2) (oi := _) (v := ?_) rfl (by kernel_rfl) (by kernel_rfl) (by kernel_rfl) (fun _ _ _ h => h) (Or.inl ⟨by rfl, ?_⟩) (by assumption) ?_
    rotate_left
    focus
      intro w' hSw
      (try dsimp only at hSw)
      go_simp
      try with_reducible rfl
    try simp only [Act.put, List.setIfInBounds_toArray, List.set_cons_zero, List.set_cons_succ]
    refine wpAnyH_take (i := 3) (oi := _) (v := ?_) rfl (by kernel_rfl) (by kernel_rfl) (by kernel_rfl) (fun _ _ _ h => h) (Or.inl ⟨by rfl, ?_⟩) (by assumption) ?_
    rotate_left
    focus
      intro w' hSw
      (try dsimp only at hSw)
      go_simp
      try with_reducible rfl
    try simp only [Act.put, List.setIfInBounds_toArray, List.set_cons_zero, List.set_cons_succ]
    refine wpAnyH_take (i := 4) (oi := _) (v := ?_) rfl (by kernel_rfl) (by kernel_rfl) (by kernel_rfl) (fun _ _ _ h => h) (Or.inl ⟨by rfl, ?_⟩) (by assumption) ?_
    rotate_left
    focus
      intro w' hSw
      (try dsimp only at hSw)
      go_simp
      try with_reducible rfl
    try simp only [Act.put, List.setIfInBounds_toArray, List.set_cons_zero, List.set_cons_succ]
    refine wpAnyH_take (i := 5) (oi := _) (v := ?_) rfl (by kernel_rfl) (by kernel_rfl) (by kernel_rfl) (fun _ _ _ h => h) (Or.inl ⟨by rfl, ?_⟩) (by assumption) ?_
    rotate_left
    focus
      intro w' hSw
      (try dsimp only at hSw)
      go_simp
      try with_reducible rfl
    try simp only [Act.put, List.setIfInBounds_toArray, List.set_cons_zero, List.set_cons_succ]
    (try clear z0 z1 z2 z3 z4)
    obtain ⟨z0, z1, z2, z3, z4⟩ := ncells Y.out
    refine wpAnyH_ready (rs := [1, 6]) (by kernel_rfl) (by simp) ?_
    refine AllReadyH.cons rfl (fun K hK => ?_) (AllReadyH.cons rfl (fun K hK => ?_) AllReadyH.nil)
    · go_simp
      refine hK.out _ _ (dD _ HR.out) (fun hHeld => ?_)
      clear hK K
      try simp only [Act.put, List.setIfInBounds_toArray, List.set_cons_zero, List.set_cons_succ]
      clear z0 z1 z2 z3 z4
      refine wpAnyH_ready (rs := [6]) (by kernel_rfl) (by simp) ?_
      refine AllReadyH.cons rfl (fun K hK => ?_) AllReadyH.nil
      go_simp
      have HR9 := Aside0.mk (Kd.R_alloc HR.out (.cells #[.int .i64 (rd_T44 f flop).f2] 3))
      refine hK.out _ _ (dD _ HR9.out) (fun hHeld => ?_)
      clear hK K
      try simp only [Act.put, List.setIfInBounds_toArray, List.set_cons_zero, List.set_cons_succ]
      replace HB := Aside0.mk (below_alloc HB.out (.cells #[.int .i64 (rd_T44 f flop).f2] 3))
      replace X := Aside0.mk (blk_alloc X.out (.cells #[.int .i64 (rd_T44 f flop).f2] 3))
      replace Z := Aside0.mk (blk_alloc Z.out (.cells #[.int .i64 (rd_T44 f flop).f2] 3))
      replace Y := Aside0.mk (blk_alloc Y.out (.cells #[.int .i64 (rd_T44 f flop).f2] 3))
      have BI := Aside0.mk (blk_new w8 (.cells #[.int .i64 (rd_T44 f flop).f2] 3))
      have LI := Aside0.mk (show gf < w8.heap.size from (Kd.R_lt HR.out) gf rfl)
      have LN := Aside0.mk (Kd.N_lt HG.out)
      have L4 := Aside0.mk (show w4.heap.size ≤ w8.heap.size from by have := LI.out; have := L5.out; have := L6.out; omega)
      replace HG := Aside0.mk (Kd.N_alloc HG.out (.cells #[.int .i64 (rd_T44 f flop).f2] 3))
      clear HR
      have LS := Aside0.mk (blk_lt BI.out)
      generalize w8.heap.size = gi at *
      generalize w8.alloc (.cells #[.int .i64 (rd_T44 f flop).f2] 3) = w9 at *
      refine wpAnyH_take (i := 7) (oi := _) (v := ?_) rfl (by kernel_rfl) (by kernel_rfl) (by kernel_rfl) (fun _ _ _ h => h) (Or.inl ⟨by rfl, ?_⟩) (by assumption) ?_
      rotate_left
      focus
        intro w' hSw
        (try dsimp only at hSw)
        go_simp
        try with_reducible rfl
      try simp only [Act.put, List.setIfInBounds_toArray, List.set_cons_zero, List.set_cons_succ]
      refine wpAnyH_ready (rs := [8]) (by kernel_rfl) (by simp) ?_
      refine AllReadyH.cons rfl (fun K hK => ?_) AllReadyH.nil
      go_simp
      refine hK.out _ _ (dD _ (Kd.R_alloc HR9.out _)) (fun hHeld => ?_)
      clear hK K
      try simp only [Act.put, List.setIfInBounds_toArray, List.set_cons_zero, List.set_cons_succ]
      refine wpAnyH_ready (rs := [9]) (by kernel_rfl) (by simp) ?_
      refine AllReadyH.cons rfl (fun K hK => ?_) AllReadyH.nil
      have hp : Kd.FK k51 w9 (fun k => k = gi) (⟨cell, 2, [(rd_T44 f flop).f2]⟩ : Gat) [.int .i64 cell, .int .u64 2, .slice (some ⟨gi, 0, none⟩) 1 1] := k51_mkF _ _ (⟨cell, 2, [(rd_T44 f flop).f2]⟩ : Gat) (Nat.le_refl 1) (fun W hW => Hnd.rowI [(rd_T44 f flop).f2] ((hW gi rfl LS.out).trans BI.out) rfl (show 1 ≤ 9223372036854775807 by decide))
      have hkp : ∀ k, k = gi → (fun k => (k < w.heap.size ∨ w4.heap.size ≤ k) ∧ some k ≠ (.slice (some ⟨gf, 0, none⟩) f.length cap : Value).ownBlock) k ∧ some k ≠ (.slice Ag g.length cg : Value).ownBlock := fun k hk => by
        subst hk
        refine ⟨⟨.inr L4.out, fun e => ?_⟩, fun e => ?_⟩
        · have : k = gf := by simpa [Value.ownBlock] using e
          have := LI.out
          omega
        · have := LN.out k e.symm
          omega
      have hfr : ∀ k, w9.heap.size ≤ k → (fun k => (k < w.heap.size ∨ w4.heap.size ≤ k) ∧ some k ≠ (.slice (some ⟨gf, 0, none⟩) f.length cap : Value).ownBlock) k := fun k hk => ⟨.inr (by have := L4.out; have := LS.out; omega), fun e => by
        have : k = gf := by simpa [Value.ownBlock] using e
        have := LI.out
        have := LS.out
        omega⟩
      have hgw : w.heap.size ≤ w4.heap.size := by have := GE.out; have := LT.out; omega
      refine Kd.N_append_step k51 (w0 := w) w.heap.size rfl (.tmp 110) (.tmp 117) 24 51 (.agg #[.int .i64 0, .int .u64 0, .slice none 0 0]) 40 rfl Tryd.underlying24 info51 rfl (by decide) (by decide) (.slice Ag g.length cg) g (⟨cell, 2, [(rd_T44 f flop).f2]⟩ : Gat) [.int .i64 cell, .int .u64 2, .slice (some ⟨gi, 0, none⟩) 1 1] (fun k => (k < w.heap.size ∨ w4.heap.size ≤ k) ∧ some k ≠ (.slice (some ⟨gf, 0, none⟩) f.length cap : Value).ownBlock) (fun k => k = gi) rfl rfl hp hkp hfr (Kd.N_lower HG.out hgw) HB.out HB.out.size (by omega) ?_
      intro v3 w10 hN hb hg hat
      obtain ⟨Ah, ch, rfl⟩ := Kd.N_slice hN
      simp only [List.length_append, List.length_singleton] at hN ⊢
      clear hp hkp hfr hat
      have hnf : some gf ≠ (.slice Ag g.length cg : Value).ownBlock := fun e => (LK.out gf e.symm).2 rfl
      have hnk : ∀ k, k < w4.heap.size → some k ≠ (.slice Ag g.length cg : Value).ownBlock := fun k hk e => by
        have := LG.out k e.symm
        omega
      replace HB := Aside0.mk hb
      replace X := Aside0.mk (blk_grown X.out hg (hnk _ (by have := GE.out; have := LT.out; have := NX.out; omega)))
      replace Z := Aside0.mk (blk_grown Z.out hg (hnk _ (by have := GE.out; have := LT.out; have := NX.out; omega)))
      replace Y := Aside0.mk (blk_grown Y.out hg (hnk _ LT.out))
      have HR := Aside0.mk (Kd.R_grown HR9.out hg (fun k hk => by rw [hk]; exact hnf))
      replace HG := Aside0.mk hN
      clear hb hg hN HR9 BI
      try simp only [Act.put, List.setIfInBounds_toArray, List.set_cons_zero, List.set_cons_succ]
      refine hK.out _ _ (dD _ HR.out) (fun hHeld => ?_)
      clear hK K
      try simp only [Act.put, List.setIfInBounds_toArray, List.set_cons_zero, List.set_cons_succ]
      refine wpAnyH_take (i := 10) (oi := _) (v := ?_) rfl (by kernel_rfl) (by kernel_rfl) (by kernel_rfl) (fun _ _ _ h => h) (Or.inl ⟨by rfl, ?_⟩) (by assumption) ?_
      rotate_left
      focus
        intro w' hSw
        (try dsimp only at hSw)
        go_simp
        try with_reducible rfl
      try simp only [Act.put, List.setIfInBounds_toArray, List.set_cons_zero, List.set_cons_succ]
      obtain ⟨y0, y1, y2, y3, y4⟩ := nfroz Y.out
      obtain ⟨z0, z1, z2, z3, z4⟩ := ncells Y.out
      refine wpAnyH_ready (rs := [11]) (by kernel_rfl) (by simp) ?_
      refine AllReadyH.cons rfl (fun K hK => ?_) AllReadyH.nil
      go_simp
      refine hK.out _ _ (dD _ (Kd.R_far HR.out (p := ⟨g13, 3, none⟩) (fun k hk => by have := LT.out; have := L5.out; have := L6.out; show k ≠ g13; omega) _)) (fun hHeld => ?_)
      clear hK K
      try simp only [Act.put, List.setIfInBounds_toArray, List.set_cons_zero, List.set_cons_succ]
      replace HB := Aside0.mk (below_set (g := g13) (j := 3) (v := .slice Ah (g.length + 1) ch) HB.out GE.out)
      replace X := Aside0.mk (blk_far X.out (p := ⟨g13, 3, none⟩) NX.out (.slice Ah (g.length + 1) ch))
      replace Z := Aside0.mk (blk_far Z.out (p := ⟨g13, 3, none⟩) NZ.out (.slice Ah (g.length + 1) ch))
      replace Y := Aside0.mk (blk_put Y.out 3 (.slice Ah (g.length + 1) ch) (cs' := #[.slice A0 i.length c0, .slice A1 o.length c1, .slice (some ⟨gf, 0, none⟩) f.length cap, .slice Ah (g.length + 1) ch, .slice A4 s.length c4]) rfl)
      replace HG := Aside0.mk (Kd.N_far HG.out (p := ⟨g13, 3, none⟩) (fun k hk => HGn.out k hk) (.slice Ah (g.length + 1) ch))
      replace HR := Aside0.mk (Kd.R_far HR.out (p := ⟨g13, 3, none⟩) (fun k hk => by have := LT.out; have := L5.out; have := L6.out; show k ≠ g13; omega) (.slice Ah (g.length + 1) ch))
      (try clear y0 y1 y2 y3 y4 z0 z1 z2 z3 z4)
      obtain ⟨y0, y1, y2, y3, y4⟩ := nfroz Y.out
      obtain ⟨z0, z1, z2, z3, z4⟩ := ncells Y.out
      refine wpAnyH_done (by kernel_rfl) ?_ _
      clear hHeld
      obtain ⟨x0, x1, x2, x3, x4⟩ := ncells X.out
      generalize w10.setCell ⟨g13, 3, none⟩ (.slice Ah (g.length + 1) ch) = w11 at *
      obtain ⟨cf, hcl, hM, hcc, hfr⟩ := Kd.R_elem HR.out z44 flop e0 e1
      obtain rfl := k44_openM hM
      have HL := Kd.R_lower HR.out (show w.heap.size ≤ w5.heap.size by have := GE.out; have := LT.out; have := L5.out; omega)
      go_wp2_with (refine Kd.R_store k44 (w0 := w) w.heap.size rfl rfl 3 (.tmp 122) (.tmp 121) rfl 44 flop 2 f (⟨(rd_T44 f flop).f0, (rd_T44 f flop).f1, netN i f g, (rd_T44 f flop).f3, (rd_T44 f flop).f4⟩ : Flp) (.int .i64 (netN i f g)) [.int .i64 (netN i f g)] [.string (rd_T44 f flop).f0, .int .i64 (rd_T44 f flop).f1, .int .i64 (rd_T44 f flop).f2, .int .i64 (rd_T44 f flop).f3, .bool (rd_T44 f flop).f4] (fun k => k = gf) (fun _ => False) rfl rfl rfl rfl (by kernel_rfl) (fun q hq => by simp only [List.mem_singleton] at hq; rw [hq]; rfl) HL e0 e1 hcl hcc (show 2 + 1 ≤ 5 by decide) (k44_mkM _ _ _ (⟨(rd_T44 f flop).f0, (rd_T44 f flop).f1, netN i f g, (rd_T44 f flop).f3, (rd_T44 f flop).f4⟩ : Flp)) (fun _ hk => hk.elim) HB.out ?_; intro w12 hR hb hg; replace HB := Aside0.mk hb; replace X := Aside0.mk (blk_grown X.out hg (fun e => by injection e with e; have := GE.out; have := LT.out; have := L5.out; have := L6.out; omega)); replace Z := Aside0.mk (blk_grown Z.out hg (fun e => by injection e with e; have := GE.out; have := LT.out; have := L5.out; have := L6.out; have := NX.out; omega)); replace Y := Aside0.mk (blk_grown Y.out hg (fun e => by injection e with e; have := LT.out; have := L5.out; have := L6.out; omega)); replace HG := Aside0.mk (Kd.N_grown HG.out hg (fun k hk => hk.2)); have HR2 := Aside0.mk hR; clear hcl hM hcc hfr HL hR hb hg HR x0 x1 x2 x3 x4 y0 y1 y2 y3 y4 z0 z1 z2 z3 z4; obtain ⟨x0, x1, x2, x3, x4⟩ := ncells Z.out; obtain ⟨y0, y1, y2, y3, y4⟩ := nfroz Z.out; obtain ⟨z0, z1, z2, z3, z4⟩ := ncells Y.out)
      refine bodyPost_ret (results_ct rfl _ _ (w.heap.size + 1) 27 #[.slice A0 i.length c0, .slice A1 o.length c1, .slice (some ⟨gf, 0, none⟩) f.length cap, .slice Ah (g.length + 1) ch, .slice A4 s.length c4] (0, 0) _ rfl (nput Z.out _ _ _ _ _) hu27 rfl (by kernel_rfl)) rfl ?_
      have HBf := nput_below (a := .slice A0 i.length c0) (b := .slice A1 o.length c1) (c := .slice (some ⟨gf, 0, none⟩) f.length cap) (d := .slice Ah (g.length + 1) ch) (e := .slice A4 s.length c4) HB.out (Nat.le_succ w.heap.size)
      have HWf := HW.out.below HBf
      have eF : outF i f g flop input = f.set flop.toNat (⟨(rd_T44 f flop).f0, (rd_T44 f flop).f1, netN i f g, (rd_T44 f flop).f3, (rd_T44 f flop).f4⟩ : Flp) := by unfold outF; rw [qF]
      have eG : outG f g flop input cell = g ++ [(⟨cell, 2, [(rd_T44 f flop).f2]⟩ : Gat)] := by unfold outG; rw [qG]
      have RF := Kd.R_reads' (nfarR HR2.out (g := w.heap.size + 1) (fun k hk => by have := GE.out; have := LT.out; have := L5.out; have := L6.out; have := NZ.out; have := NX.out; omega) (.slice A0 i.length c0) (.slice A1 o.length c1) (.slice (some ⟨gf, 0, none⟩) f.length cap) (.slice Ah (g.length + 1) ch) (.slice A4 s.length c4))
      have NG := Kd.N_reads' (nfarN HG.out (g := w.heap.size + 1) (fun k hk => by have := hk.1; have := GE.out; have := LT.out; have := NZ.out; have := NX.out; omega) (.slice A0 i.length c0) (.slice A1 o.length c1) (.slice (some ⟨gf, 0, none⟩) f.length cap) (.slice Ah (g.length + 1) ch) (.slice A4 s.length c4))
      have lF : (f.set flop.toNat (⟨(rd_T44 f flop).f0, (rd_T44 f flop).f1, netN i f g, (rd_T44 f flop).f3, (rd_T44 f flop).f4⟩ : Flp)).length = f.length := by simp
      have lG : (g ++ [(⟨cell, 2, [(rd_T44 f flop).f2]⟩ : Gat)]).length = g.length + 1 := by simp
      rw [eF, eG]
      refine ⟨⟨some ⟨gf, 0, none⟩, cap, Ah, ch, by rw [lF, lG]; rfl, ⟨HWf.1.1, HWf.1.2.1, RF.2.2, NG.2.2, HWf.1.2.2.2.2⟩, HWf.2.1, HWf.2.2.1, by rw [lF]; exact RF.2.1, by rw [lG]; exact NG.2.1, HWf.2.2.2.2.2⟩, HBf⟩
    · go_simp
      have HR9 := Aside0.mk (Kd.R_alloc HR.out (.cells #[.int .i64 (rd_T44 f flop).f2] 3))
      refine hK.out _ _ (dD _ HR9.out) (fun hHeld => ?_)
      clear hK K
      try simp only [Act.put, List.setIfInBounds_toArray, List.set_cons_zero, List.set_cons_succ]
      replace HB := Aside0.mk (below_alloc HB.out (.cells #[.int .i64 (rd_T44 f flop).f2] 3))
      replace X := Aside0.mk (blk_alloc X.out (.cells #[.int .i64 (rd_T44 f flop).f2] 3))
      replace Z := Aside0.mk (blk_alloc Z.out (.cells #[.int .i64 (rd_T44 f flop).f2] 3))
      replace Y := Aside0.mk (blk_alloc Y.out (.cells #[.int .i64 (rd_T44 f flop).f2] 3))
      have BI := Aside0.mk (blk_new w8 (.cells #[.int .i64 (rd_T44 f flop).f2] 3))
      have LI := Aside0.mk (show gf < w8.heap.size from (Kd.R_lt HR.out) gf rfl)
      have LN := Aside0.mk (Kd.N_lt HG.out)
      have L4 := Aside0.mk (show w4.heap.size ≤ w8.heap.size from by have := LI.out; have := L5.out; have := L6.out; omega)
      replace HG := Aside0.mk (Kd.N_alloc HG.out (.cells #[.int .i64 (rd_T44 f flop).f2] 3))
      clear HR
      have LS := Aside0.mk (blk_lt BI.out)
      generalize w8.heap.size = gi at *
      generalize w8.alloc (.cells #[.int .i64 (rd_T44 f flop).f2] 3) = w9 at *
      refine wpAnyH_take (i := 7) (oi := _) (v := ?_) rfl (by kernel_rfl) (by kernel_rfl) (by kernel_rfl) (fun _ _ _ h => h) (Or.inl ⟨by rfl, ?_⟩) (by assumption) ?_
      rotate_left
      focus
        intro w' hSw
        (try dsimp only at hSw)
        go_simp
        try with_reducible rfl
      try simp only [Act.put, List.setIfInBounds_toArray, List.set_cons_zero, List.set_cons_succ]
      (try clear z0 z1 z2 z3 z4)
      obtain ⟨z0, z1, z2, z3, z4⟩ := ncells Y.out
      refine wpAnyH_ready (rs := [1, 8]) (by kernel_rfl) (by simp) ?_
      refine AllReadyH.cons rfl (fun K hK => ?_) (AllReadyH.cons rfl (fun K hK => ?_) AllReadyH.nil)
      · go_simp
        refine hK.out _ _ (dD _ HR9.out) (fun hHeld => ?_)
        clear hK K
        try simp only [Act.put, List.setIfInBounds_toArray, List.set_cons_zero, List.set_cons_succ]
        clear z0 z1 z2 z3 z4
        refine wpAnyH_ready (rs := [8]) (by kernel_rfl) (by simp) ?_
        refine AllReadyH.cons rfl (fun K hK => ?_) AllReadyH.nil
        go_simp
        refine hK.out _ _ (dD _ (Kd.R_alloc HR9.out _)) (fun hHeld => ?_)
        clear hK K
        try simp only [Act.put, List.setIfInBounds_toArray, List.set_cons_zero, List.set_cons_succ]
        refine wpAnyH_ready (rs := [9]) (by kernel_rfl) (by simp) ?_
        refine AllReadyH.cons rfl (fun K hK => ?_) AllReadyH.nil
        have hp : Kd.FK k51 w9 (fun k => k = gi) (⟨cell, 2, [(rd_T44 f flop).f2]⟩ : Gat) [.int .i64 cell, .int .u64 2, .slice (some ⟨gi, 0, none⟩) 1 1] := k51_mkF _ _ (⟨cell, 2, [(rd_T44 f flop).f2]⟩ : Gat) (Nat.le_refl 1) (fun W hW => Hnd.rowI [(rd_T44 f flop).f2] ((hW gi rfl LS.out).trans BI.out) rfl (show 1 ≤ 9223372036854775807 by decide))
        have hkp : ∀ k, k = gi → (fun k => (k < w.heap.size ∨ w4.heap.size ≤ k) ∧ some k ≠ (.slice (some ⟨gf, 0, none⟩) f.length cap : Value).ownBlock) k ∧ some k ≠ (.slice Ag g.length cg : Value).ownBlock := fun k hk => by
          subst hk
          refine ⟨⟨.inr L4.out, fun e => ?_⟩, fun e => ?_⟩
          · have : k = gf := by simpa [Value.ownBlock] using e
            have := LI.out
            omega
          · have := LN.out k e.symm
            omega
        have hfr : ∀ k, w9.heap.size ≤ k → (fun k => (k < w.heap.size ∨ w4.heap.size ≤ k) ∧ some k ≠ (.slice (some ⟨gf, 0, none⟩) f.length cap : Value).ownBlock) k := fun k hk => ⟨.inr (by have := L4.out; have := LS.out; omega), fun e => by
          have : k = gf := by simpa [Value.ownBlock] using e
          have := LI.out
          have := LS.out
          omega⟩
        have hgw : w.heap.size ≤ w4.heap.size := by have := GE.out; have := LT.out; omega
        refine Kd.N_append_step k51 (w0 := w) w.heap.size rfl (.tmp 110) (.tmp 117) 24 51 (.agg #[.int .i64 0, .int .u64 0, .slice none 0 0]) 40 rfl Tryd.underlying24 info51 rfl (by decide) (by decide) (.slice Ag g.length cg) g (⟨cell, 2, [(rd_T44 f flop).f2]⟩ : Gat) [.int .i64 cell, .int .u64 2, .slice (some ⟨gi, 0, none⟩) 1 1] (fun k => (k < w.heap.size ∨ w4.heap.size ≤ k) ∧ some k ≠ (.slice (some ⟨gf, 0, none⟩) f.length cap : Value).ownBlock) (fun k => k = gi) rfl rfl hp hkp hfr (Kd.N_lower HG.out hgw) HB.out HB.out.size (by omega) ?_
        intro v3 w10 hN hb hg hat
        obtain ⟨Ah, ch, rfl⟩ := Kd.N_slice hN
        simp only [List.length_append, List.length_singleton] at hN ⊢
        clear hp hkp hfr hat
        have hnf : some gf ≠ (.slice Ag g.length cg : Value).ownBlock := fun e => (LK.out gf e.symm).2 rfl
        have hnk : ∀ k, k < w4.heap.size → some k ≠ (.slice Ag g.length cg : Value).ownBlock := fun k hk e => by
          have := LG.out k e.symm
          omega
        replace HB := Aside0.mk hb
        replace X := Aside0.mk (blk_grown X.out hg (hnk _ (by have := GE.out; have := LT.out; have := NX.out; omega)))
        replace Z := Aside0.mk (blk_grown Z.out hg (hnk _ (by have := GE.out; have := LT.out; have := NX.out; omega)))
        replace Y := Aside0.mk (blk_grown Y.out hg (hnk _ LT.out))
        have HR := Aside0.mk (Kd.R_grown HR9.out hg (fun k hk => by rw [hk]; exact hnf))
        replace HG := Aside0.mk hN
        clear hb hg hN HR9 BI
        try simp only [Act.put, List.setIfInBounds_toArray, List.set_cons_zero, List.set_cons_succ]
        refine hK.out _ _ (dD _ HR.out) (fun hHeld => ?_)
        clear hK K
        try simp only [Act.put, List.setIfInBounds_toArray, List.set_cons_zero, List.set_cons_succ]
        refine wpAnyH_take (i := 10) (oi := _) (v := ?_) rfl (by kernel_rfl) (by kernel_rfl) (by kernel_rfl) (fun _ _ _ h => h) (Or.inl ⟨by rfl, ?_⟩) (by assumption) ?_
        rotate_left
        focus
          intro w' hSw
          (try dsimp only at hSw)
          go_simp
          try with_reducible rfl
        try simp only [Act.put, List.setIfInBounds_toArray, List.set_cons_zero, List.set_cons_succ]
        obtain ⟨y0, y1, y2, y3, y4⟩ := nfroz Y.out
        obtain ⟨z0, z1, z2, z3, z4⟩ := ncells Y.out
        refine wpAnyH_ready (rs := [11]) (by kernel_rfl) (by simp) ?_
        refine AllReadyH.cons rfl (fun K hK => ?_) AllReadyH.nil
        go_simp
        refine hK.out _ _ (dD _ (Kd.R_far HR.out (p := ⟨g13, 3, none⟩) (fun k hk => by have := LT.out; have := L5.out; have := L6.out; show k ≠ g13; omega) _)) (fun hHeld => ?_)
        clear hK K
        try simp only [Act.put, List.setIfInBounds_toArray, List.set_cons_zero, List.set_cons_succ]
        replace HB := Aside0.mk (below_set (g := g13) (j := 3) (v := .slice Ah (g.length + 1) ch) HB.out GE.out)
        replace X := Aside0.mk (blk_far X.out (p := ⟨g13, 3, none⟩) NX.out (.slice Ah (g.length + 1) ch))
        replace Z := Aside0.mk (blk_far Z.out (p := ⟨g13, 3, none⟩) NZ.out (.slice Ah (g.length + 1) ch))
        replace Y := Aside0.mk (blk_put Y.out 3 (.slice Ah (g.length + 1) ch) (cs' := #[.slice A0 i.length c0, .slice A1 o.length c1, .slice (some ⟨gf, 0, none⟩) f.length cap, .slice Ah (g.length + 1) ch, .slice A4 s.length c4]) rfl)
        replace HG := Aside0.mk (Kd.N_far HG.out (p := ⟨g13, 3, none⟩) (fun k hk => HGn.out k hk) (.slice Ah (g.length + 1) ch))
        replace HR := Aside0.mk (Kd.R_far HR.out (p := ⟨g13, 3, none⟩) (fun k hk => by have := LT.out; have := L5.out; have := L6.out; show k ≠ g13; omega) (.slice Ah (g.length + 1) ch))
        (try clear y0 y1 y2 y3 y4 z0 z1 z2 z3 z4)
        obtain ⟨y0, y1, y2, y3, y4⟩ := nfroz Y.out
        obtain ⟨z0, z1, z2, z3, z4⟩ := ncells Y.out
        refine wpAnyH_done (by kernel_rfl) ?_ _
        clear hHeld
        obtain ⟨x0, x1, x2, x3, x4⟩ := ncells X.out
        generalize w10.setCell ⟨g13, 3, none⟩ (.slice Ah (g.length + 1) ch) = w11 at *
        obtain ⟨cf, hcl, hM, hcc, hfr⟩ := Kd.R_elem HR.out z44 flop e0 e1
        obtain rfl := k44_openM hM
        have HL := Kd.R_lower HR.out (show w.heap.size ≤ w5.heap.size by have := GE.out; have := LT.out; have := L5.out; omega)
        go_wp2_with (refine Kd.R_store k44 (w0 := w) w.heap.size rfl rfl 3 (.tmp 122) (.tmp 121) rfl 44 flop 2 f (⟨(rd_T44 f flop).f0, (rd_T44 f flop).f1, netN i f g, (rd_T44 f flop).f3, (rd_T44 f flop).f4⟩ : Flp) (.int .i64 (netN i f g)) [.int .i64 (netN i f g)] [.string (rd_T44 f flop).f0, .int .i64 (rd_T44 f flop).f1, .int .i64 (rd_T44 f flop).f2, .int .i64 (rd_T44 f flop).f3, .bool (rd_T44 f flop).f4] (fun k => k = gf) (fun _ => False) rfl rfl rfl rfl (by kernel_rfl) (fun q hq => by simp only [List.mem_singleton] at hq; rw [hq]; rfl) HL e0 e1 hcl hcc (show 2 + 1 ≤ 5 by decide) (k44_mkM _ _ _ (⟨(rd_T44 f flop).f0, (rd_T44 f flop).f1, netN i f g, (rd_T44 f flop).f3, (rd_T44 f flop).f4⟩ : Flp)) (fun _ hk => hk.elim) HB.out ?_; intro w12 hR hb hg; replace HB := Aside0.mk hb; replace X := Aside0.mk (blk_grown X.out hg (fun e => by injection e with e; have := GE.out; have := LT.out; have := L5.out; have := L6.out; omega)); replace Z := Aside0.mk (blk_grown Z.out hg (fun e => by injection e with e; have := GE.out; have := LT.out; have := L5.out; have := L6.out; have := NX.out; omega)); replace Y := Aside0.mk (blk_grown Y.out hg (fun e => by injection e with e; have := LT.out; have := L5.out; have := L6.out; omega)); replace HG := Aside0.mk (Kd.N_grown HG.out hg (fun k hk => hk.2)); have HR2 := Aside0.mk hR; clear hcl hM hcc hfr HL hR hb hg HR x0 x1 x2 x3 x4 y0 y1 y2 y3 y4 z0 z1 z2 z3 z4; obtain ⟨x0, x1, x2, x3, x4⟩ := ncells Z.out; obtain ⟨y0, y1, y2, y3, y4⟩ := nfroz Z.out; obtain ⟨z0, z1, z2, z3, z4⟩ := ncells Y.out)
        refine bodyPost_ret (results_ct rfl _ _ (w.heap.size + 1) 27 #[.slice A0 i.length c0, .slice A1 o.length c1, .slice (some ⟨gf, 0, none⟩) f.length cap, .slice Ah (g.length + 1) ch, .slice A4 s.length c4] (0, 0) _ rfl (nput Z.out _ _ _ _ _) hu27 rfl (by kernel_rfl)) rfl ?_
        have HBf := nput_below (a := .slice A0 i.length c0) (b := .slice A1 o.length c1) (c := .slice (some ⟨gf, 0, none⟩) f.length cap) (d := .slice Ah (g.length + 1) ch) (e := .slice A4 s.length c4) HB.out (Nat.le_succ w.heap.size)
        have HWf := HW.out.below HBf
        have eF : outF i f g flop input = f.set flop.toNat (⟨(rd_T44 f flop).f0, (rd_T44 f flop).f1, netN i f g, (rd_T44 f flop).f3, (rd_T44 f flop).f4⟩ : Flp) := by unfold outF; rw [qF]
        have eG : outG f g flop input cell = g ++ [(⟨cell, 2, [(rd_T44 f flop).f2]⟩ : Gat)] := by unfold outG; rw [qG]
        have RF := Kd.R_reads' (nfarR HR2.out (g := w.heap.size + 1) (fun k hk => by have := GE.out; have := LT.out; have := L5.out; have := L6.out; have := NZ.out; have := NX.out; omega) (.slice A0 i.length c0) (.slice A1 o.length c1) (.slice (some ⟨gf, 0, none⟩) f.length cap) (.slice Ah (g.length + 1) ch) (.slice A4 s.length c4))
        have NG := Kd.N_reads' (nfarN HG.out (g := w.heap.size + 1) (fun k hk => by have := hk.1; have := GE.out; have := LT.out; have := NZ.out; have := NX.out; omega) (.slice A0 i.length c0) (.slice A1 o.length c1) (.slice (some ⟨gf, 0, none⟩) f.length cap) (.slice Ah (g.length + 1) ch) (.slice A4 s.length c4))
        have lF : (f.set flop.toNat (⟨(rd_T44 f flop).f0, (rd_T44 f flop).f1, netN i f g, (rd_T44 f flop).f3, (rd_T44 f flop).f4⟩ : Flp)).length = f.length := by simp
        have lG : (g ++ [(⟨cell, 2, [(rd_T44 f flop).f2]⟩ : Gat)]).length = g.length + 1 := by simp
        rw [eF, eG]
        refine ⟨⟨some ⟨gf, 0, none⟩, cap, Ah, ch, by rw [lF, lG]; rfl, ⟨HWf.1.1, HWf.1.2.1, RF.2.2, NG.2.2, HWf.1.2.2.2.2⟩, HWf.2.1, HWf.2.2.1, by rw [lF]; exact RF.2.1, by rw [lG]; exact NG.2.1, HWf.2.2.2.2.2⟩, HBf⟩
      · go_simp
        refine hK.out _ _ (dD _ (Kd.R_alloc HR9.out _)) (fun hHeld => ?_)
        clear hK K
        try simp only [Act.put, List.setIfInBounds_toArray, List.set_cons_zero, List.set_cons_succ]
        (try clear z0 z1 z2 z3 z4)
        obtain ⟨z0, z1, z2, z3, z4⟩ := ncells (blk_alloc Y.out (.cells #[.int .i64 cell, .int .u64 2, .slice (some ⟨gi, 0, none⟩) 1 1] 51))
        refine wpAnyH_ready (rs := [1]) (by kernel_rfl) (by simp) ?_
        refine AllReadyH.cons rfl (fun K hK => ?_) AllReadyH.nil
        go_simp
        refine hK.out _ _ (dD _ (Kd.R_alloc HR9.out _)) (fun hHeld => ?_)
        clear hK K
        try simp only [Act.put, List.setIfInBounds_toArray, List.set_cons_zero, List.set_cons_succ]
        clear z0 z1 z2 z3 z4
        refine wpAnyH_ready (rs := [9]) (by kernel_rfl) (by simp) ?_
        refine AllReadyH.cons rfl (fun K hK => ?_) AllReadyH.nil
        have hp : Kd.FK k51 w9 (fun k => k = gi) (⟨cell, 2, [(rd_T44 f flop).f2]⟩ : Gat) [.int .i64 cell, .int .u64 2, .slice (some ⟨gi, 0, none⟩) 1 1] := k51_mkF _ _ (⟨cell, 2, [(rd_T44 f flop).f2]⟩ : Gat) (Nat.le_refl 1) (fun W hW => Hnd.rowI [(rd_T44 f flop).f2] ((hW gi rfl LS.out).trans BI.out) rfl (show 1 ≤ 9223372036854775807 by decide))
        have hkp : ∀ k, k = gi → (fun k => (k < w.heap.size ∨ w4.heap.size ≤ k) ∧ some k ≠ (.slice (some ⟨gf, 0, none⟩) f.length cap : Value).ownBlock) k ∧ some k ≠ (.slice Ag g.length cg : Value).ownBlock := fun k hk => by
          subst hk
          refine ⟨⟨.inr L4.out, fun e => ?_⟩, fun e => ?_⟩
          · have : k = gf := by simpa [Value.ownBlock] using e
            have := LI.out
            omega
          · have := LN.out k e.symm
            omega
        have hfr : ∀ k, w9.heap.size ≤ k → (fun k => (k < w.heap.size ∨ w4.heap.size ≤ k) ∧ some k ≠ (.slice (some ⟨gf, 0, none⟩) f.length cap : Value).ownBlock) k := fun k hk => ⟨.inr (by have := L4.out; have := LS.out; omega), fun e => by
          have : k = gf := by simpa [Value.ownBlock] using e
          have := LI.out
          have := LS.out
          omega⟩
        have hgw : w.heap.size ≤ w4.heap.size := by have := GE.out; have := LT.out; omega
        refine Kd.N_append_step k51 (w0 := w) w.heap.size rfl (.tmp 110) (.tmp 117) 24 51 (.agg #[.int .i64 0, .int .u64 0, .slice none 0 0]) 40 rfl Tryd.underlying24 info51 rfl (by decide) (by decide) (.slice Ag g.length cg) g (⟨cell, 2, [(rd_T44 f flop).f2]⟩ : Gat) [.int .i64 cell, .int .u64 2, .slice (some ⟨gi, 0, none⟩) 1 1] (fun k => (k < w.heap.size ∨ w4.heap.size ≤ k) ∧ some k ≠ (.slice (some ⟨gf, 0, none⟩) f.length cap : Value).ownBlock) (fun k => k = gi) rfl rfl hp hkp hfr (Kd.N_lower HG.out hgw) HB.out HB.out.size (by omega) ?_
        intro v3 w10 hN hb hg hat
        obtain ⟨Ah, ch, rfl⟩ := Kd.N_slice hN
        simp only [List.length_append, List.length_singleton] at hN ⊢
        clear hp hkp hfr hat
        have hnf : some gf ≠ (.slice Ag g.length cg : Value).ownBlock := fun e => (LK.out gf e.symm).2 rfl
        have hnk : ∀ k, k < w4.heap.size → some k ≠ (.slice Ag g.length cg : Value).ownBlock := fun k hk e => by
          have := LG.out k e.symm
          omega
        replace HB := Aside0.mk hb
        replace X := Aside0.mk (blk_grown X.out hg (hnk _ (by have := GE.out; have := LT.out; have := NX.out; omega)))
        replace Z := Aside0.mk (blk_grown Z.out hg (hnk _ (by have := GE.out; have := LT.out; have := NX.out; omega)))
        replace Y := Aside0.mk (blk_grown Y.out hg (hnk _ LT.out))
        have HR := Aside0.mk (Kd.R_grown HR9.out hg (fun k hk => by rw [hk]; exact hnf))
        replace HG := Aside0.mk hN
        clear hb hg hN HR9 BI
        try simp only [Act.put, List.setIfInBounds_toArray, List.set_cons_zero, List.set_cons_succ]
        refine hK.out _ _ (dD _ HR.out) (fun hHeld => ?_)
        clear hK K
        try simp only [Act.put, List.setIfInBounds_toArray, List.set_cons_zero, List.set_cons_succ]
        refine wpAnyH_take (i := 10) (oi := _) (v := ?_) rfl (by kernel_rfl) (by kernel_rfl) (by kernel_rfl) (fun _ _ _ h => h) (Or.inl ⟨by rfl, ?_⟩) (by assumption) ?_
        rotate_left
        focus
          intro w' hSw
          (try dsimp only at hSw)
          go_simp
          try with_reducible rfl
        try simp only [Act.put, List.setIfInBounds_toArray, List.set_cons_zero, List.set_cons_succ]
        obtain ⟨y0, y1, y2, y3, y4⟩ := nfroz Y.out
        obtain ⟨z0, z1, z2, z3, z4⟩ := ncells Y.out
        refine wpAnyH_ready (rs := [11]) (by kernel_rfl) (by simp) ?_
        refine AllReadyH.cons rfl (fun K hK => ?_) AllReadyH.nil
        go_simp
        refine hK.out _ _ (dD _ (Kd.R_far HR.out (p := ⟨g13, 3, none⟩) (fun k hk => by have := LT.out; have := L5.out; have := L6.out; show k ≠ g13; omega) _)) (fun hHeld => ?_)
        clear hK K
        try simp only [Act.put, List.setIfInBounds_toArray, List.set_cons_zero, List.set_cons_succ]
        replace HB := Aside0.mk (below_set (g := g13) (j := 3) (v := .slice Ah (g.length + 1) ch) HB.out GE.out)
        replace X := Aside0.mk (blk_far X.out (p := ⟨g13, 3, none⟩) NX.out (.slice Ah (g.length + 1) ch))
        replace Z := Aside0.mk (blk_far Z.out (p := ⟨g13, 3, none⟩) NZ.out (.slice Ah (g.length + 1) ch))
        replace Y := Aside0.mk (blk_put Y.out 3 (.slice Ah (g.length + 1) ch) (cs' := #[.slice A0 i.length c0, .slice A1 o.length c1, .slice (some ⟨gf, 0, none⟩) f.length cap, .slice Ah (g.length + 1) ch, .slice A4 s.length c4]) rfl)
        replace HG := Aside0.mk (Kd.N_far HG.out (p := ⟨g13, 3, none⟩) (fun k hk => HGn.out k hk) (.slice Ah (g.length + 1) ch))
        replace HR := Aside0.mk (Kd.R_far HR.out (p := ⟨g13, 3, none⟩) (fun k hk => by have := LT.out; have := L5.out; have := L6.out; show k ≠ g13; omega) (.slice Ah (g.length + 1) ch))
        (try clear y0 y1 y2 y3 y4 z0 z1 z2 z3 z4)
        obtain ⟨y0, y1, y2, y3, y4⟩ := nfroz Y.out
        obtain ⟨z0, z1, z2, z3, z4⟩ := ncells Y.out
        refine wpAnyH_done (by kernel_rfl) ?_ _
        clear hHeld
        obtain ⟨x0, x1, x2, x3, x4⟩ := ncells X.out
        generalize w10.setCell ⟨g13, 3, none⟩ (.slice Ah (g.length + 1) ch) = w11 at *
        obtain ⟨cf, hcl, hM, hcc, hfr⟩ := Kd.R_elem HR.out z44 flop e0 e1
        obtain rfl := k44_openM hM
        have HL := Kd.R_lower HR.out (show w.heap.size ≤ w5.heap.size by have := GE.out; have := LT.out; have := L5.out; omega)
        go_wp2_with (refine Kd.R_store k44 (w0 := w) w.heap.size rfl rfl 3 (.tmp 122) (.tmp 121) rfl 44 flop 2 f (⟨(rd_T44 f flop).f0, (rd_T44 f flop).f1, netN i f g, (rd_T44 f flop).f3, (rd_T44 f flop).f4⟩ : Flp) (.int .i64 (netN i f g)) [.int .i64 (netN i f g)] [.string (rd_T44 f flop).f0, .int .i64 (rd_T44 f flop).f1, .int .i64 (rd_T44 f flop).f2, .int .i64 (rd_T44 f flop).f3, .bool (rd_T44 f flop).f4] (fun k => k = gf) (fun _ => False) rfl rfl rfl rfl (by kernel_rfl) (fun q hq => by simp only [List.mem_singleton] at hq; rw [hq]; rfl) HL e0 e1 hcl hcc (show 2 + 1 ≤ 5 by decide) (k44_mkM _ _ _ (⟨(rd_T44 f flop).f0, (rd_T44 f flop).f1, netN i f g, (rd_T44 f flop).f3, (rd_T44 f flop).f4⟩ : Flp)) (fun _ hk => hk.elim) HB.out ?_; intro w12 hR hb hg; replace HB := Aside0.mk hb; replace X := Aside0.mk (blk_grown X.out hg (fun e => by injection e with e; have := GE.out; have := LT.out; have := L5.out; have := L6.out; omega)); replace Z := Aside0.mk (blk_grown Z.out hg (fun e => by injection e with e; have := GE.out; have := LT.out; have := L5.out; have := L6.out; have := NX.out; omega)); replace Y := Aside0.mk (blk_grown Y.out hg (fun e => by injection e with e; have := LT.out; have := L5.out; have := L6.out; omega)); replace HG := Aside0.mk (Kd.N_grown HG.out hg (fun k hk => hk.2)); have HR2 := Aside0.mk hR; clear hcl hM hcc hfr HL hR hb hg HR x0 x1 x2 x3 x4 y0 y1 y2 y3 y4 z0 z1 z2 z3 z4; obtain ⟨x0, x1, x2, x3, x4⟩ := ncells Z.out; obtain ⟨y0, y1, y2, y3, y4⟩ := nfroz Z.out; obtain ⟨z0, z1, z2, z3, z4⟩ := ncells Y.out)
        refine bodyPost_ret (results_ct rfl _ _ (w.heap.size + 1) 27 #[.slice A0 i.length c0, .slice A1 o.length c1, .slice (some ⟨gf, 0, none⟩) f.length cap, .slice Ah (g.length + 1) ch, .slice A4 s.length c4] (0, 0) _ rfl (nput Z.out _ _ _ _ _) hu27 rfl (by kernel_rfl)) rfl ?_
        have HBf := nput_below (a := .slice A0 i.length c0) (b := .slice A1 o.length c1) (c := .slice (some ⟨gf, 0, none⟩) f.length cap) (d := .slice Ah (g.length + 1) ch) (e := .slice A4 s.length c4) HB.out (Nat.le_succ w.heap.size)
        have HWf := HW.out.below HBf
        have eF : outF i f g flop input = f.set flop.toNat (⟨(rd_T44 f flop).f0, (rd_T44 f flop).f1, netN i f g, (rd_T44 f flop).f3, (rd_T44 f flop).f4⟩ : Flp) := by unfold outF; rw [qF]
        have eG : outG f g flop input cell = g ++ [(⟨cell, 2, [(rd_T44 f flop).f2]⟩ : Gat)] := by unfold outG; rw [qG]
        have RF := Kd.R_reads' (nfarR HR2.out (g := w.heap.size + 1) (fun k hk => by have := GE.out; have := LT.out; have := L5.out; have := L6.out; have := NZ.out; have := NX.out; omega) (.slice A0 i.length c0) (.slice A1 o.length c1) (.slice (some ⟨gf, 0, none⟩) f.length cap) (.slice Ah (g.length + 1) ch) (.slice A4 s.length c4))
        have NG := Kd.N_reads' (nfarN HG.out (g := w.heap.size + 1) (fun k hk => by have := hk.1; have := GE.out; have := LT.out; have := NZ.out; have := NX.out; omega) (.slice A0 i.length c0) (.slice A1 o.length c1) (.slice (some ⟨gf, 0, none⟩) f.length cap) (.slice Ah (g.length + 1) ch) (.slice A4 s.length c4))
        have lF : (f.set flop.toNat (⟨(rd_T44 f flop).f0, (rd_T44 f flop).f1, netN i f g, (rd_T44 f flop).f3, (rd_T44 f flop).f4⟩ : Flp)).length = f.length := by simp
        have lG : (g ++ [(⟨cell, 2, [(rd_T44 f flop).f2]⟩ : Gat)]).length = g.length + 1 := by simp
        rw [eF, eG]
        refine ⟨⟨some ⟨gf, 0, none⟩, cap, Ah, ch, by rw [lF, lG]; rfl, ⟨HWf.1.1, HWf.1.2.1, RF.2.2, NG.2.2, HWf.1.2.2.2.2⟩, HWf.2.1, HWf.2.2.1, by rw [lF]; exact RF.2.1, by rw [lG]; exact NG.2.1, HWf.2.2.2.2.2⟩, HBf⟩

end Go.Proofs.YtpkpmdmmnhmnlaaDoor.PT
