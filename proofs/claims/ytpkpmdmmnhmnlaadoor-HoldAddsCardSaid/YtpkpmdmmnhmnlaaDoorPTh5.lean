/- maskref4.BufferAdded answers with an error, by hand. Conditions: its arguments' rows are readable. -/
import Derived.Test.YtpkpmdmmnhmnlaaDoorPTh3
import Derived.Test.YtpkpmdmmnhmnlaaDoorPTx69
namespace Go.Proofs.YtpkpmdmmnhmnlaaDoor.PT
open Go.RowKit Go.Proofs.YtpkpmdmmnhmnlaaDoorW.PrintWords Go.Proofs.YtpkpmdmmnhmnlaaDoorW.PrintLast Go.Proofs.YtpkpmdmmnhmnlaaDoorW.PrintMore Go.Proofs.YtpkpmdmmnhmnlaaDoor.Aid
set_option linter.unusedVariables false
set_option linter.unusedSimpArgs false

theorem inV (a c : Int) : maskref4_In.f a 0 c = some (decide (0 ≤ a) && decide (a ≤ c)) := by
  unfold maskref4_In.f
  by_cases h : 0 ≤ a
  · rw [if_pos h, decide_eq_true h, Bool.true_and]
  · rw [if_neg h, decide_eq_false h, Bool.false_and]
theorem takesR_eq (x : Flp) : maskref4_Takes.f x.f0 x.f1 x.f2 x.f3 x.f4 = some (takesV x) := by
  unfold maskref4_Takes.f takesV
  split <;> rfl
theorem takesV_le (x : Flp) : 1 ≤ takesV x ∧ takesV x ≤ 2 := by
  unfold takesV
  split <;> omega
theorem passR_eq (x : Cel) : maskref4_Passes.f x.f0 x.f1 x.f2 x.f3 x.f4 x.f5 x.f6 x.f7 x.f8 x.f9 x.f10 = some (isbV x) := by
  unfold maskref4_Passes.f isbV
  cases x.f1 <;> by_cases h : x.f2 = 1 <;> by_cases h' : x.f3 = 2 <;> simp [h, h']
set_option maxHeartbeats 8000000 in
set_option maxRecDepth 100000 in
theorem buf_err (A0 : Option Addr) (c0 : Nat) (i : List ByteArray) (A1 : Option Addr) (c1 : Nat) (o : List ByteArray) (A2 : Option Addr) (c2 : Nat) (f : List S44) (A3 : Option Addr) (c3 : Nat) (g : List S51) (A4 : Option Addr) (c4 : Nat) (s : List Int) (AL : Option Addr) (cL : Nat) (lb : List S48) (flop input cell : Int) (ce : Int) (k : Nat) (w : World) (hn : NetC w A0 c0 i A1 c1 o A2 c2 f A3 c3 g A4 c4 s) (hl : Kd.C k48 w AL lb.length lb) (hcL : lb.length ≤ cL) (hck : maskref4_NetFault.f k i o f g s lb = some ce) (err : Int) (he : ErrB ce f g lb flop input cell err) :
    Calls Tryd.prog 6 #[.agg #[.slice A0 i.length c0, .slice A1 o.length c1, .slice A2 f.length c2, .slice A3 g.length c3, .slice A4 s.length c4], .slice AL lb.length cL, .int .i64 flop, .int .i64 input, .int .i64 cell] w fun e w' => e = .returned (.tuple #[.agg #[.slice none 0 0, .slice none 0 0, .slice none 0 0, .slice none 0 0, .slice none 0 0], .int .i64 err]) ∧ Below w.heap.size w w' := by
  have hu27 := Tryd.underlying27
  have HB := Aside0.mk (below_alloc (below_alloc (Below.refl w.heap.size w) (.cells #[.slice A0 i.length c0, .slice A1 o.length c1, .slice A2 f.length c2, .slice A3 g.length c3, .slice A4 s.length c4] 27)) (.cells #[.slice none 0 0, .slice none 0 0, .slice none 0 0, .slice none 0 0, .slice none 0 0] 27))
  have X := Aside0.mk (blk_alloc (blk_new w (.cells #[.slice A0 i.length c0, .slice A1 o.length c1, .slice A2 f.length c2, .slice A3 g.length c3, .slice A4 s.length c4] 27)) (.cells #[.slice none 0 0, .slice none 0 0, .slice none 0 0, .slice none 0 0, .slice none 0 0] 27))
  have Z := Aside0.mk (Hnd.blk_new1 w (.cells #[.slice A0 i.length c0, .slice A1 o.length c1, .slice A2 f.length c2, .slice A3 g.length c3, .slice A4 s.length c4] 27) (.cells #[.slice none 0 0, .slice none 0 0, .slice none 0 0, .slice none 0 0, .slice none 0 0] 27))
  have HN := Aside0.mk (hn.below HB.out)
  have HL := Aside0.mk (Kd.C_below hl HB.out)
  have ML := Aside0.mk hcL
  have CK := Aside0.mk hck
  clear hn hl hcL hck
  go_enter Tryd.func6, Tryd.ntmps6
  go_wp2_with fail
  refine (maskref4_NetFault.calls k A0 c0 i A1 c1 o A2 c2 f A3 c3 g A4 c4 s AL cL lb ce _ HN.out.1.1 HN.out.2.1 HN.out.1.2.1 HN.out.2.2.1 HN.out.1.2.2.1 HN.out.2.2.2.1 HN.out.1.2.2.2.1 HN.out.2.2.2.2.1 HN.out.1.2.2.2.2 HN.out.2.2.2.2.2 HL.out ML.out CK.out).mono ?_
  rintro e w1 ⟨rfl, hw⟩
  replace HB := Aside0.mk (below_step HB.out hw)
  replace X := Aside0.mk (blk_below X.out hw)
  replace Z := Aside0.mk (blk_below Z.out hw)
  replace HN := Aside0.mk (HN.out.below hw)
  replace HL := Aside0.mk (Kd.C_below HL.out hw)
  clear hw
  obtain ⟨x0, x1, x2, x3, x4⟩ := ncells X.out
  obtain ⟨z0, z1, z2, z3, z4⟩ := ncells Z.out
  obtain ⟨y0, y1, y2, y3, y4⟩ := nfroz Z.out
  have lf : f.length ≤ 9223372036854775807 := HN.out.1.2.2.1.2.1
  have ll : lb.length ≤ 9223372036854775807 := HL.out.2.1
  have n1 : wrap64 ((f.length : Int) - 1) = (f.length : Int) - 1 := w64 (by omega) (by omega)
  have n3 : wrap64 ((lb.length : Int) - 1) = (lb.length : Int) - 1 := w64 (by omega) (by omega)
  rcases he with ⟨h0, he⟩ | ⟨h0, h1, rfl⟩ | ⟨h0, h1, h2, rfl⟩ | ⟨h0, h1, h2, h3, rfl⟩
  · obtain rfl : err = ce := he
    have q1 : (err == 0) = false := beq_eq_false_iff_ne.mpr h0
    have q2 : (err != 0) = true := bne_iff_ne.mpr h0
    clear h0
    go_wp2
    refine bodyPost_ret (results_ct rfl _ _ (w.heap.size + 1) 27 #[.slice none 0 0, .slice none 0 0, .slice none 0 0, .slice none 0 0, .slice none 0 0] (0, 0) _ rfl (nput Z.out _ _ _ _ _) hu27 rfl (by kernel_rfl)) rfl ?_
    exact ⟨rfl, nput_below HB.out (Nat.le_succ _)⟩
  · subst h0
    by_cases ee : 0 ≤ flop ∧ flop < (f.length : Int)
    · obtain ⟨e0, e1⟩ := ee
      have e3 : ¬ (0 ≤ input ∧ input < takesV (rd_T44 f flop)) := fun e3 => h1 ⟨e0, e1, e3.1, e3.2⟩
      go_wp2_with fail
      refine (maskref4_In.calls flop 0 ((f.length : Int) - 1) true _ ((inV _ _).trans (congrArg some (by simp; omega)))).mono ?_
      rintro e wa ⟨rfl, hw⟩
      (try clear x0 x1 x2 x3 x4 z0 z1 z2 z3 z4 y0 y1 y2 y3 y4)
      replace HB := Aside0.mk (below_step HB.out hw)
      replace X := Aside0.mk (blk_below X.out hw)
      replace Z := Aside0.mk (blk_below Z.out hw)
      replace HN := Aside0.mk (HN.out.below hw)
      replace HL := Aside0.mk (Kd.C_below HL.out hw)
      clear hw
      obtain ⟨x0, x1, x2, x3, x4⟩ := ncells X.out
      obtain ⟨z0, z1, z2, z3, z4⟩ := ncells Z.out
      obtain ⟨y0, y1, y2, y3, y4⟩ := nfroz Z.out
      obtain ⟨ad, rfl, t0, t1, t2, t3, t4⟩ := at_T44 HN.out.1.2.2.1 flop e0 e1
      go_wp2_with fail
      refine (maskref4_Takes.calls _ _ _ _ _ (takesV (rd_T44 f flop)) _ (takesR_eq _)).mono ?_
      rintro e w2 ⟨rfl, hw⟩
      clear t0 t1 t2 t3 t4
      (try clear x0 x1 x2 x3 x4 z0 z1 z2 z3 z4 y0 y1 y2 y3 y4)
      replace HB := Aside0.mk (below_step HB.out hw)
      replace X := Aside0.mk (blk_below X.out hw)
      replace Z := Aside0.mk (blk_below Z.out hw)
      replace HN := Aside0.mk (HN.out.below hw)
      replace HL := Aside0.mk (Kd.C_below HL.out hw)
      clear hw
      obtain ⟨x0, x1, x2, x3, x4⟩ := ncells X.out
      obtain ⟨z0, z1, z2, z3, z4⟩ := ncells Z.out
      obtain ⟨y0, y1, y2, y3, y4⟩ := nfroz Z.out
      have n2 : wrap64 (takesV (rd_T44 f flop) - 1) = takesV (rd_T44 f flop) - 1 := w64 (by have := takesV_le (rd_T44 f flop); omega) (by have := takesV_le (rd_T44 f flop); omega)
      go_wp2_with fail
      refine (maskref4_In.calls input 0 (takesV (rd_T44 f flop) - 1) false _ ((inV _ _).trans (congrArg some (by simp; omega)))).mono ?_
      rintro e wb ⟨rfl, hw⟩
      (try clear x0 x1 x2 x3 x4 z0 z1 z2 z3 z4 y0 y1 y2 y3 y4)
      replace HB := Aside0.mk (below_step HB.out hw)
      replace X := Aside0.mk (blk_below X.out hw)
      replace Z := Aside0.mk (blk_below Z.out hw)
      replace HN := Aside0.mk (HN.out.below hw)
      replace HL := Aside0.mk (Kd.C_below HL.out hw)
      clear hw
      obtain ⟨x0, x1, x2, x3, x4⟩ := ncells X.out
      obtain ⟨z0, z1, z2, z3, z4⟩ := ncells Z.out
      obtain ⟨y0, y1, y2, y3, y4⟩ := nfroz Z.out
      go_wp2
      refine bodyPost_ret (results_ct rfl _ _ (w.heap.size + 1) 27 #[.slice none 0 0, .slice none 0 0, .slice none 0 0, .slice none 0 0, .slice none 0 0] (0, 0) _ rfl (nput Z.out _ _ _ _ _) hu27 rfl (by kernel_rfl)) rfl ?_
      exact ⟨rfl, nput_below HB.out (Nat.le_succ _)⟩
    · skip
      go_wp2_with fail
      refine (maskref4_In.calls flop 0 ((f.length : Int) - 1) false _ ((inV _ _).trans (congrArg some (by simp; omega)))).mono ?_
      rintro e wa ⟨rfl, hw⟩
      (try clear x0 x1 x2 x3 x4 z0 z1 z2 z3 z4 y0 y1 y2 y3 y4)
      replace HB := Aside0.mk (below_step HB.out hw)
      replace X := Aside0.mk (blk_below X.out hw)
      replace Z := Aside0.mk (blk_below Z.out hw)
      replace HN := Aside0.mk (HN.out.below hw)
      replace HL := Aside0.mk (Kd.C_below HL.out hw)
      clear hw
      obtain ⟨x0, x1, x2, x3, x4⟩ := ncells X.out
      obtain ⟨z0, z1, z2, z3, z4⟩ := ncells Z.out
      obtain ⟨y0, y1, y2, y3, y4⟩ := nfroz Z.out
      go_wp2
      refine bodyPost_ret (results_ct rfl _ _ (w.heap.size + 1) 27 #[.slice none 0 0, .slice none 0 0, .slice none 0 0, .slice none 0 0, .slice none 0 0] (0, 0) _ rfl (nput Z.out _ _ _ _ _) hu27 rfl (by kernel_rfl)) rfl ?_
      exact ⟨rfl, nput_below HB.out (Nat.le_succ _)⟩
  · subst h0
    obtain ⟨e0, e1, e2, e3⟩ := h1
    go_wp2_with fail
    refine (maskref4_In.calls flop 0 ((f.length : Int) - 1) true _ ((inV _ _).trans (congrArg some (by simp; omega)))).mono ?_
    rintro e wa ⟨rfl, hw⟩
    (try clear x0 x1 x2 x3 x4 z0 z1 z2 z3 z4 y0 y1 y2 y3 y4)
    replace HB := Aside0.mk (below_step HB.out hw)
    replace X := Aside0.mk (blk_below X.out hw)
    replace Z := Aside0.mk (blk_below Z.out hw)
    replace HN := Aside0.mk (HN.out.below hw)
    replace HL := Aside0.mk (Kd.C_below HL.out hw)
    clear hw
    obtain ⟨x0, x1, x2, x3, x4⟩ := ncells X.out
    obtain ⟨z0, z1, z2, z3, z4⟩ := ncells Z.out
    obtain ⟨y0, y1, y2, y3, y4⟩ := nfroz Z.out
    obtain ⟨ad, rfl, t0, t1, t2, t3, t4⟩ := at_T44 HN.out.1.2.2.1 flop e0 e1
    go_wp2_with fail
    refine (maskref4_Takes.calls _ _ _ _ _ (takesV (rd_T44 f flop)) _ (takesR_eq _)).mono ?_
    rintro e w2 ⟨rfl, hw⟩
    clear t0 t1 t2 t3 t4
    (try clear x0 x1 x2 x3 x4 z0 z1 z2 z3 z4 y0 y1 y2 y3 y4)
    replace HB := Aside0.mk (below_step HB.out hw)
    replace X := Aside0.mk (blk_below X.out hw)
    replace Z := Aside0.mk (blk_below Z.out hw)
    replace HN := Aside0.mk (HN.out.below hw)
    replace HL := Aside0.mk (Kd.C_below HL.out hw)
    clear hw
    obtain ⟨x0, x1, x2, x3, x4⟩ := ncells X.out
    obtain ⟨z0, z1, z2, z3, z4⟩ := ncells Z.out
    obtain ⟨y0, y1, y2, y3, y4⟩ := nfroz Z.out
    have n2 : wrap64 (takesV (rd_T44 f flop) - 1) = takesV (rd_T44 f flop) - 1 := w64 (by have := takesV_le (rd_T44 f flop); omega) (by have := takesV_le (rd_T44 f flop); omega)
    go_wp2_with fail
    refine (maskref4_In.calls input 0 (takesV (rd_T44 f flop) - 1) true _ ((inV _ _).trans (congrArg some (by simp; omega)))).mono ?_
    rintro e wb ⟨rfl, hw⟩
    (try clear x0 x1 x2 x3 x4 z0 z1 z2 z3 z4 y0 y1 y2 y3 y4)
    replace HB := Aside0.mk (below_step HB.out hw)
    replace X := Aside0.mk (blk_below X.out hw)
    replace Z := Aside0.mk (blk_below Z.out hw)
    replace HN := Aside0.mk (HN.out.below hw)
    replace HL := Aside0.mk (Kd.C_below HL.out hw)
    clear hw
    obtain ⟨x0, x1, x2, x3, x4⟩ := ncells X.out
    obtain ⟨z0, z1, z2, z3, z4⟩ := ncells Z.out
    obtain ⟨y0, y1, y2, y3, y4⟩ := nfroz Z.out
    by_cases bb : 0 ≤ cell ∧ cell < (lb.length : Int)
    · obtain ⟨b0, b1⟩ := bb
      have hb : isbV (rd_T48 lb cell) = false := by
        cases hb : isbV (rd_T48 lb cell) with
        | true => exact absurd ⟨b0, b1, hb⟩ h2
        | false => rfl
      go_wp2_with fail
      refine (maskref4_In.calls cell 0 ((lb.length : Int) - 1) true _ ((inV _ _).trans (congrArg some (by simp; omega)))).mono ?_
      rintro e wc ⟨rfl, hw⟩
      (try clear x0 x1 x2 x3 x4 z0 z1 z2 z3 z4 y0 y1 y2 y3 y4)
      replace HB := Aside0.mk (below_step HB.out hw)
      replace X := Aside0.mk (blk_below X.out hw)
      replace Z := Aside0.mk (blk_below Z.out hw)
      replace HN := Aside0.mk (HN.out.below hw)
      replace HL := Aside0.mk (Kd.C_below HL.out hw)
      clear hw
      obtain ⟨x0, x1, x2, x3, x4⟩ := ncells X.out
      obtain ⟨z0, z1, z2, z3, z4⟩ := ncells Z.out
      obtain ⟨y0, y1, y2, y3, y4⟩ := nfroz Z.out
      obtain ⟨ab, A5, c5, A6, c6, A7, c7, rfl, u0, u1, u2, u3, u4, u5, u6, u7, u8, u9, u10, l5, r5, l6, r6, l7, r7⟩ := at_T48 HL.out cell b0 b1
      go_wp2_with fail
      refine (maskref4_Passes.calls _ _ _ _ _ A5 c5 _ A6 c6 _ A7 c7 _ _ _ _ false _ r5 l5 r6 l6 r7 l7 ((passR_eq _).trans (congrArg some hb))).mono ?_
      rintro e w3 ⟨rfl, hw⟩
      clear u0 u1 u2 u3 u4 u5 u6 u7 u8 u9 u10 l5 r5 l6 r6 l7 r7
      (try clear x0 x1 x2 x3 x4 z0 z1 z2 z3 z4 y0 y1 y2 y3 y4)
      replace HB := Aside0.mk (below_step HB.out hw)
      replace X := Aside0.mk (blk_below X.out hw)
      replace Z := Aside0.mk (blk_below Z.out hw)
      replace HN := Aside0.mk (HN.out.below hw)
      replace HL := Aside0.mk (Kd.C_below HL.out hw)
      clear hw
      obtain ⟨x0, x1, x2, x3, x4⟩ := ncells X.out
      obtain ⟨z0, z1, z2, z3, z4⟩ := ncells Z.out
      obtain ⟨y0, y1, y2, y3, y4⟩ := nfroz Z.out
      go_wp2
      refine bodyPost_ret (results_ct rfl _ _ (w.heap.size + 1) 27 #[.slice none 0 0, .slice none 0 0, .slice none 0 0, .slice none 0 0, .slice none 0 0] (0, 0) _ rfl (nput Z.out _ _ _ _ _) hu27 rfl (by kernel_rfl)) rfl ?_
      exact ⟨rfl, nput_below HB.out (Nat.le_succ _)⟩
    · skip
      go_wp2_with fail
      refine (maskref4_In.calls cell 0 ((lb.length : Int) - 1) false _ ((inV _ _).trans (congrArg some (by simp; omega)))).mono ?_
      rintro e wc ⟨rfl, hw⟩
      (try clear x0 x1 x2 x3 x4 z0 z1 z2 z3 z4 y0 y1 y2 y3 y4)
      replace HB := Aside0.mk (below_step HB.out hw)
      replace X := Aside0.mk (blk_below X.out hw)
      replace Z := Aside0.mk (blk_below Z.out hw)
      replace HN := Aside0.mk (HN.out.below hw)
      replace HL := Aside0.mk (Kd.C_below HL.out hw)
      clear hw
      obtain ⟨x0, x1, x2, x3, x4⟩ := ncells X.out
      obtain ⟨z0, z1, z2, z3, z4⟩ := ncells Z.out
      obtain ⟨y0, y1, y2, y3, y4⟩ := nfroz Z.out
      go_wp2
      refine bodyPost_ret (results_ct rfl _ _ (w.heap.size + 1) 27 #[.slice none 0 0, .slice none 0 0, .slice none 0 0, .slice none 0 0, .slice none 0 0] (0, 0) _ rfl (nput Z.out _ _ _ _ _) hu27 rfl (by kernel_rfl)) rfl ?_
      exact ⟨rfl, nput_below HB.out (Nat.le_succ _)⟩
  · subst h0
    obtain ⟨e0, e1, e2, e3⟩ := h1
    obtain ⟨b0, b1, hb⟩ := h2
    go_wp2_with fail
    refine (maskref4_In.calls flop 0 ((f.length : Int) - 1) true _ ((inV _ _).trans (congrArg some (by simp; omega)))).mono ?_
    rintro e wa ⟨rfl, hw⟩
    (try clear x0 x1 x2 x3 x4 z0 z1 z2 z3 z4 y0 y1 y2 y3 y4)
    replace HB := Aside0.mk (below_step HB.out hw)
    replace X := Aside0.mk (blk_below X.out hw)
    replace Z := Aside0.mk (blk_below Z.out hw)
    replace HN := Aside0.mk (HN.out.below hw)
    replace HL := Aside0.mk (Kd.C_below HL.out hw)
    clear hw
    obtain ⟨x0, x1, x2, x3, x4⟩ := ncells X.out
    obtain ⟨z0, z1, z2, z3, z4⟩ := ncells Z.out
    obtain ⟨y0, y1, y2, y3, y4⟩ := nfroz Z.out
    obtain ⟨ad, rfl, t0, t1, t2, t3, t4⟩ := at_T44 HN.out.1.2.2.1 flop e0 e1
    go_wp2_with fail
    refine (maskref4_Takes.calls _ _ _ _ _ (takesV (rd_T44 f flop)) _ (takesR_eq _)).mono ?_
    rintro e w2 ⟨rfl, hw⟩
    clear t0 t1 t2 t3 t4
    (try clear x0 x1 x2 x3 x4 z0 z1 z2 z3 z4 y0 y1 y2 y3 y4)
    replace HB := Aside0.mk (below_step HB.out hw)
    replace X := Aside0.mk (blk_below X.out hw)
    replace Z := Aside0.mk (blk_below Z.out hw)
    replace HN := Aside0.mk (HN.out.below hw)
    replace HL := Aside0.mk (Kd.C_below HL.out hw)
    clear hw
    obtain ⟨x0, x1, x2, x3, x4⟩ := ncells X.out
    obtain ⟨z0, z1, z2, z3, z4⟩ := ncells Z.out
    obtain ⟨y0, y1, y2, y3, y4⟩ := nfroz Z.out
    have n2 : wrap64 (takesV (rd_T44 f flop) - 1) = takesV (rd_T44 f flop) - 1 := w64 (by have := takesV_le (rd_T44 f flop); omega) (by have := takesV_le (rd_T44 f flop); omega)
    go_wp2_with fail
    refine (maskref4_In.calls input 0 (takesV (rd_T44 f flop) - 1) true _ ((inV _ _).trans (congrArg some (by simp; omega)))).mono ?_
    rintro e wb ⟨rfl, hw⟩
    (try clear x0 x1 x2 x3 x4 z0 z1 z2 z3 z4 y0 y1 y2 y3 y4)
    replace HB := Aside0.mk (below_step HB.out hw)
    replace X := Aside0.mk (blk_below X.out hw)
    replace Z := Aside0.mk (blk_below Z.out hw)
    replace HN := Aside0.mk (HN.out.below hw)
    replace HL := Aside0.mk (Kd.C_below HL.out hw)
    clear hw
    obtain ⟨x0, x1, x2, x3, x4⟩ := ncells X.out
    obtain ⟨z0, z1, z2, z3, z4⟩ := ncells Z.out
    obtain ⟨y0, y1, y2, y3, y4⟩ := nfroz Z.out
    go_wp2_with fail
    refine (maskref4_In.calls cell 0 ((lb.length : Int) - 1) true _ ((inV _ _).trans (congrArg some (by simp; omega)))).mono ?_
    rintro e wc ⟨rfl, hw⟩
    (try clear x0 x1 x2 x3 x4 z0 z1 z2 z3 z4 y0 y1 y2 y3 y4)
    replace HB := Aside0.mk (below_step HB.out hw)
    replace X := Aside0.mk (blk_below X.out hw)
    replace Z := Aside0.mk (blk_below Z.out hw)
    replace HN := Aside0.mk (HN.out.below hw)
    replace HL := Aside0.mk (Kd.C_below HL.out hw)
    clear hw
    obtain ⟨x0, x1, x2, x3, x4⟩ := ncells X.out
    obtain ⟨z0, z1, z2, z3, z4⟩ := ncells Z.out
    obtain ⟨y0, y1, y2, y3, y4⟩ := nfroz Z.out
    obtain ⟨ab, A5, c5, A6, c6, A7, c7, rfl, u0, u1, u2, u3, u4, u5, u6, u7, u8, u9, u10, l5, r5, l6, r6, l7, r7⟩ := at_T48 HL.out cell b0 b1
    go_wp2_with fail
    refine (maskref4_Passes.calls _ _ _ _ _ A5 c5 _ A6 c6 _ A7 c7 _ _ _ _ true _ r5 l5 r6 l6 r7 l7 ((passR_eq _).trans (congrArg some hb))).mono ?_
    rintro e w3 ⟨rfl, hw⟩
    clear u0 u1 u2 u3 u4 u5 u6 u7 u8 u9 u10 l5 r5 l6 r6 l7 r7
    (try clear x0 x1 x2 x3 x4 z0 z1 z2 z3 z4 y0 y1 y2 y3 y4)
    replace HB := Aside0.mk (below_step HB.out hw)
    replace X := Aside0.mk (blk_below X.out hw)
    replace Z := Aside0.mk (blk_below Z.out hw)
    replace HN := Aside0.mk (HN.out.below hw)
    replace HL := Aside0.mk (Kd.C_below HL.out hw)
    clear hw
    obtain ⟨x0, x1, x2, x3, x4⟩ := ncells X.out
    obtain ⟨z0, z1, z2, z3, z4⟩ := ncells Z.out
    obtain ⟨y0, y1, y2, y3, y4⟩ := nfroz Z.out
    have s1 : wrap64 ((g.length : Int) + (f.length : Int)) = 300 := by rw [w64 (by omega) (by omega)]; omega
    go_wp2
    refine bodyPost_ret (results_ct rfl _ _ (w.heap.size + 1) 27 #[.slice none 0 0, .slice none 0 0, .slice none 0 0, .slice none 0 0, .slice none 0 0] (0, 0) _ rfl (nput Z.out _ _ _ _ _) hu27 rfl (by kernel_rfl)) rfl ?_
    exact ⟨rfl, nput_below HB.out (Nat.le_succ _)⟩
end Go.Proofs.YtpkpmdmmnhmnlaaDoor.PT
