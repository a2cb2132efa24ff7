/- maskref4.BufferAdded puts the buffer in, by hand. Conditions: its arguments' rows are readable. -/
import Derived.Test.YtpkpmdmmnhmnlaaDoorPTh5
import Derived.Test.YtpkpmdmmnhmnlaaDoorPTx91
namespace Go.Proofs.YtpkpmdmmnhmnlaaDoor.PT
open Go.RowKit Go.Proofs.YtpkpmdmmnhmnlaaDoorW.PrintWords Go.Proofs.YtpkpmdmmnhmnlaaDoorW.PrintLast Go.Proofs.YtpkpmdmmnhmnlaaDoorW.PrintMore Go.Proofs.YtpkpmdmmnhmnlaaDoor.Aid
set_option linter.unusedVariables false
set_option linter.unusedSimpArgs false

def KPt (w5 W : World) (a b gf : Nat) (v : Value) : Prop := ∀ k, a ≤ k → k < b → k ≠ gf → some k ≠ v.ownBlock → k < W.heap.size ∧ W.heap[k]? = w5.heap[k]?
section
variable {w5 W W1 : World} {a b gf : Nat} {v : Value}
theorem kp_drew (h : KPt w5 W a b gf v) : KPt w5 W.drew a b gf v := h
theorem kp_alloc (h : KPt w5 W a b gf v) (o : Obj) : KPt w5 (W.alloc o) a b gf v := fun k h1 h2 h3 h4 =>
  ⟨Nat.lt_of_lt_of_le (h k h1 h2 h3 h4).1 (below_alloc (Below.refl _ _) _).size, (Below.heap_alloc W o k (h k h1 h2 h3 h4).1).trans (h k h1 h2 h3 h4).2⟩
theorem kp_grown (h : KPt w5 W a b gf v) {row : Option Nat} (hg : W.grownBy W1 row) (hne : ∀ k, a ≤ k → k < b → k ≠ gf → some k ≠ v.ownBlock → some k ≠ row) : KPt w5 W1 a b gf v := fun k h1 h2 h3 h4 => by
  have q := hg.block k (h k h1 h2 h3 h4).1 (hne k h1 h2 h3 h4)
  exact ⟨heap_lt q (h k h1 h2 h3 h4).1, q.trans (h k h1 h2 h3 h4).2⟩
theorem kp_set (h : KPt w5 W a b gf v) {p : Addr} (hne : ∀ k, a ≤ k → k < b → k ≠ p.block) (u : Value) : KPt w5 (W.setCell p u) a b gf v := fun k h1 h2 h3 h4 => by
  have q := Below.heap_setCell W p u k (hne k h1 h2)
  exact ⟨heap_lt q (h k h1 h2 h3 h4).1, q.trans (h k h1 h2 h3 h4).2⟩
end
set_option maxHeartbeats 20000000 in
set_option maxRecDepth 100000 in
theorem buf_ok0 (A0 : Option Addr) (c0 : Nat) (i : List ByteArray) (A1 : Option Addr) (c1 : Nat) (o : List ByteArray) (A2 : Option Addr) (c2 : Nat) (f : List S44) (A3 : Option Addr) (c3 : Nat) (g : List S51) (A4 : Option Addr) (c4 : Nat) (s : List Int) (AL : Option Addr) (cL : Nat) (lb : List S48) (flop input cell : Int) (ce : Int) (k : Nat) (w : World) (hn : NetC w A0 c0 i A1 c1 o A2 c2 f A3 c3 g A4 c4 s) (hl : Kd.C k48 w AL lb.length lb) (hcL : lb.length ≤ cL) (hin : input = 0) (hck : maskref4_NetFault.f k i o f g s lb = some ce) (k2 : Nat) (hcp : netlist_Copy.f k2 i o f g s = some (i, o, f, g, s)) (h0 : ce = 0) (h1 : EndB f flop input) (h2 : CelB lb cell) (h3 : g.length + f.length < 300) :
    Calls Tryd.prog 6 #[.agg #[.slice A0 i.length c0, .slice A1 o.length c1, .slice A2 f.length c2, .slice A3 g.length c3, .slice A4 s.length c4], .slice AL lb.length cL, .int .i64 flop, .int .i64 input, .int .i64 cell] w fun e w' => (∃ A0 c0 A1 c1 A2 c2 A3 c3 A4 c4, e = .returned (.tuple #[.agg #[.slice A0 i.length c0, .slice A1 o.length c1, .slice A2 (outF i f g flop input).length c2, .slice A3 (outG f g flop input cell).length c3, .slice A4 s.length c4], .int .i64 0]) ∧ NetC w' A0 c0 i A1 c1 o A2 c2 (outF i f g flop input) A3 c3 (outG f g flop input cell) A4 c4 s) ∧ Below w.heap.size w w' := by
  have HI0 := Aside0.mk hin
  clear hin
  have hu27 := Tryd.underlying27
  have HB := Aside0.mk (below_alloc (below_alloc (Below.refl w.heap.size w) (.cells #[.slice A0 i.length c0, .slice A1 o.length c1, .slice A2 f.length c2, .slice A3 g.length c3, .slice A4 s.length c4] 27)) (.cells #[.slice none 0 0, .slice none 0 0, .slice none 0 0, .slice none 0 0, .slice none 0 0] 27))
  have X := Aside0.mk (blk_alloc (blk_new w (.cells #[.slice A0 i.length c0, .slice A1 o.length c1, .slice A2 f.length c2, .slice A3 g.length c3, .slice A4 s.length c4] 27)) (.cells #[.slice none 0 0, .slice none 0 0, .slice none 0 0, .slice none 0 0, .slice none 0 0] 27))
  have Z := Aside0.mk (Hnd.blk_new1 w (.cells #[.slice A0 i.length c0, .slice A1 o.length c1, .slice A2 f.length c2, .slice A3 g.length c3, .slice A4 s.length c4] 27) (.cells #[.slice none 0 0, .slice none 0 0, .slice none 0 0, .slice none 0 0, .slice none 0 0] 27))
  have HN := Aside0.mk (hn.below HB.out)
  have HL := Aside0.mk (Kd.C_below hl HB.out)
  have ML := Aside0.mk hcL
  have CK := Aside0.mk hck
  have HF := Aside0.mk (Kd.C_F k51_heap hn.1.2.2.2.1)
  clear hn hl hcL hck
  go_enter Tryd.func6, Tryd.ntmps6
  go_wp2_with fail
  refine (maskref4_NetFault.calls k A0 c0 i A1 c1 o A2 c2 f A3 c3 g A4 c4 s AL cL lb ce _ HN.out.1.1 HN.out.2.1 HN.out.1.2.1 HN.out.2.2.1 HN.out.1.2.2.1 HN.out.2.2.2.1 HN.out.1.2.2.2.1 HN.out.2.2.2.2.1 HN.out.1.2.2.2.2 HN.out.2.2.2.2.2 HL.out ML.out CK.out).mono ?_
  rintro e w1 ⟨rfl, hw⟩
  replace HB := Aside0.mk (below_step HB.out hw)
  replace X := Aside0.mk (blk_below X.out hw)
  replace Z := Aside0.mk (blk_below Z.out hw)
  replace HN := Aside0.mk (HN.out.below hw)
  replace HL := Aside0.mk (Kd.C_below HL.out hw)
  clear hw
  obtain ⟨x0, x1, x2, x3, x4⟩ := ncells X.out
  obtain ⟨z0, z1, z2, z3, z4⟩ := ncells Z.out
  obtain ⟨y0, y1, y2, y3, y4⟩ := nfroz Z.out
  have lf : f.length ≤ 9223372036854775807 := HN.out.1.2.2.1.2.1
  have ll : lb.length ≤ 9223372036854775807 := HL.out.2.1
  have n1 : wrap64 ((f.length : Int) - 1) = (f.length : Int) - 1 := w64 (by omega) (by omega)
  have n3 : wrap64 ((lb.length : Int) - 1) = (lb.length : Int) - 1 := w64 (by omega) (by omega)
  subst h0
  obtain ⟨e0, e1, e2, e3⟩ := h1
  obtain ⟨b0, b1, hb⟩ := h2
  go_wp2_with fail
  refine (maskref4_In.calls flop 0 ((f.length : Int) - 1) true _ ((inV _ _).trans (congrArg some (by simp; omega)))).mono ?_
  rintro e wa ⟨rfl, hw⟩
  (try clear x0 x1 x2 x3 x4 z0 z1 z2 z3 z4 y0 y1 y2 y3 y4)
  replace HB := Aside0.mk (below_step HB.out hw)
  replace X := Aside0.mk (blk_below X.out hw)
  replace Z := Aside0.mk (blk_below Z.out hw)
  replace HN := Aside0.mk (HN.out.below hw)
  replace HL := Aside0.mk (Kd.C_below HL.out hw)
  clear hw
  obtain ⟨x0, x1, x2, x3, x4⟩ := ncells X.out
  obtain ⟨z0, z1, z2, z3, z4⟩ := ncells Z.out
  obtain ⟨y0, y1, y2, y3, y4⟩ := nfroz Z.out
  obtain ⟨ad, rfl, t0, t1, t2, t3, t4⟩ := at_T44 HN.out.1.2.2.1 flop e0 e1
  go_wp2_with fail
  refine (maskref4_Takes.calls _ _ _ _ _ (takesV (rd_T44 f flop)) _ (takesR_eq _)).mono ?_
  rintro e w2 ⟨rfl, hw⟩
  clear t0 t1 t2 t3 t4
  (try clear x0 x1 x2 x3 x4 z0 z1 z2 z3 z4 y0 y1 y2 y3 y4)
  replace HB := Aside0.mk (below_step HB.out hw)
  replace X := Aside0.mk (blk_below X.out hw)
  replace Z := Aside0.mk (blk_below Z.out hw)
  replace HN := Aside0.mk (HN.out.below hw)
  replace HL := Aside0.mk (Kd.C_below HL.out hw)
  clear hw
  obtain ⟨x0, x1, x2, x3, x4⟩ := ncells X.out
  obtain ⟨z0, z1, z2, z3, z4⟩ := ncells Z.out
  obtain ⟨y0, y1, y2, y3, y4⟩ := nfroz Z.out
  have n2 : wrap64 (takesV (rd_T44 f flop) - 1) = takesV (rd_T44 f flop) - 1 := w64 (by have := takesV_le (rd_T44 f flop); omega) (by have := takesV_le (rd_T44 f flop); omega)
  go_wp2_with fail
  refine (maskref4_In.calls input 0 (takesV (rd_T44 f flop) - 1) true _ ((inV _ _).trans (congrArg some (by simp; omega)))).mono ?_
  rintro e wb ⟨rfl, hw⟩
  (try clear x0 x1 x2 x3 x4 z0 z1 z2 z3 z4 y0 y1 y2 y3 y4)
  replace HB := Aside0.mk (below_step HB.out hw)
  replace X := Aside0.mk (blk_below X.out hw)
  replace Z := Aside0.mk (blk_below Z.out hw)
  replace HN := Aside0.mk (HN.out.below hw)
  replace HL := Aside0.mk (Kd.C_below HL.out hw)
  clear hw
  obtain ⟨x0, x1, x2, x3, x4⟩ := ncells X.out
  obtain ⟨z0, z1, z2, z3, z4⟩ := ncells Z.out
  obtain ⟨y0, y1, y2, y3, y4⟩ := nfroz Z.out
  go_wp2_with fail
  refine (maskref4_In.calls cell 0 ((lb.length : Int) - 1) true _ ((inV _ _).trans (congrArg some (by simp; omega)))).mono ?_
  rintro e wc ⟨rfl, hw⟩
  (try clear x0 x1 x2 x3 x4 z0 z1 z2 z3 z4 y0 y1 y2 y3 y4)
  replace HB := Aside0.mk (below_step HB.out hw)
  replace X := Aside0.mk (blk_below X.out hw)
  replace Z := Aside0.mk (blk_below Z.out hw)
  replace HN := Aside0.mk (HN.out.below hw)
  replace HL := Aside0.mk (Kd.C_below HL.out hw)
  clear hw
  obtain ⟨x0, x1, x2, x3, x4⟩ := ncells X.out
  obtain ⟨z0, z1, z2, z3, z4⟩ := ncells Z.out
  obtain ⟨y0, y1, y2, y3, y4⟩ := nfroz Z.out
  obtain ⟨ab, A5, c5, A6, c6, A7, c7, rfl, u0, u1, u2, u3, u4, u5, u6, u7, u8, u9, u10, l5, r5, l6, r6, l7, r7⟩ := at_T48 HL.out cell b0 b1
  go_wp2_with fail
  refine (maskref4_Passes.calls _ _ _ _ _ A5 c5 _ A6 c6 _ A7 c7 _ _ _ _ true _ r5 l5 r6 l6 r7 l7 ((passR_eq _).trans (congrArg some hb))).mono ?_
  rintro e w3 ⟨rfl, hw⟩
  clear u0 u1 u2 u3 u4 u5 u6 u7 u8 u9 u10 l5 r5 l6 r6 l7 r7
  (try clear x0 x1 x2 x3 x4 z0 z1 z2 z3 z4 y0 y1 y2 y3 y4)
  replace HB := Aside0.mk (below_step HB.out hw)
  replace X := Aside0.mk (blk_below X.out hw)
  replace Z := Aside0.mk (blk_below Z.out hw)
  replace HN := Aside0.mk (HN.out.below hw)
  replace HL := Aside0.mk (Kd.C_below HL.out hw)
  clear hw
  obtain ⟨x0, x1, x2, x3, x4⟩ := ncells X.out
  obtain ⟨z0, z1, z2, z3, z4⟩ := ncells Z.out
  obtain ⟨y0, y1, y2, y3, y4⟩ := nfroz Z.out
  clear n1 n2 n3
  have s3 : decide ((g.length : Int) + (f.length : Int) ≥ 300) = false := decide_eq_false (by omega)
  have s2 : decide (300 ≤ (g.length : Int) + (f.length : Int)) = false := decide_eq_false (by omega)
  have s1 : wrap64 ((g.length : Int) + (f.length : Int)) = (g.length : Int) + (f.length : Int) := w64 (by omega) (by omega)
  replace HF := Aside0.mk (Kd.F_below HF.out HB.out)
  go_wp2_with fail
  clear s1 s2 s3
  have hGE : w.heap.size + 1 < w3.heap.size := blk_lt Z.out
  refine (netlist_Copy.calls k2 A0 c0 i A1 c1 o (some ad) c2 f (fun k_ => k_ < w.heap.size) A3 c3 g A4 c4 s i o f g s _ HN.out.1.1 HN.out.2.1 HN.out.1.2.1 HN.out.2.2.1 HN.out.1.2.2.1 HN.out.2.2.2.1 (Kd.V_mk HN.out.2.2.2.2.1 HF.out) HN.out.1.2.2.2.2 HN.out.2.2.2.2.2 hcp).mono ?_
  rintro e w5 ⟨v0, v1, v2, v3, v4, rfl, hI, hO, hR, hN, hS, hw⟩
  obtain ⟨Ai, ci, rfl⟩ := Kd.R_slice hI
  obtain ⟨Ao, co, rfl⟩ := Kd.R_slice hO
  obtain ⟨As, cs, rfl⟩ := Kd.R_slice hS
  obtain ⟨Ag, cg, rfl⟩ := Kd.N_slice hN
  obtain ⟨gf, cap, rfl, hgf, hgl, -⟩ := Kd.N_form (Kd.R_N hR) (by omega)
  have FI := Aside0.mk (show Kd.F Kd.string w5 (fun k => (w3.heap.size ≤ k ∧ k < w5.heap.size) ∧ k ≠ gf ∧ some k ≠ (.slice Ag g.length cg : Value).ownBlock) Ai i.length i from Kd.R_F (Kd.R_mono (ok' := (fun k => (w3.heap.size ≤ k ∧ k < w5.heap.size) ∧ k ≠ gf ∧ some k ≠ (.slice Ag g.length cg : Value).ownBlock)) (Kd.R_bound (Kd.R_apart' (Kd.R_apart' hI (Kd.R_typed hR) (by decide)) (Kd.N_typed hN) (by decide))) (fun k hk => ⟨⟨hk.2.1, hk.2.2.1⟩, fun e => hk.1.1.2 (by rw [e]; rfl), hk.1.2⟩)))
  have CFI := Aside0.mk (Kd.R_reads' hI).2.1
  have FO := Aside0.mk (show Kd.F Kd.string w5 (fun k => (w3.heap.size ≤ k ∧ k < w5.heap.size) ∧ k ≠ gf ∧ some k ≠ (.slice Ag g.length cg : Value).ownBlock) Ao o.length o from Kd.R_F (Kd.R_mono (ok' := (fun k => (w3.heap.size ≤ k ∧ k < w5.heap.size) ∧ k ≠ gf ∧ some k ≠ (.slice Ag g.length cg : Value).ownBlock)) (Kd.R_bound (Kd.R_apart' (Kd.R_apart' hO (Kd.R_typed hR) (by decide)) (Kd.N_typed hN) (by decide))) (fun k hk => ⟨⟨hk.2.1, hk.2.2.1⟩, fun e => hk.1.1.2 (by rw [e]; rfl), hk.1.2⟩)))
  have CFO := Aside0.mk (Kd.R_reads' hO).2.1
  have FS := Aside0.mk (show Kd.F (Kd.int .i64) w5 (fun k => (w3.heap.size ≤ k ∧ k < w5.heap.size) ∧ k ≠ gf ∧ some k ≠ (.slice Ag g.length cg : Value).ownBlock) As s.length s from Kd.R_F (Kd.R_mono (ok' := (fun k => (w3.heap.size ≤ k ∧ k < w5.heap.size) ∧ k ≠ gf ∧ some k ≠ (.slice Ag g.length cg : Value).ownBlock)) (Kd.R_bound (Kd.R_apart' (Kd.R_apart' hS (Kd.R_typed hR) (by decide)) (Kd.N_typed hN) (by decide))) (fun k hk => ⟨⟨hk.2.1, hk.2.2.1⟩, fun e => hk.1.1.2 (by rw [e]; rfl), hk.1.2⟩)))
  have CFS := Aside0.mk (Kd.R_reads' hS).2.1
  have LNg := Aside0.mk (Kd.N_lt hN)
  have HG := Aside0.mk (Kd.N_alloc (Kd.N_mono (Kd.N_bound hN) (ok' := (fun k => (k < w.heap.size ∨ (w3.heap.size ≤ k ∧ k ≠ w5.heap.size)) ∧ some k ≠ (.slice (some ⟨gf, 0, none⟩) f.length cap : Value).ownBlock)) (fun k hk => ⟨hk.1.1.elim .inl (fun h => .inr ⟨h, Nat.ne_of_lt hk.2⟩), hk.1.2.2.2.1⟩)) (.cells #[.slice Ai i.length ci, .slice Ao o.length co, .slice (some ⟨gf, 0, none⟩) f.length cap, .slice Ag g.length cg, .slice As s.length cs] 27))
  have HR := Aside0.mk (Kd.R_alloc (Kd.R_mono (Kd.R_tight rfl hR) (ok' := fun k => k = gf) (fun k hk => by simpa [Value.ownBlock] using hk)) (.cells #[.slice Ai i.length ci, .slice Ao o.length co, .slice (some ⟨gf, 0, none⟩) f.length cap, .slice Ag g.length cg, .slice As s.length cs] 27))
  have GE := Aside0.mk hGE
  have LT := Aside0.mk hgl
  have L6 := Aside0.mk hgf
  have L5 := Aside0.mk (show w.heap.size + 1 < gf by omega)
  have NX := Aside0.mk (show w.heap.size ≠ w5.heap.size by omega)
  have NZ := Aside0.mk (show w.heap.size + 1 ≠ w5.heap.size by omega)
  have HGn := Aside0.mk (show ∀ k, (fun k => (k < w.heap.size ∨ (w3.heap.size ≤ k ∧ k ≠ w5.heap.size)) ∧ some k ≠ (.slice (some ⟨gf, 0, none⟩) f.length cap : Value).ownBlock) k → k ≠ w5.heap.size from fun k hk => by have := hk.1; omega)
  have KP := Aside0.mk (show KPt w5 (w5.alloc (.cells #[.slice Ai i.length ci, .slice Ao o.length co, .slice (some ⟨gf, 0, none⟩) f.length cap, .slice Ag g.length cg, .slice As s.length cs] 27)) w3.heap.size w5.heap.size gf (.slice Ag g.length cg) from fun k h1 h2 h3 h4 => ⟨Nat.lt_of_lt_of_le h2 (below_alloc (Below.refl _ _) _).size, Below.heap_alloc w5 _ k h2⟩)
  replace HB := Aside0.mk (below_alloc (below_step HB.out hw) (.cells #[.slice Ai i.length ci, .slice Ao o.length co, .slice (some ⟨gf, 0, none⟩) f.length cap, .slice Ag g.length cg, .slice As s.length cs] 27))
  replace X := Aside0.mk (blk_alloc (blk_below X.out hw) (.cells #[.slice Ai i.length ci, .slice Ao o.length co, .slice (some ⟨gf, 0, none⟩) f.length cap, .slice Ag g.length cg, .slice As s.length cs] 27))
  replace Z := Aside0.mk (blk_alloc (blk_below Z.out hw) (.cells #[.slice Ai i.length ci, .slice Ao o.length co, .slice (some ⟨gf, 0, none⟩) f.length cap, .slice Ag g.length cg, .slice As s.length cs] 27))
  have Y := Aside0.mk (blk_new w5 (.cells #[.slice Ai i.length ci, .slice Ao o.length co, .slice (some ⟨gf, 0, none⟩) f.length cap, .slice Ag g.length cg, .slice As s.length cs] 27))
  clear hw hI hO hS hN hR hgf hgl hGE HF HL HN ML CK x0 x1 x2 x3 x4 z0 z1 z2 z3 z4 y0 y1 y2 y3 y4
  go_upto_region 11 with (fail)
  generalize hg13 : w5.heap.size = g13 at *
  generalize (w5.alloc (.cells #[.slice Ai i.length ci, .slice Ao o.length co, .slice (some ⟨gf, 0, none⟩) f.length cap, .slice Ag g.length cg, .slice As s.length cs] 27)) = w7 at *
  clear hg13
  obtain ⟨x0, x1, x2, x3, x4⟩ := ncells X.out
  obtain ⟨z0, z1, z2, z3, z4⟩ := ncells Y.out
  obtain rfl : input = 0 := HI0.out
  have q1 : ((0 : Int) == 0) = true := rfl
  have q2 : decide ((0 : Int) = 0) = true := rfl
  have qF : newF 0 (rd_T44 f flop) (netN i f g) = (⟨(rd_T44 f flop).f0, (rd_T44 f flop).f1, netN i f g, (rd_T44 f flop).f3, (rd_T44 f flop).f4⟩ : Flp) := by unfold newF; rw [if_neg (by decide)]
  have qG : oldD 0 (rd_T44 f flop) = (rd_T44 f flop).f2 := by unfold oldD; rw [if_neg (by decide)]
  go_upto_region 14 with (fail)
  clear q1 q2 x0 x1 x2 x3 x4 z0 z1 z2 z3 z4
  have LG := Aside0.mk (Kd.N_base HG.out)
  have LK := Aside0.mk HG.out.1
  replace HB := Aside0.mk (below_drew1 HB.out)
  replace X := Aside0.mk (blk_drew X.out); replace KP := Aside0.mk (kp_drew KP.out)
  replace Z := Aside0.mk (blk_drew Z.out)
  replace Y := Aside0.mk (blk_drew Y.out)
  replace HG := Aside0.mk (Kd.N_drew HG.out)
  replace HR := Aside0.mk (Kd.R_drew HR.out)
  obtain ⟨cf, hcl, hM, hcc, hfr⟩ := Kd.R_elem HR.out z44 flop e0 e1
  obtain rfl := k44_openM hM
  have dD : ∀ w', Kd.R k44 44 w' w3.heap.size (fun k => k = gf) (.slice (some ⟨gf, 0, none⟩) f.length cap) f → w'.cell? ⟨gf, flop.toNat * 5 + 2, none⟩ = some (.int .i64 (rd_T44 f flop).f2) := fun w' h => by
    obtain ⟨cf, hcl, hM, hcc, hfr⟩ := Kd.R_elem h z44 flop e0 e1
    obtain rfl := k44_openM hM
    exact hcc 2 _ rfl
  clear hcl hM hcc hfr
  refine wp_region_held_drew (S := (fun w' : World => w'.cell? ⟨gf, flop.toNat * 5 + 2, none⟩ = some (.int .i64 (rd_T44 f flop).f2))) (by kernel_rfl) (dD _ HR.out) (fun hHeld => ?_)
  generalize w7.drew = w8 at *
  have LY := Aside0.mk (blk_lt Y.out)
  refine wpAnyH_take (i := 0) (oi := _) (v := ?_) rfl (by kernel_rfl) (by kernel_rfl) (by kernel_rfl) (fun _ _ _ h => h) (Or.inl ⟨by rfl, ?_⟩) (by assumption) ?_
  rotate_left
  focus
    intro w' hSw
    (try dsimp only at hSw)
    go_simp
    try with_reducible rfl
  try simp only [Act.put, List.setIfInBounds_toArray, List.set_cons_zero, List.set_cons_succ]
  refine wpAnyH_take (i := 2) (oi := _) (v := ?_) rfl (by kernel_rfl) (by kernel_rfl) (by kernel_rfl) (fun _ _ _ h => h) (Or.inl ⟨by rfl, ?_⟩) (by assumption) ?_
  rotate_left
  focus
    intro w' hSw
    (try dsimp only at hSw)
    go_simp
    try with_reducible rfl
  try simp only [Act.put, List.setIfInBounds_toArray, List.set_cons_zero, List.set_cons_succ]
  refine wpAnyH_take (i := 3) (oi := _) (v := ?_) rfl (by kernel_rfl) (by kernel_rfl) (by kernel_rfl) (fun _ _ _ h => h) (Or.inl ⟨by rfl, ?_⟩) (by assumption) ?_
  rotate_left
  focus
    intro w' hSw
    (try dsimp only at hSw)
    go_simp
    try with_reducible rfl
  try simp only [Act.put, List.setIfInBounds_toArray, List.set_cons_zero, List.set_cons_succ]
  refine wpAnyH_take (i := 4) (oi := _) (v := ?_) rfl (by kernel_rfl) (by kernel_rfl) (by kernel_rfl) (fun _ _ _ h => h) (Or.inl ⟨by rfl, ?_⟩) (by assumption) ?_
  rotate_left
  focus
    intro w' hSw
    (try dsimp only at hSw)
    go_simp
    try with_reducible rfl
  try simp only [Act.put, List.setIfInBounds_toArray, List.set_cons_zero, List.set_cons_succ]
  refine wpAnyH_take (i := 5) (oi := _) (v := ?_) rfl (by kernel_rfl) (by kernel_rfl) (by kernel_rfl) (fun _ _ _ h => h) (Or.inl ⟨by rfl, ?_⟩) (by assumption) ?_
  rotate_left
  focus
    intro w' hSw
    (try dsimp only at hSw)
    go_simp
    try with_reducible rfl
  try simp only [Act.put, List.setIfInBounds_toArray, List.set_cons_zero, List.set_cons_succ]
  refine wpAnyH_take (i := 6) (oi := _) (v := ?_) rfl (by kernel_rfl) (by kernel_rfl) (by kernel_rfl) (fun _ _ _ h => h) (Or.inl ⟨by rfl, ?_⟩) (by assumption) ?_
  rotate_left
  focus
    intro w' hSw
    (try dsimp only at hSw)
    go_simp
    try with_reducible rfl
  try simp only [Act.put, List.setIfInBounds_toArray, List.set_cons_zero, List.set_cons_succ]
  (try clear z0 z1 z2 z3 z4)
  obtain ⟨z0, z1, z2, z3, z4⟩ := ncells Y.out
  refine wpAnyH_ready (rs := [1, 7]) (by kernel_rfl) (by simp) ?_
  refine AllReadyH.cons rfl (fun K hK => ?_) (AllReadyH.cons rfl (fun K hK => ?_) AllReadyH.nil)
  · go_simp
    refine hK.out _ _ (dD _ HR.out) (fun hHeld => ?_)
    clear hK K
    try simp only [Act.put, List.setIfInBounds_toArray, List.set_cons_zero, List.set_cons_succ]
    clear z0 z1 z2 z3 z4
    refine wpAnyH_ready (rs := [7]) (by kernel_rfl) (by simp) ?_
    refine AllReadyH.cons rfl (fun K hK => ?_) AllReadyH.nil
    go_simp
    have HR9 := Aside0.mk (Kd.R_alloc HR.out (.cells #[.int .i64 (rd_T44 f flop).f2] 3))
    refine hK.out _ _ (dD _ HR9.out) (fun hHeld => ?_)
    clear hK K
    try simp only [Act.put, List.setIfInBounds_toArray, List.set_cons_zero, List.set_cons_succ]
    replace HB := Aside0.mk (below_alloc HB.out (.cells #[.int .i64 (rd_T44 f flop).f2] 3))
    replace X := Aside0.mk (blk_alloc X.out (.cells #[.int .i64 (rd_T44 f flop).f2] 3))
    replace KP := Aside0.mk (kp_alloc KP.out (.cells #[.int .i64 (rd_T44 f flop).f2] 3))
    replace Z := Aside0.mk (blk_alloc Z.out (.cells #[.int .i64 (rd_T44 f flop).f2] 3))
    replace Y := Aside0.mk (blk_alloc Y.out (.cells #[.int .i64 (rd_T44 f flop).f2] 3))
    have BI := Aside0.mk (blk_new w8 (.cells #[.int .i64 (rd_T44 f flop).f2] 3))
    have LI := Aside0.mk (show gf < w8.heap.size from (Kd.R_lt HR.out) gf rfl)
    have LN := Aside0.mk (Kd.N_lt HG.out)
    have L4 := Aside0.mk (show w3.heap.size ≤ w8.heap.size ∧ w8.heap.size ≠ g13 from by have := LI.out; have := L6.out; have := LY.out; omega)
    replace HG := Aside0.mk (Kd.N_alloc HG.out (.cells #[.int .i64 (rd_T44 f flop).f2] 3))
    clear HR
    have LS := Aside0.mk (blk_lt BI.out)
    generalize w8.heap.size = gi at *
    generalize w8.alloc (.cells #[.int .i64 (rd_T44 f flop).f2] 3) = w9 at *
    refine wpAnyH_take (i := 8) (oi := _) (v := ?_) rfl (by kernel_rfl) (by kernel_rfl) (by kernel_rfl) (fun _ _ _ h => h) (Or.inl ⟨by rfl, ?_⟩) (by assumption) ?_
    rotate_left
    focus
      intro w' hSw
      (try dsimp only at hSw)
      go_simp
      try with_reducible rfl
    try simp only [Act.put, List.setIfInBounds_toArray, List.set_cons_zero, List.set_cons_succ]
    refine wpAnyH_ready (rs := [9]) (by kernel_rfl) (by simp) ?_
    refine AllReadyH.cons rfl (fun K hK => ?_) AllReadyH.nil
    go_simp
    refine hK.out _ _ (dD _ (Kd.R_alloc HR9.out _)) (fun hHeld => ?_)
    clear hK K
    try simp only [Act.put, List.setIfInBounds_toArray, List.set_cons_zero, List.set_cons_succ]
    refine wpAnyH_ready (rs := [10]) (by kernel_rfl) (by simp) ?_
    refine AllReadyH.cons rfl (fun K hK => ?_) AllReadyH.nil
    have hp : Kd.FK k51 w9 (fun k => k = gi) (⟨cell, 2, [(rd_T44 f flop).f2]⟩ : Gat) [.int .i64 cell, .int .u64 2, .slice (some ⟨gi, 0, none⟩) 1 1] := k51_mkF _ _ (⟨cell, 2, [(rd_T44 f flop).f2]⟩ : Gat) (Nat.le_refl 1) (fun W hW => Hnd.rowI [(rd_T44 f flop).f2] ((hW gi rfl LS.out).trans BI.out) rfl (show 1 ≤ 9223372036854775807 by decide))
    have hkp : ∀ k, k = gi → (fun k => (k < w.heap.size ∨ (w3.heap.size ≤ k ∧ k ≠ g13)) ∧ some k ≠ (.slice (some ⟨gf, 0, none⟩) f.length cap : Value).ownBlock) k ∧ some k ≠ (.slice Ag g.length cg : Value).ownBlock := fun k hk => by
      subst hk
      refine ⟨⟨.inr L4.out, fun e => ?_⟩, fun e => ?_⟩
      · have : k = gf := by simpa [Value.ownBlock] using e
        have := LI.out
        omega
      · have := LN.out k e.symm
        omega
    have hfr : ∀ k, w9.heap.size ≤ k → (fun k => (k < w.heap.size ∨ (w3.heap.size ≤ k ∧ k ≠ g13)) ∧ some k ≠ (.slice (some ⟨gf, 0, none⟩) f.length cap : Value).ownBlock) k := fun k hk => ⟨.inr (by have := L4.out; have := LS.out; have := LY.out; omega), fun e => by
      have : k = gf := by simpa [Value.ownBlock] using e
      have := LI.out
      have := LS.out
      omega⟩
    have hgw : w.heap.size ≤ w3.heap.size := by have := GE.out; have := LT.out; omega
    refine Kd.N_append_step k51 (w0 := w) w.heap.size rfl (.tmp 88) (.tmp 96) 24 51 (.agg #[.int .i64 0, .int .u64 0, .slice none 0 0]) 40 rfl Tryd.underlying24 info51 rfl (by decide) (by decide) (.slice Ag g.length cg) g (⟨cell, 2, [(rd_T44 f flop).f2]⟩ : Gat) [.int .i64 cell, .int .u64 2, .slice (some ⟨gi, 0, none⟩) 1 1] (fun k => (k < w.heap.size ∨ (w3.heap.size ≤ k ∧ k ≠ g13)) ∧ some k ≠ (.slice (some ⟨gf, 0, none⟩) f.length cap : Value).ownBlock) (fun k => k = gi) rfl rfl hp hkp hfr (Kd.N_lower HG.out hgw) HB.out HB.out.size (by omega) ?_
    intro v3 w10 hN hb hg hat
    obtain ⟨Ah, ch, rfl⟩ := Kd.N_slice hN
    simp only [List.length_append, List.length_singleton] at hN ⊢
    clear hp hkp hfr hat
    have hnf : some gf ≠ (.slice Ag g.length cg : Value).ownBlock := fun e => (LK.out gf e.symm).2 rfl
    have hnk : ∀ k, k < w3.heap.size → some k ≠ (.slice Ag g.length cg : Value).ownBlock := fun k hk e => by
      have := LG.out k e.symm
      omega
    replace HB := Aside0.mk hb
    replace X := Aside0.mk (blk_grown X.out hg (hnk _ (by have := GE.out; have := LT.out; have := NX.out; omega)))
    replace KP := Aside0.mk (kp_grown KP.out hg (fun k h1 h2 h3 h4 => h4))
    replace Z := Aside0.mk (blk_grown Z.out hg (hnk _ (by have := GE.out; have := LT.out; have := NX.out; omega)))
    replace Y := Aside0.mk (blk_grown Y.out hg (fun e => absurd (LNg.out _ e.symm) (Nat.lt_irrefl _)))
    have HR := Aside0.mk (Kd.R_grown HR9.out hg (fun k hk => by rw [hk]; exact hnf))
    replace HG := Aside0.mk hN
    clear hb hg hN HR9 BI
    try simp only [Act.put, List.setIfInBounds_toArray, List.set_cons_zero, List.set_cons_succ]
    refine hK.out _ _ (dD _ HR.out) (fun hHeld => ?_)
    clear hK K
    try simp only [Act.put, List.setIfInBounds_toArray, List.set_cons_zero, List.set_cons_succ]
    refine wpAnyH_take (i := 11) (oi := _) (v := ?_) rfl (by kernel_rfl) (by kernel_rfl) (by kernel_rfl) (fun _ _ _ h => h) (Or.inl ⟨by rfl, ?_⟩) (by assumption) ?_
    rotate_left
    focus
      intro w' hSw
      (try dsimp only at hSw)
      go_simp
      try with_reducible rfl
    try simp only [Act.put, List.setIfInBounds_toArray, List.set_cons_zero, List.set_cons_succ]
    obtain ⟨y0, y1, y2, y3, y4⟩ := nfroz Y.out
    obtain ⟨z0, z1, z2, z3, z4⟩ := ncells Y.out
    refine wpAnyH_ready (rs := [12]) (by kernel_rfl) (by simp) ?_
    refine AllReadyH.cons rfl (fun K hK => ?_) AllReadyH.nil
    go_simp
    refine hK.out _ _ (dD _ (Kd.R_far HR.out (p := ⟨g13, 3, none⟩) (fun k hk => by have := LT.out; have := L5.out; have := L6.out; show k ≠ g13; omega) _)) (fun hHeld => ?_)
    clear hK K
    try simp only [Act.put, List.setIfInBounds_toArray, List.set_cons_zero, List.set_cons_succ]
    replace HB := Aside0.mk (below_set (g := g13) (j := 3) (v := .slice Ah (g.length + 1) ch) HB.out (by have := GE.out; have := LT.out; have := L6.out; omega))
    replace X := Aside0.mk (blk_far X.out (p := ⟨g13, 3, none⟩) NX.out (.slice Ah (g.length + 1) ch))
    replace KP := Aside0.mk (kp_set KP.out (p := ⟨g13, 3, none⟩) (fun k h1 h2 => Nat.ne_of_lt h2) (.slice Ah (g.length + 1) ch))
    replace Z := Aside0.mk (blk_far Z.out (p := ⟨g13, 3, none⟩) NZ.out (.slice Ah (g.length + 1) ch))
    replace Y := Aside0.mk (blk_put Y.out 3 (.slice Ah (g.length + 1) ch) (cs' := #[.slice Ai i.length ci, .slice Ao o.length co, .slice (some ⟨gf, 0, none⟩) f.length cap, .slice Ah (g.length + 1) ch, .slice As s.length cs]) rfl)
    replace HG := Aside0.mk (Kd.N_far HG.out (p := ⟨g13, 3, none⟩) (fun k hk => HGn.out k hk) (.slice Ah (g.length + 1) ch))
    replace HR := Aside0.mk (Kd.R_far HR.out (p := ⟨g13, 3, none⟩) (fun k hk => by have := LT.out; have := L5.out; have := L6.out; show k ≠ g13; omega) (.slice Ah (g.length + 1) ch))
    (try clear y0 y1 y2 y3 y4 z0 z1 z2 z3 z4)
    obtain ⟨y0, y1, y2, y3, y4⟩ := nfroz Y.out
    obtain ⟨z0, z1, z2, z3, z4⟩ := ncells Y.out
    refine wpAnyH_done (by kernel_rfl) ?_ _
    clear hHeld
    obtain ⟨x0, x1, x2, x3, x4⟩ := ncells X.out
    generalize w10.setCell ⟨g13, 3, none⟩ (.slice Ah (g.length + 1) ch) = w11 at *
    obtain ⟨cf, hcl, hM, hcc, hfr⟩ := Kd.R_elem HR.out z44 flop e0 e1
    obtain rfl := k44_openM hM
    have HL := Kd.R_lower HR.out (show w.heap.size ≤ w3.heap.size by have := GE.out; have := LT.out; have := L5.out; omega)
    go_wp2_with (refine Kd.R_store k44 (w0 := w) w.heap.size rfl rfl 3 (.tmp 102) (.tmp 100) rfl 44 flop 2 f (⟨(rd_T44 f flop).f0, (rd_T44 f flop).f1, netN i f g, (rd_T44 f flop).f3, (rd_T44 f flop).f4⟩ : Flp) (.int .i64 (netN i f g)) [.int .i64 (netN i f g)] [.string (rd_T44 f flop).f0, .int .i64 (rd_T44 f flop).f1, .int .i64 (rd_T44 f flop).f2, .int .i64 (rd_T44 f flop).f3, .bool (rd_T44 f flop).f4] (fun k => k = gf) (fun _ => False) rfl rfl rfl rfl (by kernel_rfl) (fun q hq => by simp only [List.mem_singleton] at hq; rw [hq]; rfl) HL e0 e1 hcl hcc (show 2 + 1 ≤ 5 by decide) (k44_mkM _ _ _ (⟨(rd_T44 f flop).f0, (rd_T44 f flop).f1, netN i f g, (rd_T44 f flop).f3, (rd_T44 f flop).f4⟩ : Flp)) (fun _ hk => hk.elim) HB.out ?_; intro w12 hR hb hg; replace HB := Aside0.mk hb; replace KP := Aside0.mk (kp_grown KP.out hg (fun k h1 h2 h3 h4 e => by injection e with e; exact h3 e)); replace X := Aside0.mk (blk_grown X.out hg (fun e => by injection e with e; have := GE.out; have := LT.out; have := L5.out; have := L6.out; omega)); replace Z := Aside0.mk (blk_grown Z.out hg (fun e => by injection e with e; have := GE.out; have := LT.out; have := L5.out; have := L6.out; have := NX.out; omega)); replace Y := Aside0.mk (blk_grown Y.out hg (fun e => by injection e with e; have := LT.out; have := L5.out; have := L6.out; omega)); replace HG := Aside0.mk (Kd.N_grown HG.out hg (fun k hk => hk.2)); have HR2 := Aside0.mk hR; clear hcl hM hcc hfr HL hR hb hg HR x0 x1 x2 x3 x4 y0 y1 y2 y3 y4 z0 z1 z2 z3 z4; obtain ⟨x0, x1, x2, x3, x4⟩ := ncells Z.out; obtain ⟨y0, y1, y2, y3, y4⟩ := nfroz Z.out; obtain ⟨z0, z1, z2, z3, z4⟩ := ncells Y.out)
    refine bodyPost_ret (results_ct rfl _ _ (w.heap.size + 1) 27 #[.slice Ai i.length ci, .slice Ao o.length co, .slice (some ⟨gf, 0, none⟩) f.length cap, .slice Ah (g.length + 1) ch, .slice As s.length cs] (0, 0) _ rfl (nput Z.out _ _ _ _ _) hu27 rfl (by kernel_rfl)) rfl ?_
    have HBf := nput_below (a := .slice Ai i.length ci) (b := .slice Ao o.length co) (c := .slice (some ⟨gf, 0, none⟩) f.length cap) (d := .slice Ah (g.length + 1) ch) (e := .slice As s.length cs) HB.out (Nat.le_succ w.heap.size)
    have KPf := kp_set (kp_set (kp_set (kp_set (kp_set KP.out (p := ⟨w.heap.size + 1, 0, none⟩) (fun k h1 h2 => by have := GE.out; show k ≠ w.heap.size + 1; omega) (.slice Ai i.length ci)) (p := ⟨w.heap.size + 1, 1, none⟩) (fun k h1 h2 => by have := GE.out; show k ≠ w.heap.size + 1; omega) (.slice Ao o.length co)) (p := ⟨w.heap.size + 1, 2, none⟩) (fun k h1 h2 => by have := GE.out; show k ≠ w.heap.size + 1; omega) (.slice (some ⟨gf, 0, none⟩) f.length cap)) (p := ⟨w.heap.size + 1, 3, none⟩) (fun k h1 h2 => by have := GE.out; show k ≠ w.heap.size + 1; omega) (.slice Ah (g.length + 1) ch)) (p := ⟨w.heap.size + 1, 4, none⟩) (fun k h1 h2 => by have := GE.out; show k ≠ w.heap.size + 1; omega) (.slice As s.length cs)
    have eF : outF i f g flop 0 = f.set flop.toNat (⟨(rd_T44 f flop).f0, (rd_T44 f flop).f1, netN i f g, (rd_T44 f flop).f3, (rd_T44 f flop).f4⟩ : Flp) := by unfold outF; rw [qF]
    have eG : outG f g flop 0 cell = g ++ [(⟨cell, 2, [(rd_T44 f flop).f2]⟩ : Gat)] := by unfold outG; rw [qG]
    have RF := Kd.R_reads' (nfarR HR2.out (g := w.heap.size + 1) (fun k hk => by have := GE.out; have := LT.out; have := L5.out; have := L6.out; have := NZ.out; have := NX.out; omega) (.slice Ai i.length ci) (.slice Ao o.length co) (.slice (some ⟨gf, 0, none⟩) f.length cap) (.slice Ah (g.length + 1) ch) (.slice As s.length cs))
    have NG := Kd.N_reads' (nfarN HG.out (g := w.heap.size + 1) (fun k hk => by have := hk.1; have := GE.out; have := LT.out; have := NZ.out; have := NX.out; omega) (.slice Ai i.length ci) (.slice Ao o.length co) (.slice (some ⟨gf, 0, none⟩) f.length cap) (.slice Ah (g.length + 1) ch) (.slice As s.length cs))
    have lF : (f.set flop.toNat (⟨(rd_T44 f flop).f0, (rd_T44 f flop).f1, netN i f g, (rd_T44 f flop).f3, (rd_T44 f flop).f4⟩ : Flp)).length = f.length := by simp
    have lG : (g ++ [(⟨cell, 2, [(rd_T44 f flop).f2]⟩ : Gat)]).length = g.length + 1 := by simp
    rw [eF, eG]
    refine ⟨⟨Ai, ci, Ao, co, some ⟨gf, 0, none⟩, cap, Ah, ch, As, cs, by rw [lF, lG]; rfl, ⟨FI.out _ (fun k hk _ => (KPf k hk.1.1 hk.1.2 hk.2.1 hk.2.2).2), FO.out _ (fun k hk _ => (KPf k hk.1.1 hk.1.2 hk.2.1 hk.2.2).2), RF.2.2, NG.2.2, FS.out _ (fun k hk _ => (KPf k hk.1.1 hk.1.2 hk.2.1 hk.2.2).2)⟩, CFI.out, CFO.out, by rw [lF]; exact RF.2.1, by rw [lG]; exact NG.2.1, CFS.out⟩, HBf⟩
  · go_simp
    have HR9 := Aside0.mk (Kd.R_alloc HR.out (.cells #[.int .i64 (rd_T44 f flop).f2] 3))
    refine hK.out _ _ (dD _ HR9.out) (fun hHeld => ?_)
    clear hK K
    try simp only [Act.put, List.setIfInBounds_toArray, List.set_cons_zero, List.set_cons_succ]
    replace HB := Aside0.mk (below_alloc HB.out (.cells #[.int .i64 (rd_T44 f flop).f2] 3))
    replace X := Aside0.mk (blk_alloc X.out (.cells #[.int .i64 (rd_T44 f flop).f2] 3))
    replace KP := Aside0.mk (kp_alloc KP.out (.cells #[.int .i64 (rd_T44 f flop).f2] 3))
    replace Z := Aside0.mk (blk_alloc Z.out (.cells #[.int .i64 (rd_T44 f flop).f2] 3))
    replace Y := Aside0.mk (blk_alloc Y.out (.cells #[.int .i64 (rd_T44 f flop).f2] 3))
    have BI := Aside0.mk (blk_new w8 (.cells #[.int .i64 (rd_T44 f flop).f2] 3))
    have LI := Aside0.mk (show gf < w8.heap.size from (Kd.R_lt HR.out) gf rfl)
    have LN := Aside0.mk (Kd.N_lt HG.out)
    have L4 := Aside0.mk (show w3.heap.size ≤ w8.heap.size ∧ w8.heap.size ≠ g13 from by have := LI.out; have := L6.out; have := LY.out; omega)
    replace HG := Aside0.mk (Kd.N_alloc HG.out (.cells #[.int .i64 (rd_T44 f flop).f2] 3))
    clear HR
    have LS := Aside0.mk (blk_lt BI.out)
    generalize w8.heap.size = gi at *
    generalize w8.alloc (.cells #[.int .i64 (rd_T44 f flop).f2] 3) = w9 at *
    refine wpAnyH_take (i := 8) (oi := _) (v := ?_) rfl (by kernel_rfl) (by kernel_rfl) (by kernel_rfl) (fun _ _ _ h => h) (Or.inl ⟨by rfl, ?_⟩) (by assumption) ?_
    rotate_left
    focus
      intro w' hSw
      (try dsimp only at hSw)
      go_simp
      try with_reducible rfl
    try simp only [Act.put, List.setIfInBounds_toArray, List.set_cons_zero, List.set_cons_succ]
    (try clear z0 z1 z2 z3 z4)
    obtain ⟨z0, z1, z2, z3, z4⟩ := ncells Y.out
    refine wpAnyH_ready (rs := [1, 9]) (by kernel_rfl) (by simp) ?_
    refine AllReadyH.cons rfl (fun K hK => ?_) (AllReadyH.cons rfl (fun K hK => ?_) AllReadyH.nil)
    · go_simp
      refine hK.out _ _ (dD _ HR9.out) (fun hHeld => ?_)
      clear hK K
      try simp only [Act.put, List.setIfInBounds_toArray, List.set_cons_zero, List.set_cons_succ]
      clear z0 z1 z2 z3 z4
      refine wpAnyH_ready (rs := [9]) (by kernel_rfl) (by simp) ?_
      refine AllReadyH.cons rfl (fun K hK => ?_) AllReadyH.nil
      go_simp
      refine hK.out _ _ (dD _ (Kd.R_alloc HR9.out _)) (fun hHeld => ?_)
      clear hK K
      try simp only [Act.put, List.setIfInBounds_toArray, List.set_cons_zero, List.set_cons_succ]
      refine wpAnyH_ready (rs := [10]) (by kernel_rfl) (by simp) ?_
      refine AllReadyH.cons rfl (fun K hK => ?_) AllReadyH.nil
      have hp : Kd.FK k51 w9 (fun k => k = gi) (⟨cell, 2, [(rd_T44 f flop).f2]⟩ : Gat) [.int .i64 cell, .int .u64 2, .slice (some ⟨gi, 0, none⟩) 1 1] := k51_mkF _ _ (⟨cell, 2, [(rd_T44 f flop).f2]⟩ : Gat) (Nat.le_refl 1) (fun W hW => Hnd.rowI [(rd_T44 f flop).f2] ((hW gi rfl LS.out).trans BI.out) rfl (show 1 ≤ 9223372036854775807 by decide))
      have hkp : ∀ k, k = gi → (fun k => (k < w.heap.size ∨ (w3.heap.size ≤ k ∧ k ≠ g13)) ∧ some k ≠ (.slice (some ⟨gf, 0, none⟩) f.length cap : Value).ownBlock) k ∧ some k ≠ (.slice Ag g.length cg : Value).ownBlock := fun k hk => by
        subst hk
        refine ⟨⟨.inr L4.out, fun e => ?_⟩, fun e => ?_⟩
        · have : k = gf := by simpa [Value.ownBlock] using e
          have := LI.out
          omega
        · have := LN.out k e.symm
          omega
      have hfr : ∀ k, w9.heap.size ≤ k → (fun k => (k < w.heap.size ∨ (w3.heap.size ≤ k ∧ k ≠ g13)) ∧ some k ≠ (.slice (some ⟨gf, 0, none⟩) f.length cap : Value).ownBlock) k := fun k hk => ⟨.inr (by have := L4.out; have := LS.out; have := LY.out; omega), fun e => by
        have : k = gf := by simpa [Value.ownBlock] using e
        have := LI.out
        have := LS.out
        omega⟩
      have hgw : w.heap.size ≤ w3.heap.size := by have := GE.out; have := LT.out; omega
      refine Kd.N_append_step k51 (w0 := w) w.heap.size rfl (.tmp 88) (.tmp 96) 24 51 (.agg #[.int .i64 0, .int .u64 0, .slice none 0 0]) 40 rfl Tryd.underlying24 info51 rfl (by decide) (by decide) (.slice Ag g.length cg) g (⟨cell, 2, [(rd_T44 f flop).f2]⟩ : Gat) [.int .i64 cell, .int .u64 2, .slice (some ⟨gi, 0, none⟩) 1 1] (fun k => (k < w.heap.size ∨ (w3.heap.size ≤ k ∧ k ≠ g13)) ∧ some k ≠ (.slice (some ⟨gf, 0, none⟩) f.length cap : Value).ownBlock) (fun k => k = gi) rfl rfl hp hkp hfr (Kd.N_lower HG.out hgw) HB.out HB.out.size (by omega) ?_
      intro v3 w10 hN hb hg hat
      obtain ⟨Ah, ch, rfl⟩ := Kd.N_slice hN
      simp only [List.length_append, List.length_singleton] at hN ⊢
      clear hp hkp hfr hat
      have hnf : some gf ≠ (.slice Ag g.length cg : Value).ownBlock := fun e => (LK.out gf e.symm).2 rfl
      have hnk : ∀ k, k < w3.heap.size → some k ≠ (.slice Ag g.length cg : Value).ownBlock := fun k hk e => by
        have := LG.out k e.symm
        omega
      replace HB := Aside0.mk hb
      replace X := Aside0.mk (blk_grown X.out hg (hnk _ (by have := GE.out; have := LT.out; have := NX.out; omega)))
      replace KP := Aside0.mk (kp_grown KP.out hg (fun k h1 h2 h3 h4 => h4))
      replace Z := Aside0.mk (blk_grown Z.out hg (hnk _ (by have := GE.out; have := LT.out; have := NX.out; omega)))
      replace Y := Aside0.mk (blk_grown Y.out hg (fun e => absurd (LNg.out _ e.symm) (Nat.lt_irrefl _)))
      have HR := Aside0.mk (Kd.R_grown HR9.out hg (fun k hk => by rw [hk]; exact hnf))
      replace HG := Aside0.mk hN
      clear hb hg hN HR9 BI
      try simp only [Act.put, List.setIfInBounds_toArray, List.set_cons_zero, List.set_cons_succ]
      refine hK.out _ _ (dD _ HR.out) (fun hHeld => ?_)
      clear hK K
      try simp only [Act.put, List.setIfInBounds_toArray, List.set_cons_zero, List.set_cons_succ]
      refine wpAnyH_take (i := 11) (oi := _) (v := ?_) rfl (by kernel_rfl) (by kernel_rfl) (by kernel_rfl) (fun _ _ _ h => h) (Or.inl ⟨by rfl, ?_⟩) (by assumption) ?_
      rotate_left
      focus
        intro w' hSw
        (try dsimp only at hSw)
        go_simp
        try with_reducible rfl
      try simp only [Act.put, List.setIfInBounds_toArray, List.set_cons_zero, List.set_cons_succ]
      obtain ⟨y0, y1, y2, y3, y4⟩ := nfroz Y.out
      obtain ⟨z0, z1, z2, z3, z4⟩ := ncells Y.out
      refine wpAnyH_ready (rs := [12]) (by kernel_rfl) (by simp) ?_
      refine AllReadyH.cons rfl (fun K hK => ?_) AllReadyH.nil
      go_simp
      refine hK.out _ _ (dD _ (Kd.R_far HR.out (p := ⟨g13, 3, none⟩) (fun k hk => by have := LT.out; have := L5.out; have := L6.out; show k ≠ g13; omega) _)) (fun hHeld => ?_)
      clear hK K
      try simp only [Act.put, List.setIfInBounds_toArray, List.set_cons_zero, List.set_cons_succ]
      replace HB := Aside0.mk (below_set (g := g13) (j := 3) (v := .slice Ah (g.length + 1) ch) HB.out (by have := GE.out; have := LT.out; have := L6.out; omega))
      replace X := Aside0.mk (blk_far X.out (p := ⟨g13, 3, none⟩) NX.out (.slice Ah (g.length + 1) ch))
      replace KP := Aside0.mk (kp_set KP.out (p := ⟨g13, 3, none⟩) (fun k h1 h2 => Nat.ne_of_lt h2) (.slice Ah (g.length + 1) ch))
      replace Z := Aside0.mk (blk_far Z.out (p := ⟨g13, 3, none⟩) NZ.out (.slice Ah (g.length + 1) ch))
      replace Y := Aside0.mk (blk_put Y.out 3 (.slice Ah (g.length + 1) ch) (cs' := #[.slice Ai i.length ci, .slice Ao o.length co, .slice (some ⟨gf, 0, none⟩) f.length cap, .slice Ah (g.length + 1) ch, .slice As s.length cs]) rfl)
      replace HG := Aside0.mk (Kd.N_far HG.out (p := ⟨g13, 3, none⟩) (fun k hk => HGn.out k hk) (.slice Ah (g.length + 1) ch))
      replace HR := Aside0.mk (Kd.R_far HR.out (p := ⟨g13, 3, none⟩) (fun k hk => by have := LT.out; have := L5.out; have := L6.out; show k ≠ g13; omega) (.slice Ah (g.length + 1) ch))
      (try clear y0 y1 y2 y3 y4 z0 z1 z2 z3 z4)
      obtain ⟨y0, y1, y2, y3, y4⟩ := nfroz Y.out
      obtain ⟨z0, z1, z2, z3, z4⟩ := ncells Y.out
      refine wpAnyH_done (by kernel_rfl) ?_ _
      clear hHeld
      obtain ⟨x0, x1, x2, x3, x4⟩ := ncells X.out
      generalize w10.setCell ⟨g13, 3, none⟩ (.slice Ah (g.length + 1) ch) = w11 at *
      obtain ⟨cf, hcl, hM, hcc, hfr⟩ := Kd.R_elem HR.out z44 flop e0 e1
      obtain rfl := k44_openM hM
      have HL := Kd.R_lower HR.out (show w.heap.size ≤ w3.heap.size by have := GE.out; have := LT.out; have := L5.out; omega)
      go_wp2_with (refine Kd.R_store k44 (w0 := w) w.heap.size rfl rfl 3 (.tmp 102) (.tmp 100) rfl 44 flop 2 f (⟨(rd_T44 f flop).f0, (rd_T44 f flop).f1, netN i f g, (rd_T44 f flop).f3, (rd_T44 f flop).f4⟩ : Flp) (.int .i64 (netN i f g)) [.int .i64 (netN i f g)] [.string (rd_T44 f flop).f0, .int .i64 (rd_T44 f flop).f1, .int .i64 (rd_T44 f flop).f2, .int .i64 (rd_T44 f flop).f3, .bool (rd_T44 f flop).f4] (fun k => k = gf) (fun _ => False) rfl rfl rfl rfl (by kernel_rfl) (fun q hq => by simp only [List.mem_singleton] at hq; rw [hq]; rfl) HL e0 e1 hcl hcc (show 2 + 1 ≤ 5 by decide) (k44_mkM _ _ _ (⟨(rd_T44 f flop).f0, (rd_T44 f flop).f1, netN i f g, (rd_T44 f flop).f3, (rd_T44 f flop).f4⟩ : Flp)) (fun _ hk => hk.elim) HB.out ?_; intro w12 hR hb hg; replace HB := Aside0.mk hb; replace KP := Aside0.mk (kp_grown KP.out hg (fun k h1 h2 h3 h4 e => by injection e with e; exact h3 e)); replace X := Aside0.mk (blk_grown X.out hg (fun e => by injection e with e; have := GE.out; have := LT.out; have := L5.out; have := L6.out; omega)); replace Z := Aside0.mk (blk_grown Z.out hg (fun e => by injection e with e; have := GE.out; have := LT.out; have := L5.out; have := L6.out; have := NX.out; omega)); replace Y := Aside0.mk (blk_grown Y.out hg (fun e => by injection e with e; have := LT.out; have := L5.out; have := L6.out; omega)); replace HG := Aside0.mk (Kd.N_grown HG.out hg (fun k hk => hk.2)); have HR2 := Aside0.mk hR; clear hcl hM hcc hfr HL hR hb hg HR x0 x1 x2 x3 x4 y0 y1 y2 y3 y4 z0 z1 z2 z3 z4; obtain ⟨x0, x1, x2, x3, x4⟩ := ncells Z.out; obtain ⟨y0, y1, y2, y3, y4⟩ := nfroz Z.out; obtain ⟨z0, z1, z2, z3, z4⟩ := ncells Y.out)
      refine bodyPost_ret (results_ct rfl _ _ (w.heap.size + 1) 27 #[.slice Ai i.length ci, .slice Ao o.length co, .slice (some ⟨gf, 0, none⟩) f.length cap, .slice Ah (g.length + 1) ch, .slice As s.length cs] (0, 0) _ rfl (nput Z.out _ _ _ _ _) hu27 rfl (by kernel_rfl)) rfl ?_
      have HBf := nput_below (a := .slice Ai i.length ci) (b := .slice Ao o.length co) (c := .slice (some ⟨gf, 0, none⟩) f.length cap) (d := .slice Ah (g.length + 1) ch) (e := .slice As s.length cs) HB.out (Nat.le_succ w.heap.size)
      have KPf := kp_set (kp_set (kp_set (kp_set (kp_set KP.out (p := ⟨w.heap.size + 1, 0, none⟩) (fun k h1 h2 => by have := GE.out; show k ≠ w.heap.size + 1; omega) (.slice Ai i.length ci)) (p := ⟨w.heap.size + 1, 1, none⟩) (fun k h1 h2 => by have := GE.out; show k ≠ w.heap.size + 1; omega) (.slice Ao o.length co)) (p := ⟨w.heap.size + 1, 2, none⟩) (fun k h1 h2 => by have := GE.out; show k ≠ w.heap.size + 1; omega) (.slice (some ⟨gf, 0, none⟩) f.length cap)) (p := ⟨w.heap.size + 1, 3, none⟩) (fun k h1 h2 => by have := GE.out; show k ≠ w.heap.size + 1; omega) (.slice Ah (g.length + 1) ch)) (p := ⟨w.heap.size + 1, 4, none⟩) (fun k h1 h2 => by have := GE.out; show k ≠ w.heap.size + 1; omega) (.slice As s.length cs)
      have eF : outF i f g flop 0 = f.set flop.toNat (⟨(rd_T44 f flop).f0, (rd_T44 f flop).f1, netN i f g, (rd_T44 f flop).f3, (rd_T44 f flop).f4⟩ : Flp) := by unfold outF; rw [qF]
      have eG : outG f g flop 0 cell = g ++ [(⟨cell, 2, [(rd_T44 f flop).f2]⟩ : Gat)] := by unfold outG; rw [qG]
      have RF := Kd.R_reads' (nfarR HR2.out (g := w.heap.size + 1) (fun k hk => by have := GE.out; have := LT.out; have := L5.out; have := L6.out; have := NZ.out; have := NX.out; omega) (.slice Ai i.length ci) (.slice Ao o.length co) (.slice (some ⟨gf, 0, none⟩) f.length cap) (.slice Ah (g.length + 1) ch) (.slice As s.length cs))
      have NG := Kd.N_reads' (nfarN HG.out (g := w.heap.size + 1) (fun k hk => by have := hk.1; have := GE.out; have := LT.out; have := NZ.out; have := NX.out; omega) (.slice Ai i.length ci) (.slice Ao o.length co) (.slice (some ⟨gf, 0, none⟩) f.length cap) (.slice Ah (g.length + 1) ch) (.slice As s.length cs))
      have lF : (f.set flop.toNat (⟨(rd_T44 f flop).f0, (rd_T44 f flop).f1, netN i f g, (rd_T44 f flop).f3, (rd_T44 f flop).f4⟩ : Flp)).length = f.length := by simp
      have lG : (g ++ [(⟨cell, 2, [(rd_T44 f flop).f2]⟩ : Gat)]).length = g.length + 1 := by simp
      rw [eF, eG]
      refine ⟨⟨Ai, ci, Ao, co, some ⟨gf, 0, none⟩, cap, Ah, ch, As, cs, by rw [lF, lG]; rfl, ⟨FI.out _ (fun k hk _ => (KPf k hk.1.1 hk.1.2 hk.2.1 hk.2.2).2), FO.out _ (fun k hk _ => (KPf k hk.1.1 hk.1.2 hk.2.1 hk.2.2).2), RF.2.2, NG.2.2, FS.out _ (fun k hk _ => (KPf k hk.1.1 hk.1.2 hk.2.1 hk.2.2).2)⟩, CFI.out, CFO.out, by rw [lF]; exact RF.2.1, by rw [lG]; exact NG.2.1, CFS.out⟩, HBf⟩
    · go_simp
      refine hK.out _ _ (dD _ (Kd.R_alloc HR9.out _)) (fun hHeld => ?_)
      clear hK K
      try simp only [Act.put, List.setIfInBounds_toArray, List.set_cons_zero, List.set_cons_succ]
      (try clear z0 z1 z2 z3 z4)
      obtain ⟨z0, z1, z2, z3, z4⟩ := ncells (blk_alloc Y.out (.cells #[.int .i64 cell, .int .u64 2, .slice (some ⟨gi, 0, none⟩) 1 1] 51))
      refine wpAnyH_ready (rs := [1]) (by kernel_rfl) (by simp) ?_
      refine AllReadyH.cons rfl (fun K hK => ?_) AllReadyH.nil
      go_simp
      refine hK.out _ _ (dD _ (Kd.R_alloc HR9.out _)) (fun hHeld => ?_)
      clear hK K
      try simp only [Act.put, List.setIfInBounds_toArray, List.set_cons_zero, List.set_cons_succ]
      clear z0 z1 z2 z3 z4
      refine wpAnyH_ready (rs := [10]) (by kernel_rfl) (by simp) ?_
      refine AllReadyH.cons rfl (fun K hK => ?_) AllReadyH.nil
      have hp : Kd.FK k51 w9 (fun k => k = gi) (⟨cell, 2, [(rd_T44 f flop).f2]⟩ : Gat) [.int .i64 cell, .int .u64 2, .slice (some ⟨gi, 0, none⟩) 1 1] := k51_mkF _ _ (⟨cell, 2, [(rd_T44 f flop).f2]⟩ : Gat) (Nat.le_refl 1) (fun W hW => Hnd.rowI [(rd_T44 f flop).f2] ((hW gi rfl LS.out).trans BI.out) rfl (show 1 ≤ 9223372036854775807 by decide))
      have hkp : ∀ k, k = gi → (fun k => (k < w.heap.size ∨ (w3.heap.size ≤ k ∧ k ≠ g13)) ∧ some k ≠ (.slice (some ⟨gf, 0, none⟩) f.length cap : Value).ownBlock) k ∧ some k ≠ (.slice Ag g.length cg : Value).ownBlock := fun k hk => by
        subst hk
        refine ⟨⟨.inr L4.out, fun e => ?_⟩, fun e => ?_⟩
        · have : k = gf := by simpa [Value.ownBlock] using e
          have := LI.out
          omega
        · have := LN.out k e.symm
          omega
      have hfr : ∀ k, w9.heap.size ≤ k → (fun k => (k < w.heap.size ∨ (w3.heap.size ≤ k ∧ k ≠ g13)) ∧ some k ≠ (.slice (some ⟨gf, 0, none⟩) f.length cap : Value).ownBlock) k := fun k hk => ⟨.inr (by have := L4.out; have := LS.out; have := LY.out; omega), fun e => by
        have : k = gf := by simpa [Value.ownBlock] using e
        have := LI.out
        have := LS.out
        omega⟩
      have hgw : w.heap.size ≤ w3.heap.size := by have := GE.out; have := LT.out; omega
      refine Kd.N_append_step k51 (w0 := w) w.heap.size rfl (.tmp 88) (.tmp 96) 24 51 (.agg #[.int .i64 0, .int .u64 0, .slice none 0 0]) 40 rfl Tryd.underlying24 info51 rfl (by decide) (by decide) (.slice Ag g.length cg) g (⟨cell, 2, [(rd_T44 f flop).f2]⟩ : Gat) [.int .i64 cell, .int .u64 2, .slice (some ⟨gi, 0, none⟩) 1 1] (fun k => (k < w.heap.size ∨ (w3.heap.size ≤ k ∧ k ≠ g13)) ∧ some k ≠ (.slice (some ⟨gf, 0, none⟩) f.length cap : Value).ownBlock) (fun k => k = gi) rfl rfl hp hkp hfr (Kd.N_lower HG.out hgw) HB.out HB.out.size (by omega) ?_
      intro v3 w10 hN hb hg hat
      obtain ⟨Ah, ch, rfl⟩ := Kd.N_slice hN
      simp only [List.length_append, List.length_singleton] at hN ⊢
      clear hp hkp hfr hat
      have hnf : some gf ≠ (.slice Ag g.length cg : Value).ownBlock := fun e => (LK.out gf e.symm).2 rfl
      have hnk : ∀ k, k < w3.heap.size → some k ≠ (.slice Ag g.length cg : Value).ownBlock := fun k hk e => by
        have := LG.out k e.symm
        omega
      replace HB := Aside0.mk hb
      replace X := Aside0.mk (blk_grown X.out hg (hnk _ (by have := GE.out; have := LT.out; have := NX.out; omega)))
      replace KP := Aside0.mk (kp_grown KP.out hg (fun k h1 h2 h3 h4 => h4))
      replace Z := Aside0.mk (blk_grown Z.out hg (hnk _ (by have := GE.out; have := LT.out; have := NX.out; omega)))
      replace Y := Aside0.mk (blk_grown Y.out hg (fun e => absurd (LNg.out _ e.symm) (Nat.lt_irrefl _)))
      have HR := Aside0.mk (Kd.R_grown HR9.out hg (fun k hk => by rw [hk]; exact hnf))
      replace HG := Aside0.mk hN
      clear hb hg hN HR9 BI
      try simp only [Act.put, List.setIfInBounds_toArray, List.set_cons_zero, List.set_cons_succ]
      refine hK.out _ _ (dD _ HR.out) (fun hHeld => ?_)
      clear hK K
      try simp only [Act.put, List.setIfInBounds_toArray, List.set_cons_zero, List.set_cons_succ]
      refine wpAnyH_take (i := 11) (oi := _) (v := ?_) rfl (by kernel_rfl) (by kernel_rfl) (by kernel_rfl) (fun _ _ _ h => h) (Or.inl ⟨by rfl, ?_⟩) (by assumption) ?_
      rotate_left
      focus
        intro w' hSw
        (try dsimp only at hSw)
        go_simp
        try with_reducible rfl
      try simp only [Act.put, List.setIfInBounds_toArray, List.set_cons_zero, List.set_cons_succ]
      obtain ⟨y0, y1, y2, y3, y4⟩ := nfroz Y.out
      obtain ⟨z0, z1, z2, z3, z4⟩ := ncells Y.out
      refine wpAnyH_ready (rs := [12]) (by kernel_rfl) (by simp) ?_
      refine AllReadyH.cons rfl (fun K hK => ?_) AllReadyH.nil
      go_simp
      refine hK.out _ _ (dD _ (Kd.R_far HR.out (p := ⟨g13, 3, none⟩) (fun k hk => by have := LT.out; have := L5.out; have := L6.out; show k ≠ g13; omega) _)) (fun hHeld => ?_)
      clear hK K
      try simp only [Act.put, List.setIfInBounds_toArray, List.set_cons_zero, List.set_cons_succ]
      replace HB := Aside0.mk (below_set (g := g13) (j := 3) (v := .slice Ah (g.length + 1) ch) HB.out (by have := GE.out; have := LT.out; have := L6.out; omega))
      replace X := Aside0.mk (blk_far X.out (p := ⟨g13, 3, none⟩) NX.out (.slice Ah (g.length + 1) ch))
      replace KP := Aside0.mk (kp_set KP.out (p := ⟨g13, 3, none⟩) (fun k h1 h2 => Nat.ne_of_lt h2) (.slice Ah (g.length + 1) ch))
      replace Z := Aside0.mk (blk_far Z.out (p := ⟨g13, 3, none⟩) NZ.out (.slice Ah (g.length + 1) ch))
      replace Y := Aside0.mk (blk_put Y.out 3 (.slice Ah (g.length + 1) ch) (cs' := #[.slice Ai i.length ci, .slice Ao o.length co, .slice (some ⟨gf, 0, none⟩) f.length cap, .slice Ah (g.length + 1) ch, .slice As s.length cs]) rfl)
      replace HG := Aside0.mk (Kd.N_far HG.out (p := ⟨g13, 3, none⟩) (fun k hk => HGn.out k hk) (.slice Ah (g.length + 1) ch))
      replace HR := Aside0.mk (Kd.R_far HR.out (p := ⟨g13, 3, none⟩) (fun k hk => by have := LT.out; have := L5.out; have := L6.out; show k ≠ g13; omega) (.slice Ah (g.length + 1) ch))
      (try clear y0 y1 y2 y3 y4 z0 z1 z2 z3 z4)
      obtain ⟨y0, y1, y2, y3, y4⟩ := nfroz Y.out
      obtain ⟨z0, z1, z2, z3, z4⟩ := ncells Y.out
      refine wpAnyH_done (by kernel_rfl) ?_ _
      clear hHeld
      obtain ⟨x0, x1, x2, x3, x4⟩ := ncells X.out
      generalize w10.setCell ⟨g13, 3, none⟩ (.slice Ah (g.length + 1) ch) = w11 at *
      obtain ⟨cf, hcl, hM, hcc, hfr⟩ := Kd.R_elem HR.out z44 flop e0 e1
      obtain rfl := k44_openM hM
      have HL := Kd.R_lower HR.out (show w.heap.size ≤ w3.heap.size by have := GE.out; have := LT.out; have := L5.out; omega)
      go_wp2_with (refine Kd.R_store k44 (w0 := w) w.heap.size rfl rfl 3 (.tmp 102) (.tmp 100) rfl 44 flop 2 f (⟨(rd_T44 f flop).f0, (rd_T44 f flop).f1, netN i f g, (rd_T44 f flop).f3, (rd_T44 f flop).f4⟩ : Flp) (.int .i64 (netN i f g)) [.int .i64 (netN i f g)] [.string (rd_T44 f flop).f0, .int .i64 (rd_T44 f flop).f1, .int .i64 (rd_T44 f flop).f2, .int .i64 (rd_T44 f flop).f3, .bool (rd_T44 f flop).f4] (fun k => k = gf) (fun _ => False) rfl rfl rfl rfl (by kernel_rfl) (fun q hq => by simp only [List.mem_singleton] at hq; rw [hq]; rfl) HL e0 e1 hcl hcc (show 2 + 1 ≤ 5 by decide) (k44_mkM _ _ _ (⟨(rd_T44 f flop).f0, (rd_T44 f flop).f1, netN i f g, (rd_T44 f flop).f3, (rd_T44 f flop).f4⟩ : Flp)) (fun _ hk => hk.elim) HB.out ?_; intro w12 hR hb hg; replace HB := Aside0.mk hb; replace KP := Aside0.mk (kp_grown KP.out hg (fun k h1 h2 h3 h4 e => by injection e with e; exact h3 e)); replace X := Aside0.mk (blk_grown X.out hg (fun e => by injection e with e; have := GE.out; have := LT.out; have := L5.out; have := L6.out; omega)); replace Z := Aside0.mk (blk_grown Z.out hg (fun e => by injection e with e; have := GE.out; have := LT.out; have := L5.out; have := L6.out; have := NX.out; omega)); replace Y := Aside0.mk (blk_grown Y.out hg (fun e => by injection e with e; have := LT.out; have := L5.out; have := L6.out; omega)); replace HG := Aside0.mk (Kd.N_grown HG.out hg (fun k hk => hk.2)); have HR2 := Aside0.mk hR; clear hcl hM hcc hfr HL hR hb hg HR x0 x1 x2 x3 x4 y0 y1 y2 y3 y4 z0 z1 z2 z3 z4; obtain ⟨x0, x1, x2, x3, x4⟩ := ncells Z.out; obtain ⟨y0, y1, y2, y3, y4⟩ := nfroz Z.out; obtain ⟨z0, z1, z2, z3, z4⟩ := ncells Y.out)
      refine bodyPost_ret (results_ct rfl _ _ (w.heap.size + 1) 27 #[.slice Ai i.length ci, .slice Ao o.length co, .slice (some ⟨gf, 0, none⟩) f.length cap, .slice Ah (g.length + 1) ch, .slice As s.length cs] (0, 0) _ rfl (nput Z.out _ _ _ _ _) hu27 rfl (by kernel_rfl)) rfl ?_
      have HBf := nput_below (a := .slice Ai i.length ci) (b := .slice Ao o.length co) (c := .slice (some ⟨gf, 0, none⟩) f.length cap) (d := .slice Ah (g.length + 1) ch) (e := .slice As s.length cs) HB.out (Nat.le_succ w.heap.size)
      have KPf := kp_set (kp_set (kp_set (kp_set (kp_set KP.out (p := ⟨w.heap.size + 1, 0, none⟩) (fun k h1 h2 => by have := GE.out; show k ≠ w.heap.size + 1; omega) (.slice Ai i.length ci)) (p := ⟨w.heap.size + 1, 1, none⟩) (fun k h1 h2 => by have := GE.out; show k ≠ w.heap.size + 1; omega) (.slice Ao o.length co)) (p := ⟨w.heap.size + 1, 2, none⟩) (fun k h1 h2 => by have := GE.out; show k ≠ w.heap.size + 1; omega) (.slice (some ⟨gf, 0, none⟩) f.length cap)) (p := ⟨w.heap.size + 1, 3, none⟩) (fun k h1 h2 => by have := GE.out; show k ≠ w.heap.size + 1; omega) (.slice Ah (g.length + 1) ch)) (p := ⟨w.heap.size + 1, 4, none⟩) (fun k h1 h2 => by have := GE.out; show k ≠ w.heap.size + 1; omega) (.slice As s.length cs)
      have eF : outF i f g flop 0 = f.set flop.toNat (⟨(rd_T44 f flop).f0, (rd_T44 f flop).f1, netN i f g, (rd_T44 f flop).f3, (rd_T44 f flop).f4⟩ : Flp) := by unfold outF; rw [qF]
      have eG : outG f g flop 0 cell = g ++ [(⟨cell, 2, [(rd_T44 f flop).f2]⟩ : Gat)] := by unfold outG; rw [qG]
      have RF := Kd.R_reads' (nfarR HR2.out (g := w.heap.size + 1) (fun k hk => by have := GE.out; have := LT.out; have := L5.out; have := L6.out; have := NZ.out; have := NX.out; omega) (.slice Ai i.length ci) (.slice Ao o.length co) (.slice (some ⟨gf, 0, none⟩) f.length cap) (.slice Ah (g.length + 1) ch) (.slice As s.length cs))
      have NG := Kd.N_reads' (nfarN HG.out (g := w.heap.size + 1) (fun k hk => by have := hk.1; have := GE.out; have := LT.out; have := NZ.out; have := NX.out; omega) (.slice Ai i.length ci) (.slice Ao o.length co) (.slice (some ⟨gf, 0, none⟩) f.length cap) (.slice Ah (g.length + 1) ch) (.slice As s.length cs))
      have lF : (f.set flop.toNat (⟨(rd_T44 f flop).f0, (rd_T44 f flop).f1, netN i f g, (rd_T44 f flop).f3, (rd_T44 f flop).f4⟩ : Flp)).length = f.length := by simp
      have lG : (g ++ [(⟨cell, 2, [(rd_T44 f flop).f2]⟩ : Gat)]).length = g.length + 1 := by simp
      rw [eF, eG]
      refine ⟨⟨Ai, ci, Ao, co, some ⟨gf, 0, none⟩, cap, Ah, ch, As, cs, by rw [lF, lG]; rfl, ⟨FI.out _ (fun k hk _ => (KPf k hk.1.1 hk.1.2 hk.2.1 hk.2.2).2), FO.out _ (fun k hk _ => (KPf k hk.1.1 hk.1.2 hk.2.1 hk.2.2).2), RF.2.2, NG.2.2, FS.out _ (fun k hk _ => (KPf k hk.1.1 hk.1.2 hk.2.1 hk.2.2).2)⟩, CFI.out, CFO.out, by rw [lF]; exact RF.2.1, by rw [lG]; exact NG.2.1, CFS.out⟩, HBf⟩

end Go.Proofs.YtpkpmdmmnhmnlaaDoor.PT
