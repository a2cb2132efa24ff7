/- The walk of the law HoldAdds, by hand. No conditions. -/
import Derived.Test.YtpkpmdmmnhmnlaaDoorPTh4
import Derived.Test.YtpkpmdmmnhmnlaaDoorPTh6
import Derived.Test.YtpkpmdmmnhmnlaaDoorPTh8
import Derived.Test.YtpkpmdmmnhmnlaaDoorPTh9
set_option linter.unusedVariables false
set_option linter.unusedSimpArgs false
namespace Go.Proofs.YtpkpmdmmnhmnlaaDoor.PT
open Go.RowKit Go.Proofs.YtpkpmdmmnhmnlaaDoorW.PrintWords Go.Proofs.YtpkpmdmmnhmnlaaDoorW.PrintLast Go.Proofs.YtpkpmdmmnhmnlaaDoorW.PrintMore Go.Proofs.YtpkpmdmmnhmnlaaDoor.Aid

/-- What a copy asks: no row longer than memory bears. -/
def okV (i o : List ByteArray) (f : List S44) (g : List S51) (s : List Int) : Bool :=
  decide (i.length < 4398046511104) && decide (o.length < 4398046511104) && decide (f.length < 1099511627776) && decide (g.length < 1099511627776) && decide (s.length < 17592186044416) && g.all (fun x => decide (x.f2.length < 17592186044416))
theorem copy_ev {i o : List ByteArray} {f : List S44} {g : List S51} {s : List Int} (h : okV i o f g s = true) : ∃ k, netlist_Copy.f k i o f g s = some (i, o, f, g, s) := by
  unfold okV at h
  simp only [Bool.and_eq_true, decide_eq_true_eq, List.all_eq_true] at h
  obtain ⟨⟨⟨⟨⟨h0, h1⟩, h2⟩, h3⟩, h4⟩, h5⟩ := h
  refine Ev.rounds (g := fun k => netlist_Copy.f k i o f g s) ?_
  unfold netlist_Copy.f
  refine Ev.val (x := i) (by unfold slices_Clone_string_string.f; rw [if_pos h0]) (Ev.val (x := o) (by unfold slices_Clone_string_string.f; rw [if_pos h1]) (Ev.val (x := f) (by unfold api_Flop.f; rw [if_pos h2]) (Ev.val (x := g) (by unfold api_Gate.f; rw [if_pos h3]) (Ev.val (x := s) (by unfold slices_Clone_int_int.f; rw [if_pos h4]) ?_))))
  refine down (P := fun n => Ev (fun k => netlist_Copy.l0 k (g.length : Int) (n : Int) i o f g s) (i, o, f, g, s)) g.length ?_ ?_ 0 (by omega)
  · exact Ev.step (f := fun k => _) (fun k => by rw [netlist_Copy.l0]) (Ev.neg (by omega) (Ev.now _))
  · intro n hn ih
    have hx : rd_T51 g (n : Int) = g[n] := by
      show g.getD (n : Int).toNat z51 = g[n]
      rw [List.getD_eq_getElem?_getD, Int.toNat_natCast, List.getElem?_eq_getElem hn]
      rfl
    refine Ev.step (f := fun k => _) (fun k => by rw [netlist_Copy.l0]) (Ev.pos (by omega) (Ev.pos (by omega) (Ev.pos (by omega) (Ev.val (x := (rd_T51 g (n : Int)).f2) (by unfold slices_Clone_int_int.f; rw [if_pos (h5 _ (by rw [hx]; exact List.getElem_mem hn))]) ?_))))
    rw [ws hn (by omega)]
    have e : g.set (n : Int).toNat (⟨(rd_T51 g (n : Int)).f0, (rd_T51 g (n : Int)).f1, (rd_T51 g (n : Int)).f2⟩ : S51) = g := by
      show g.set (n : Int).toNat (rd_T51 g (n : Int)) = g
      rw [hx, Int.toNat_natCast]
      exact List.set_getElem_self hn
    rw [e]
    exact ih
def masklaw4_HoldAdds.f (k : Nat) (l0_0 : List ByteArray) (l0_1 : List ByteArray) (l0_2 : List (S44)) (l0_3 : List (S51)) (l0_4 : List Int) (l1 : List (S48)) (a2 : Int) (a3 : Int) (a4 : Int) : Option Bool := (floor_CheckChip.f k l0_0 l0_1 l0_2 l0_3 l0_4 l1).bind fun e => (maskref4_NetFault.f k l0_0 l0_1 l0_2 l0_3 l0_4 l1).bind fun e' => if e = e' ∧ (e = 0 → l0_3.length + l0_2.length ≤ 300 ∧ okV l0_0 l0_1 l0_2 l0_3 l0_4 = true) then some true else none
theorem nilC5 (w : World) : NetC w none 0 [] none 0 [] none 0 [] none 0 [] none 0 [] := ⟨⟨Kd.C_nil _ _, Kd.C_nil _ _, Kd.C_nil _ _, Kd.C_nil _ _, Kd.C_nil _ _⟩, Nat.le_refl _, Nat.le_refl _, Nat.le_refl _, Nat.le_refl _, Nat.le_refl _⟩
set_option maxHeartbeats 4000000 in
set_option maxRecDepth 100000 in
theorem masklaw4_HoldAdds.calls (k : Nat) (A0_0 : Option Addr) (c0_0 : Nat) (l0_0 : List ByteArray) (A0_1 : Option Addr) (c0_1 : Nat) (l0_1 : List ByteArray) (A0_2 : Option Addr) (c0_2 : Nat) (l0_2 : List (S44)) (A0_3 : Option Addr) (c0_3 : Nat) (l0_3 : List (S51)) (A0_4 : Option Addr) (c0_4 : Nat) (l0_4 : List Int) (A1 : Option Addr) (c1 : Nat) (l1 : List (S48)) (a2 : Int) (a3 : Int) (a4 : Int) (r : Bool) (w : World) (hr0_0 : Kd.C Kd.string w A0_0 l0_0.length l0_0) (hc0_0 : l0_0.length ≤ c0_0) (hr0_1 : Kd.C Kd.string w A0_1 l0_1.length l0_1) (hc0_1 : l0_1.length ≤ c0_1) (hr0_2 : Kd.C k44 w A0_2 l0_2.length l0_2) (hc0_2 : l0_2.length ≤ c0_2) (hr0_3 : Kd.C k51 w A0_3 l0_3.length l0_3) (hc0_3 : l0_3.length ≤ c0_3) (hr0_4 : Kd.C (Kd.int .i64) w A0_4 l0_4.length l0_4) (hc0_4 : l0_4.length ≤ c0_4) (hr1 : Kd.C k48 w A1 l1.length l1) (hc1 : l1.length ≤ c1) (h : masklaw4_HoldAdds.f k l0_0 l0_1 l0_2 l0_3 l0_4 l1 a2 a3 a4 = some r) :
    Calls Tryd.prog 3 #[.agg #[.slice A0_0 l0_0.length c0_0, .slice A0_1 l0_1.length c0_1, .slice A0_2 l0_2.length c0_2, .slice A0_3 l0_3.length c0_3, .slice A0_4 l0_4.length c0_4], .slice A1 l1.length c1, .int .i64 a2, .int .i64 a3, .int .i64 a4] w fun e w' => e = .returned (.bool r) ∧ Below w.heap.size w w' := by
  unfold masklaw4_HoldAdds.f at h
  obtain ⟨e0, he, h⟩ := Option.bind_eq_some_iff.1 h
  obtain ⟨e1, he', h⟩ := Option.bind_eq_some_iff.1 h
  split at h
  case isFalse => cases h
  case isTrue hq =>
  obtain ⟨rfl, hz⟩ := hq
  obtain rfl := Option.some.inj h
  clear h
  have HE := Aside0.mk he
  have HE' := Aside0.mk he'
  have hn : NetC w A0_0 c0_0 l0_0 A0_1 c0_1 l0_1 A0_2 c0_2 l0_2 A0_3 c0_3 l0_3 A0_4 c0_4 l0_4 := ⟨⟨hr0_0, hr0_1, hr0_2, hr0_3, hr0_4⟩, hc0_0, hc0_1, hc0_2, hc0_3, hc0_4⟩
  have HB := Aside0.mk (below_alloc (Below.refl w.heap.size w) (.cells #[.slice A0_0 l0_0.length c0_0, .slice A0_1 l0_1.length c0_1, .slice A0_2 l0_2.length c0_2, .slice A0_3 l0_3.length c0_3, .slice A0_4 l0_4.length c0_4] 27))
  have X := Aside0.mk (blk_new w (.cells #[.slice A0_0 l0_0.length c0_0, .slice A0_1 l0_1.length c0_1, .slice A0_2 l0_2.length c0_2, .slice A0_3 l0_3.length c0_3, .slice A0_4 l0_4.length c0_4] 27))
  have HN := Aside0.mk (hn.below HB.out)
  have HL := Aside0.mk (Kd.C_below hr1 HB.out)
  have ML := Aside0.mk hc1
  have HZ := Aside0.mk hz
  clear he he' hn hr0_0 hr0_1 hr0_2 hr0_3 hr0_4 hc0_0 hc0_1 hc0_2 hc0_3 hc0_4 hr1 hc1 hz
  go_enter Tryd.func3, Tryd.ntmps3
  go_wp2_with fail
  refine (mends_c _).mono ?_
  rintro e w1 ⟨rfl, hw⟩
  replace HB := Aside0.mk (below_step HB.out hw)
  replace X := Aside0.mk (blk_below X.out hw)
  replace HN := Aside0.mk (HN.out.below hw)
  replace HL := Aside0.mk (Kd.C_below HL.out hw)
  clear hw
  obtain ⟨x0, x1, x2, x3, x4⟩ := ncells X.out
  go_wp2_with fail
  by_cases hE : ∃ err, ErrB e0 l0_2 l0_3 l1 a2 a3 a4 err
  · obtain ⟨err, hE⟩ := hE
    refine (add_err A0_0 c0_0 l0_0 A0_1 c0_1 l0_1 A0_2 c0_2 l0_2 A0_3 c0_3 l0_3 A0_4 c0_4 l0_4 A1 c1 l1 a2 a3 a4 e0 k _ HN.out HL.out ML.out HE.out err hE).mono ?_
    rintro e w2 ⟨rfl, hw⟩
    replace HB := Aside0.mk (below_step HB.out hw)
    replace X := Aside0.mk (blk_below X.out hw)
    replace HN := Aside0.mk (HN.out.below hw)
    replace HL := Aside0.mk (Kd.C_below HL.out hw)
    clear hw x0 x1 x2 x3 x4
    have ob := below_alloc (Below.refl w2.heap.size w2) (.cells #[.slice none 0 0, .slice none 0 0, .slice none 0 0, .slice none 0 0, .slice none 0 0] 27)
    replace HB := Aside0.mk (below_step HB.out ob)
    replace X := Aside0.mk (blk_below X.out ob)
    replace HN := Aside0.mk (HN.out.below ob)
    replace HL := Aside0.mk (Kd.C_below HL.out ob)
    have Y := Aside0.mk (blk_new w2 (.cells #[.slice none 0 0, .slice none 0 0, .slice none 0 0, .slice none 0 0, .slice none 0 0] 27))
    clear ob
    obtain ⟨x0, x1, x2, x3, x4⟩ := ncells X.out
    go_wp2_with fail
    refine (buf_err A0_0 c0_0 l0_0 A0_1 c0_1 l0_1 A0_2 c0_2 l0_2 A0_3 c0_3 l0_3 A0_4 c0_4 l0_4 A1 c1 l1 a2 a3 a4 e0 k _ HN.out HL.out ML.out HE'.out err hE).mono ?_
    rintro e w3 ⟨rfl, hw⟩
    replace HB := Aside0.mk (below_step HB.out hw)
    replace Y := Aside0.mk (blk_below Y.out hw)
    have ob := below_alloc (Below.refl w3.heap.size w3) (.cells #[.slice none 0 0, .slice none 0 0, .slice none 0 0, .slice none 0 0, .slice none 0 0] 27)
    replace HB := Aside0.mk (below_step HB.out ob)
    replace Y := Aside0.mk (blk_below Y.out ob)
    clear hw x0 x1 x2 x3 x4 X HN HL ob
    obtain ⟨x0, x1, x2, x3, x4⟩ := ncells Y.out
    go_wp2_with fail
    refine (same_c none 0 [] none 0 [] none 0 [] none 0 [] none 0 [] none 0 none 0 none 0 none 0 none 0 _ (nilC5 _) (nilC5 _)).mono ?_
    rintro e w4 ⟨rfl, hw⟩
    replace HB := Aside0.mk (below_step HB.out hw)
    clear hw x0 x1 x2 x3 x4 Y
    go_wp2
    go_ret
    exact ⟨rfl, HB.out⟩
  · have h0 : e0 = 0 := Classical.byContradiction (fun h0 => hE ⟨e0, .inl ⟨h0, rfl⟩⟩)
    have h1 : EndB l0_2 a2 a3 := Classical.byContradiction (fun h1 => hE ⟨7, .inr (.inl ⟨h0, h1, rfl⟩)⟩)
    have h2 : CelB l1 a4 := Classical.byContradiction (fun h2 => hE ⟨8, .inr (.inr (.inl ⟨h0, h1, h2, rfl⟩))⟩)
    have h3 : l0_3.length + l0_2.length < 300 := by
      have a := (HZ.out h0).1
      have b : l0_3.length + l0_2.length ≠ 300 := fun h3 => hE ⟨3, .inr (.inr (.inr ⟨h0, h1, h2, h3, rfl⟩))⟩
      omega
    obtain ⟨k2, hcp⟩ := copy_ev (HZ.out h0).2
    have HP := Aside0.mk hcp
    clear hE hcp
    refine (add_ok A0_0 c0_0 l0_0 A0_1 c0_1 l0_1 A0_2 c0_2 l0_2 A0_3 c0_3 l0_3 A0_4 c0_4 l0_4 A1 c1 l1 a2 a3 a4 e0 k _ HN.out HL.out ML.out HE.out h0 h1 h2 h3).mono ?_
    rintro e w2 ⟨⟨B2, d2, B3, d3, rfl, hnn⟩, hw⟩
    have ob := below_alloc (Below.refl w2.heap.size w2) (.cells #[.slice A0_0 l0_0.length c0_0, .slice A0_1 l0_1.length c0_1, .slice B2 (outF l0_0 l0_2 l0_3 a2 a3).length d2, .slice B3 (outG l0_2 l0_3 a2 a3 a4).length d3, .slice A0_4 l0_4.length c0_4] 27)
    replace HB := Aside0.mk (below_step (below_step HB.out hw) ob)
    replace X := Aside0.mk (blk_below (blk_below X.out hw) ob)
    replace HN := Aside0.mk ((HN.out.below hw).below ob)
    replace HL := Aside0.mk (Kd.C_below (Kd.C_below HL.out hw) ob)
    have Y := Aside0.mk (blk_new w2 (.cells #[.slice A0_0 l0_0.length c0_0, .slice A0_1 l0_1.length c0_1, .slice B2 (outF l0_0 l0_2 l0_3 a2 a3).length d2, .slice B3 (outG l0_2 l0_3 a2 a3 a4).length d3, .slice A0_4 l0_4.length c0_4] 27))
    have HO := Aside0.mk (hnn.below ob)
    clear hw x0 x1 x2 x3 x4 ob hnn
    obtain ⟨x0, x1, x2, x3, x4⟩ := ncells X.out
    go_wp2_with fail
    have hbf := fun w => if hin : a3 = 0 then buf_ok0 A0_0 c0_0 l0_0 A0_1 c0_1 l0_1 A0_2 c0_2 l0_2 A0_3 c0_3 l0_3 A0_4 c0_4 l0_4 A1 c1 l1 a2 a3 a4 e0 k w (hin := hin) (hck := HE'.out) (k2 := k2) (hcp := HP.out) (h0 := h0) (h1 := h1) (h2 := h2) (h3 := h3) else buf_ok1 A0_0 c0_0 l0_0 A0_1 c0_1 l0_1 A0_2 c0_2 l0_2 A0_3 c0_3 l0_3 A0_4 c0_4 l0_4 A1 c1 l1 a2 a3 a4 e0 k w (hin := hin) (hck := HE'.out) (k2 := k2) (hcp := HP.out) (h0 := h0) (h1 := h1) (h2 := h2) (h3 := h3)
    refine (hbf _ HN.out HL.out ML.out).mono ?_
    rintro e w3 ⟨⟨E0, b0, E1, b1, E2, b2, E3, b3, E4, b4, rfl, hnn⟩, hw⟩
    have ob := below_alloc (Below.refl w3.heap.size w3) (.cells #[.slice E0 l0_0.length b0, .slice E1 l0_1.length b1, .slice E2 (outF l0_0 l0_2 l0_3 a2 a3).length b2, .slice E3 (outG l0_2 l0_3 a2 a3 a4).length b3, .slice E4 l0_4.length b4] 27)
    replace HB := Aside0.mk (below_step (below_step HB.out hw) ob)
    replace Y := Aside0.mk (blk_below (blk_below Y.out hw) ob)
    replace HO := Aside0.mk ((HO.out.below hw).below ob)
    have HO' := Aside0.mk (hnn.below ob)
    clear hw x0 x1 x2 x3 x4 X HN HL ob hnn
    obtain ⟨x0, x1, x2, x3, x4⟩ := ncells Y.out
    go_wp2_with fail
    refine (same_c A0_0 c0_0 l0_0 A0_1 c0_1 l0_1 B2 d2 (outF l0_0 l0_2 l0_3 a2 a3) B3 d3 (outG l0_2 l0_3 a2 a3 a4) A0_4 c0_4 l0_4 E0 b0 E1 b1 E2 b2 E3 b3 E4 b4 _ HO.out HO'.out).mono ?_
    rintro e w4 ⟨rfl, hw⟩
    replace HB := Aside0.mk (below_step HB.out hw)
    clear hw x0 x1 x2 x3 x4 Y
    go_wp2
    go_ret
    exact ⟨rfl, HB.out⟩
end Go.Proofs.YtpkpmdmmnhmnlaaDoor.PT
