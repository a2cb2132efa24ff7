/- What the check of a netlist with a library answers: some answer for every netlist; the check of a library for layout, by the program and by the reference. No conditions. -/
import Derived.Test.YtpkpmdmmnhmnlaaDoorLHoldAddsLib
set_option linter.unusedVariables false
namespace Go.Proofs.YtpkpmdmmnhmnlaaDoor.LHoldAdds
open Go.RowKit Go.Proofs.YtpkpmdmmnhmnlaaDoorW.PrintWords Go.Proofs.YtpkpmdmmnhmnlaaDoor.Opn Go.Proofs.YtpkpmdmmnhmnlaaDoor.PT Go.Proofs.YtpkpmdmmnhmnlaaDoor.SHoldAdds Go.Proofs.YtpkpmdmmnhmnlaaDoor.Aid

abbrev Gat := S51
abbrev Flp := S44
theorem names_tot (l : List ByteArray) : Tot (fun _ => True) (fun k => graph_Names.f k l) := by
  unfold graph_Names.f
  refine down (P := fun i => Tot (fun _ => True) (fun k => graph_Names.l0 k l (i : Int))) l.length ?_ ?_ 0 (by omega)
  · exact Tot.step (fun k => by rw [graph_Names.l0]) (Tot.neg (by omega) (Tot.now _ trivial))
  · intro i hi ih
    refine Tot.step (fun k => by rw [graph_Names.l0]) (Tot.pos (by omega) (Tot.val (a := graph_Name.f _) rfl (Tot.ite (fun _ => Tot.ite (fun _ => Tot.now _ trivial) (fun _ => ?_)) (fun _ => Tot.now _ trivial))))
    rw [show (i : Int) + 1 = ((i + 1 : Nat) : Int) by omega]
    exact ih
theorem gate_tot (lb : List Cel) (a b : Int) (l : List Int) : Tot (fun _ => True) (fun k => netlist_gate.f k a b l lb) := by
  unfold netlist_gate.f
  have jt : Tot (fun _ => True) (fun k => netlist_gate.j0 k lb true a b l) := Tot.step (fun k => by rw [netlist_gate.j0]) (Tot.pos rfl (Tot.now _ trivial))
  refine Tot.ite (fun _ => Tot.now _ trivial) (fun h1 => Tot.ite (fun _ => jt) (fun h2 => ?_))
  by_cases h3 : a ≥ (lb.length : Int)
  · rw [decide_eq_true h3]; exact jt
  · rw [decide_eq_false h3]
    exact Tot.step (fun k => by rw [netlist_gate.j0]) (Tot.neg (by simp) (Tot.pos (by omega) (Tot.pos (by omega) (Tot.ite (fun _ => Tot.now _ trivial) (fun _ => Tot.ite (fun _ => Tot.ite (fun _ => Tot.now _ trivial) (fun _ => Tot.now _ trivial)) (fun _ => Tot.now _ trivial))))))
theorem flop_tot (lb : List Cel) (n : ByteArray) (a b c : Int) (d : Bool) : Tot (fun _ => True) (fun k => netlist_flop.f k n a b c d lb) := by
  unfold netlist_flop.f
  have jt : Tot (fun _ => True) (fun k => netlist_flop.j0 k lb true n a b c d) := Tot.step (fun k => by rw [netlist_flop.j0]) (Tot.pos rfl (Tot.now _ trivial))
  refine Tot.ite (fun _ => Tot.now _ trivial) (fun h1 => Tot.ite (fun _ => jt) (fun h2 => ?_))
  by_cases h3 : a ≥ (lb.length : Int)
  · rw [decide_eq_true h3]; exact jt
  · rw [decide_eq_false h3]
    exact Tot.step (fun k => by rw [netlist_flop.j0]) (Tot.neg (by simp) (Tot.pos (by omega) (Tot.pos (by omega) (Tot.ite (fun _ => Tot.ite (fun _ => Tot.ite (fun _ => Tot.now _ trivial) (fun _ => Tot.now _ trivial)) (fun _ => Tot.now _ trivial)) (fun _ => Tot.now _ trivial)))))
section
variable (ins outs : List ByteArray) (fl : List Flp) (gs : List Gat) (os : List Int) (lb : List Cel) (hf : fl.length ≤ 2305843009213693952) (hg : gs.length ≤ 2305843009213693952) (ho : os.length ≤ 2305843009213693952)
include hf ho
theorem ends_tot : Tot (fun _ => True) (fun k => netlist_ends.f k ins outs fl gs os) := by
  unfold netlist_ends.f netlist_Nets.f netlist_First.f
  refine Tot.val rfl ?_
  refine down (P := fun i => Tot (fun _ => True) (fun k => netlist_ends.l0 k (wrap64 (wrap64 (wrap64 (2 + (ins.length : Int)) + (fl.length : Int)) + (gs.length : Int))) fl (fl.length : Int) (i : Int) ins outs fl gs os)) fl.length ?_ ?_ 0 (by omega)
  · refine Tot.step (fun k => by rw [netlist_ends.l0]) (Tot.neg (by omega) ?_)
    refine down (P := fun i => Tot (fun _ => True) (fun k => netlist_ends.l1 k (wrap64 (wrap64 (wrap64 (2 + (ins.length : Int)) + (fl.length : Int)) + (gs.length : Int))) os (os.length : Int) (i : Int))) os.length ?_ ?_ 0 (by omega)
    · exact Tot.step (fun k => by rw [netlist_ends.l1]) (Tot.neg (by omega) (Tot.now _ trivial))
    · intro i hi ih
      refine Tot.step (fun k => by rw [netlist_ends.l1]) (Tot.pos (by omega) (Tot.pos (by omega) (Tot.pos (by omega) (Tot.ite (fun _ => Tot.now _ trivial) (fun _ => Tot.ite (fun _ => Tot.now _ trivial) (fun _ => ?_))))))
      rw [ws hi (by omega)]
      exact ih
  · intro i hi ih
    refine Tot.step (fun k => by rw [netlist_ends.l0]) (Tot.pos (by omega) (Tot.pos (by omega) (Tot.pos (by omega) (Tot.ite (fun _ => Tot.now _ trivial) (fun _ => Tot.ite (fun _ => Tot.now _ trivial) (fun _ => Tot.ite (fun _ => Tot.now _ trivial) (fun _ => Tot.ite (fun _ => Tot.now _ trivial) (fun _ => ?_))))))))
    rw [ws hi (by omega)]
    exact ih
include hg
theorem form_l1 (fi : Int) : Tot (fun _ => True) (fun k => netlist_Form.l1 k fi gs (gs.length : Int) 0 ins outs fl gs os) := by
  refine down (P := fun i => Tot (fun _ => True) (fun k => netlist_Form.l1 k fi gs (gs.length : Int) (i : Int) ins outs fl gs os)) gs.length ?_ ?_ 0 (by omega)
  · exact Tot.step (fun k => by rw [netlist_Form.l1]) (Tot.neg (by omega) (Tot.bind (ends_tot ins outs fl gs os hf ho) (fun _ _ => Tot.now _ trivial)))
  · intro i hi ih
    refine Tot.step (fun k => by rw [netlist_Form.l1]) (Tot.pos (by omega) (Tot.pos (by omega) (Tot.pos (by omega) (Tot.ite (fun _ => Tot.now _ trivial) (fun h6 => Tot.val (a := netlist_Mask.f _) rfl (Tot.ite (fun _ => ?_) (fun _ => Tot.now _ trivial)))))))
    refine down (P := fun j => Tot (fun _ => True) (fun k => netlist_Form.l2 k fi (i : Int) gs (gs.length : Int) (i : Int) ((rd_T51 gs (i : Int)).f2) (((rd_T51 gs (i : Int)).f2).length : Int) (j : Int) ins outs fl gs os)) ((rd_T51 gs (i : Int)).f2).length ?_ ?_ 0 (by omega)
    · refine Tot.step (fun k => by rw [netlist_Form.l2]) (Tot.neg (by omega) ?_)
      rw [ws hi (by omega)]
      exact ih
    · intro j hj ih'
      refine Tot.step (fun k => by rw [netlist_Form.l2]) (Tot.pos (by omega) (Tot.pos (by omega) (Tot.pos (by omega) (Tot.ite (fun _ => Tot.now _ trivial) (fun _ => Tot.ite (fun _ => Tot.now _ trivial) (fun _ => ?_))))))
      rw [ws hj (by omega)]
      exact ih'
theorem form_tot : Tot (fun e => e = 0 → ins.length ≤ 128 ∧ outs.length ≤ 128 ∧ fl.length ≤ 288 ∧ gs.length ≤ 1200 ∧ outs.length = os.length) (fun k => netlist_Form.f k ins outs fl gs os) := by
  unfold netlist_Form.f
  have jt : Tot (fun e => e = 0 → ins.length ≤ 128 ∧ outs.length ≤ 128 ∧ fl.length ≤ 288 ∧ gs.length ≤ 1200 ∧ outs.length = os.length) (fun k => netlist_Form.j0 k true ins outs fl gs os) :=
    Tot.step (fun k => by rw [netlist_Form.j0]) (Tot.pos rfl (Tot.now _ (by omega)))
  refine Tot.ite (fun _ => jt) (fun h1 => Tot.ite (fun _ => jt) (fun h2 => Tot.ite (fun _ => jt) (fun h3 => ?_)))
  by_cases h4 : (gs.length : Int) > 1200
  · rw [decide_eq_true h4]; exact jt
  · rw [decide_eq_false h4]
    refine Tot.step (fun k => by rw [netlist_Form.j0]) (Tot.neg (by simp) (Tot.ite (fun h5 => ?_) (fun _ => Tot.now _ (by omega))))
    have hcl : slices_Clone_string_string.f ins = some ins := by
      unfold slices_Clone_string_string.f
      rw [if_pos (by omega)]
    refine Tot.val hcl ?_
    refine Tot.imp (Q := fun _ => True) ?_ (fun e _ _ => ⟨by omega, by omega, by omega, by omega, by omega⟩)
    have key := down (P := fun i => ∀ nm : List ByteArray, nm.length = ins.length + i → Tot (fun _ => True) (fun k => netlist_Form.l0 k nm fl (fl.length : Int) (i : Int) ins outs fl gs os)) fl.length ?_ ?_ 0 (by omega)
    · exact key ins rfl
    · intro nm _
      refine Tot.step (fun k => by rw [netlist_Form.l0]) (Tot.neg (by omega) (Tot.bind (names_tot nm) (fun e1 _ => Tot.ite (fun _ => Tot.bind (names_tot outs) (fun e2 _ => Tot.ite (fun _ => Tot.val (a := netlist_First.f ins outs fl gs os) rfl (form_l1 ins outs fl gs os hf hg ho _)) (fun _ => Tot.now _ trivial))) (fun _ => Tot.now _ trivial))))
    · intro i hi ih nm hnm
      refine Tot.step (fun k => by rw [netlist_Form.l0]) (Tot.pos (by omega) (Tot.pos (by omega) (Tot.pos (by omega) (Tot.pos (by omega) ?_))))
      rw [ws hi (by omega)]
      exact ih _ (by simp; omega)
/-- What the check of a netlist tells, if it is 0: its sizes, and that its cells are of the library. -/
def NF : Prop := ins.length ≤ 128 ∧ outs.length ≤ 128 ∧ fl.length ≤ 288 ∧ gs.length ≤ 1200 ∧ outs.length = os.length
theorem net_tot : Tot (fun e => e = 0 → NF ins outs fl gs os) (fun k => netlist_Check.f k ins outs fl gs os lb) := by
  unfold netlist_Check.f
  refine Tot.bind (form_tot ins outs fl gs os hf hg ho) (fun e he => Tot.ite (fun h0 => ?_) (fun h0 => Tot.now _ (fun h => absurd h h0)))
  refine Tot.imp (Q := fun _ => True) ?_ (fun _ _ _ => he h0)
  refine down (P := fun i => Tot (fun _ => True) (fun k => netlist_Check.l0 k lb gs (gs.length : Int) (i : Int) ins outs fl gs os)) gs.length ?_ ?_ 0 (by omega)
  · refine Tot.step (fun k => by rw [netlist_Check.l0]) (Tot.neg (by omega) ?_)
    refine down (P := fun i => Tot (fun _ => True) (fun k => netlist_Check.l1 k lb fl (fl.length : Int) (i : Int))) fl.length ?_ ?_ 0 (by omega)
    · exact Tot.step (fun k => by rw [netlist_Check.l1]) (Tot.neg (by omega) (Tot.now _ trivial))
    · intro i hi ih
      refine Tot.step (fun k => by rw [netlist_Check.l1]) (Tot.pos (by omega) (Tot.pos (by omega) (Tot.pos (by omega) (Tot.bind (flop_tot lb _ _ _ _ _) (fun e _ => Tot.ite (fun _ => ?_) (fun _ => Tot.now _ trivial))))))
      rw [ws hi (by omega)]
      exact ih
  · intro i hi ih
    refine Tot.step (fun k => by rw [netlist_Check.l0]) (Tot.pos (by omega) (Tot.pos (by omega) (Tot.pos (by omega) (Tot.bind (gate_tot lb _ _ _) (fun e _ => Tot.ite (fun _ => ?_) (fun _ => Tot.now _ trivial))))))
    rw [ws hi (by omega)]
    exact ih
end

/-- The check of a library for layout: both, and what a valid library is. -/
def GL2 (l : List Cel) : Prop := l.length ≤ 64 ∧ ∀ i : Nat, i < l.length → GCell (rd_T48 l (i : Int)) ∧ (rd_T48 l (i : Int)).f4 ≤ 40 ∧ (rd_T48 l (i : Int)).f2 ≤ 2 * (rd_T48 l (i : Int)).f4
theorem gcell_nums (x : Cel) (h : GCell x) : 0 ≤ x.f2 ∧ x.f2 ≤ 6 ∧ 1 ≤ x.f4 ∧ x.f4 ≤ 64 := by
  obtain ⟨⟨h1, h2⟩, h3, _⟩ := h
  obtain ⟨h4, h5, _⟩ := h3
  cases hx : x.f1 with
  | true => have := h1 hx; omega
  | false => have := h2 hx; omega
theorem libs_same (l : List Cel) : Two (fun e => e = 0 → GL2 l) (fun k => floor_CheckLib.f k l) (fun k => maskref4_LibFault.f k l) := by
  obtain ⟨e0, le, lq⟩ := lib_tot l
  unfold floor_CheckLib.f maskref4_LibFault.f
  refine Both.bindl le (Both.bindr le ?_)
  by_cases h0 : e0 = 0
  · refine Both.pos h0 ?_
    obtain ⟨g1, g2⟩ := lq h0
    have key := down (P := fun i => Two (fun e => e = 0 → ∀ j : Nat, i ≤ j → j < l.length → (rd_T48 l (j : Int)).f4 ≤ 40 ∧ (rd_T48 l (j : Int)).f2 ≤ 2 * (rd_T48 l (j : Int)).f4) (fun k => floor_CheckLib.l0 k l (l.length : Int) (i : Int)) (fun k => maskref4_LibFault.l0 k l (l.length : Int) (i : Int))) l.length ?_ ?_ 0 (by omega)
    · exact key.imp (fun r hr h => ⟨g1, fun i hi => ⟨g2 i hi, hr h i (Nat.zero_le _) hi⟩⟩)
    · exact Both.step (fun k => by rw [floor_CheckLib.l0]) (fun k => by rw [maskref4_LibFault.l0]) (Both.neg (by omega) (Two.now _ (fun _ j j1 j2 => by omega)))
    · intro i hi ih
      obtain ⟨n1, n2, n3, n4⟩ := gcell_nums _ (g2 i hi)
      have w1 : Aside0 (wrap64 (2 * (rd_T48 l (i : Int)).f2) = 2 * (rd_T48 l (i : Int)).f2) := ⟨w64 (by omega) (by omega)⟩
      have w2 : Aside0 (wrap64 (4 * (rd_T48 l (i : Int)).f4) = 4 * (rd_T48 l (i : Int)).f4) := ⟨w64 (by omega) (by omega)⟩
      have w3 : Aside0 (wrap64 (2 * (rd_T48 l (i : Int)).f4) = 2 * (rd_T48 l (i : Int)).f4) := ⟨w64 (by omega) (by omega)⟩
      have fit : floor_Fits.f (rd_T48 l (i : Int)).f0 (rd_T48 l (i : Int)).f1 (rd_T48 l (i : Int)).f2 (rd_T48 l (i : Int)).f3 (rd_T48 l (i : Int)).f4 (rd_T48 l (i : Int)).f5 (rd_T48 l (i : Int)).f6 (rd_T48 l (i : Int)).f7 (rd_T48 l (i : Int)).f8 (rd_T48 l (i : Int)).f9 (rd_T48 l (i : Int)).f10 = some (decide ((rd_T48 l (i : Int)).f4 ≤ 40 ∧ (rd_T48 l (i : Int)).f2 ≤ 2 * (rd_T48 l (i : Int)).f4)) := by
        unfold floor_Fits.f
        rw [if_pos (by omega), w1.out, w2.out]
        by_cases h : (rd_T48 l (i : Int)).f4 ≤ 40
        · rw [if_pos h]
          congr 1
          by_cases h' : (rd_T48 l (i : Int)).f2 ≤ 2 * (rd_T48 l (i : Int)).f4
          · rw [decide_eq_true (by omega), decide_eq_true ⟨h, h'⟩]
          · rw [decide_eq_false (by omega), decide_eq_false (fun z => h' z.2)]
        · rw [if_neg h, decide_eq_false (fun z => h z.1)]
      have ew : Aside0 (wrap64 ((i : Int) + 1) = ((i + 1 : Nat) : Int)) := ⟨ws hi (by omega)⟩
      refine Both.step (fun k => by rw [floor_CheckLib.l0]) (fun k => by rw [maskref4_LibFault.l0]) (Both.pos (by omega) (Both.pos (by omega) (Both.pos (by omega) ?_)))
      rw [fit, w3.out, ew.out]
      refine Both.vall rfl ?_
      by_cases h1 : (rd_T48 l (i : Int)).f4 ≤ 40
      · refine Both.negr (by omega) ?_
        by_cases h2 : (rd_T48 l (i : Int)).f2 ≤ 2 * (rd_T48 l (i : Int)).f4
        · refine Both.posl (decide_eq_true ⟨h1, h2⟩) (Both.negr (by omega) (ih.imp (fun r hr h j j1 j2 => ?_)))
          by_cases e : j = i
          · subst e; exact ⟨h1, h2⟩
          · exact hr h j (by omega) j2
        · exact Both.negl (by simp; omega) (Both.posr (by omega) (Two.now _ (by omega)))
      · exact Both.negl (by simp; omega) (Both.posr (by omega) (Two.now _ (by omega)))
  · exact Both.neg h0 (Two.now _ (fun h => absurd h h0))

/-- The check of a netlist for layout: both. -/
def NC (fl : List Flp) (gs : List Gat) : Prop := (∀ i : Nat, i < gs.length → 0 ≤ (rd_T51 gs (i : Int)).f0) ∧ (∀ i : Nat, i < fl.length → 0 ≤ (rd_T44 fl (i : Int)).f1) ∧ gs.length + fl.length ≤ 300
theorem chips_same (ins outs : List ByteArray) (fl : List Flp) (gs : List Gat) (os : List Int) (lb : List Cel) (hf : fl.length ≤ 2305843009213693952) (hg : gs.length ≤ 2305843009213693952) (ho : os.length ≤ 2305843009213693952) :
    Two (fun e => e = 0 → GL2 lb ∧ NF ins outs fl gs os ∧ NC fl gs ∧ Ev (fun k => netlist_Check.f k ins outs fl gs os lb) 0) (fun k => floor_CheckChip.f k ins outs fl gs os lb) (fun k => maskref4_NetFault.f k ins outs fl gs os lb) := by
  unfold floor_CheckChip.f maskref4_NetFault.f
  refine Both.bind (libs_same lb) (fun e0 q0 => ?_)
  by_cases h0 : e0 = 0
  · refine Both.pos h0 ?_
    obtain ⟨e1, n1, q1⟩ := net_tot ins outs fl gs os lb hf hg ho
    refine Both.bindl n1 (Both.bindr n1 ?_)
    by_cases h1 : e1 = 0
    · refine Both.pos h1 ?_
      have key := down (P := fun i => Two (fun e => e = 0 → (∀ j : Nat, i ≤ j → j < gs.length → 0 ≤ (rd_T51 gs (j : Int)).f0) ∧ (∀ j : Nat, j < fl.length → 0 ≤ (rd_T44 fl (j : Int)).f1) ∧ gs.length + fl.length ≤ 300) (fun k => floor_CheckChip.l0 k gs (gs.length : Int) (i : Int) ins outs fl gs os) (fun k => maskref4_NetFault.l0 k gs (gs.length : Int) (i : Int) ins outs fl gs os)) gs.length ?_ ?_ 0 (by omega)
      · exact key.imp (fun r hr h => ⟨q0 h0, q1 h1, ⟨fun i hi => (hr h).1 i (Nat.zero_le _) hi, (hr h).2.1, (hr h).2.2⟩, h1 ▸ n1⟩)
      · refine Both.step (fun k => by rw [floor_CheckChip.l0]) (fun k => by rw [maskref4_NetFault.l0]) (Both.neg (by omega) ?_)
        have key2 := down (P := fun i => Two (fun e => e = 0 → (∀ j : Nat, i ≤ j → j < fl.length → 0 ≤ (rd_T44 fl (j : Int)).f1) ∧ gs.length + fl.length ≤ 300) (fun k => floor_CheckChip.l1 k fl (fl.length : Int) (i : Int) ins outs fl gs os) (fun k => maskref4_NetFault.l1 k fl (fl.length : Int) (i : Int) ins outs fl gs os)) fl.length ?_ ?_ 0 (by omega)
        · exact key2.imp (fun r hr h => ⟨fun j j1 j2 => by omega, fun j hj => (hr h).1 j (Nat.zero_le _) hj, (hr h).2⟩)
        · have ew : Aside0 (wrap64 ((gs.length : Int) + (fl.length : Int)) = (gs.length : Int) + (fl.length : Int)) := ⟨w64 (by omega) (by omega)⟩
          refine Both.step (fun k => by rw [floor_CheckChip.l1]) (fun k => by rw [maskref4_NetFault.l1]) (Both.neg (by omega) ?_)
          rw [ew.out]
          by_cases h2 : (gs.length : Int) + (fl.length : Int) > 300
          · exact Both.pos h2 (Two.now _ (by omega))
          · exact Both.neg h2 (Two.now _ (fun _ => ⟨fun j j1 j2 => by omega, by omega⟩))
        · intro i hi ih
          have ew : Aside0 (wrap64 ((i : Int) + 1) = ((i + 1 : Nat) : Int)) := ⟨ws hi (by omega)⟩
          refine Both.step (fun k => by rw [floor_CheckChip.l1]) (fun k => by rw [maskref4_NetFault.l1]) (Both.pos (by omega) (Both.pos (by omega) (Both.pos (by omega) ?_)))
          by_cases h2 : (rd_T44 fl (i : Int)).f1 < 0
          · exact Both.pos h2 (Two.now _ (by omega))
          · refine Both.neg h2 ?_
            rw [ew.out]
            exact ih.imp (fun r hr h => ⟨fun j j1 j2 => if e : j = i then by subst e; omega else (hr h).1 j (by omega) j2, (hr h).2⟩)
      · intro i hi ih
        have ew : Aside0 (wrap64 ((i : Int) + 1) = ((i + 1 : Nat) : Int)) := ⟨ws hi (by omega)⟩
        refine Both.step (fun k => by rw [floor_CheckChip.l0]) (fun k => by rw [maskref4_NetFault.l0]) (Both.pos (by omega) (Both.pos (by omega) (Both.pos (by omega) ?_)))
        by_cases h2 : (rd_T51 gs (i : Int)).f0 < 0
        · exact Both.pos h2 (Two.now _ (by omega))
        · refine Both.neg h2 ?_
          rw [ew.out]
          exact ih.imp (fun r hr h => ⟨fun j j1 j2 => if e : j = i then by subst e; omega else (hr h).1 j (by omega) j2, (hr h).2⟩)
    · exact Both.neg h1 (Two.now _ (fun h => absurd h h1))
  · exact Both.neg h0 (Two.now _ (fun h => absurd h h0))
end Go.Proofs.YtpkpmdmmnhmnlaaDoor.LHoldAdds
