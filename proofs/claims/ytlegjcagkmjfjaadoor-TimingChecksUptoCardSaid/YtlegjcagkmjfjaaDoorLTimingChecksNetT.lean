/- What the check of a netlist with a library answers: some answer for every netlist. No conditions. (Out of lem/Lib and lem/Net.) -/
import Derived.Test.YtlegjcagkmjfjaaDoorStmTimingChecks
import Derived.Test.YtlegjcagkmjfjaaDoorAid
set_option linter.unusedVariables false
namespace Go.Proofs.YtlegjcagkmjfjaaDoor.LTimingChecks
open Go.RowKit Go.Proofs.YtlegjcagkmjfjaaDoorW.PrintWords Go.Proofs.YtlegjcagkmjfjaaDoor.Opn Go.Proofs.YtlegjcagkmjfjaaDoor.PT Go.Proofs.YtlegjcagkmjfjaaDoor.STimingChecks Go.Proofs.YtlegjcagkmjfjaaDoor.Aid
/-- Some answer, of which something is known. -/
def Tot {α : Type} (Q : α → Prop) (g : Nat → Option α) : Prop := ∃ r, Ev g r ∧ Q r
section
variable {α β : Type} {Q : α → Prop} {R : β → Prop} {c : Prop} [Decidable c] {g f : Nat → Option α}
theorem Tot.now (r : α) (h : Q r) : Tot Q (fun _ => some r) := ⟨r, Ev.now r, h⟩
theorem Tot.ite (h : c → Tot Q g) (h' : ¬ c → Tot Q f) : Tot Q (fun k => if c then g k else f k) := by
  by_cases hc : c
  · obtain ⟨r, e, q⟩ := h hc
    exact ⟨r, Ev.pos hc e, q⟩
  · obtain ⟨r, e, q⟩ := h' hc
    exact ⟨r, Ev.neg hc e, q⟩
theorem Tot.pos (hc : c) (h : Tot Q g) : Tot Q (fun k => if c then g k else f k) := Tot.ite (fun _ => h) (fun h' => absurd hc h')
theorem Tot.neg (hc : ¬ c) (h : Tot Q f) : Tot Q (fun k => if c then g k else f k) := Tot.ite (fun h' => absurd h' hc) (fun _ => h)
theorem Tot.step (h : ∀ k, g (k + 1) = f k) (k : Tot Q f) : Tot Q g := by
  obtain ⟨r, e, q⟩ := k
  exact ⟨r, Ev.step h e, q⟩
theorem Tot.bind {g : Nat → Option β} {f : Nat → β → Option α} (h : Tot R g) (k : ∀ a, R a → Tot Q (fun n => f n a)) : Tot Q (fun n => (g n).bind (f n)) := by
  obtain ⟨a, e, r⟩ := h
  obtain ⟨b, e', q⟩ := k a r
  exact ⟨b, Ev.bind e e', q⟩
theorem Tot.val {a : Option β} {x : β} {f : Nat → β → Option α} (ha : a = some x) (k : Tot Q (fun n => f n x)) : Tot Q (fun n => a.bind (f n)) := by
  obtain ⟨r, e, q⟩ := k
  exact ⟨r, Ev.val ha e, q⟩
theorem Tot.imp {Q' : α → Prop} (h : Tot Q g) (k : ∀ r, Q r → Q' r) : Tot Q' g := by
  obtain ⟨r, e, q⟩ := h
  exact ⟨r, e, k r q⟩
end

abbrev Cel := S94
abbrev Gat := S72
abbrev Flp := S58
theorem names_tot (l : List ByteArray) : Tot (fun _ => True) (fun k => graph_Names.f k l) := by
  unfold graph_Names.f
  refine down (P := fun i => Tot (fun _ => True) (fun k => graph_Names.l0 k l (i : Int))) l.length ?_ ?_ 0 (by omega)
  · exact Tot.step (fun k => by rw [graph_Names.l0]) (Tot.neg (by omega) (Tot.now _ trivial))
  · intro i hi ih
    refine Tot.step (fun k => by rw [graph_Names.l0]) (Tot.pos (by omega) (Tot.val (a := graph_Name.f _) rfl (Tot.ite (fun _ => Tot.ite (fun _ => Tot.now _ trivial) (fun _ => ?_)) (fun _ => Tot.now _ trivial))))
    rw [show (i : Int) + 1 = ((i + 1 : Nat) : Int) by omega]
    exact ih
theorem gate_tot (lb : List Cel) (a b : Int) (l : List Int) : Tot (fun _ => True) (fun k => netlist_gate.f k a b l lb) := by
  unfold netlist_gate.f
  have jt : Tot (fun _ => True) (fun k => netlist_gate.j0 k lb true a b l) := Tot.step (fun k => by rw [netlist_gate.j0]) (Tot.pos rfl (Tot.now _ trivial))
  refine Tot.ite (fun _ => Tot.now _ trivial) (fun h1 => Tot.ite (fun _ => jt) (fun h2 => ?_))
  by_cases h3 : a ≥ (lb.length : Int)
  · rw [decide_eq_true h3]; exact jt
  · rw [decide_eq_false h3]
    exact Tot.step (fun k => by rw [netlist_gate.j0]) (Tot.neg (by simp) (Tot.pos (by omega) (Tot.pos (by omega) (Tot.ite (fun _ => Tot.now _ trivial) (fun _ => Tot.ite (fun _ => Tot.ite (fun _ => Tot.now _ trivial) (fun _ => Tot.now _ trivial)) (fun _ => Tot.now _ trivial))))))
theorem flop_tot (lb : List Cel) (n : ByteArray) (a b c : Int) (d : Bool) : Tot (fun _ => True) (fun k => netlist_flop.f k n a b c d lb) := by
  unfold netlist_flop.f
  have jt : Tot (fun _ => True) (fun k => netlist_flop.j0 k lb true n a b c d) := Tot.step (fun k => by rw [netlist_flop.j0]) (Tot.pos rfl (Tot.now _ trivial))
  refine Tot.ite (fun _ => Tot.now _ trivial) (fun h1 => Tot.ite (fun _ => jt) (fun h2 => ?_))
  by_cases h3 : a ≥ (lb.length : Int)
  · rw [decide_eq_true h3]; exact jt
  · rw [decide_eq_false h3]
    exact Tot.step (fun k => by rw [netlist_flop.j0]) (Tot.neg (by simp) (Tot.pos (by omega) (Tot.pos (by omega) (Tot.ite (fun _ => Tot.ite (fun _ => Tot.ite (fun _ => Tot.now _ trivial) (fun _ => Tot.now _ trivial)) (fun _ => Tot.now _ trivial)) (fun _ => Tot.now _ trivial)))))
section
variable (ins outs : List ByteArray) (fl : List Flp) (gs : List Gat) (os : List Int) (lb : List Cel) (hf : fl.length ≤ 2305843009213693952) (hg : gs.length ≤ 2305843009213693952) (ho : os.length ≤ 2305843009213693952)
include hf ho
theorem ends_tot : Tot (fun _ => True) (fun k => netlist_ends.f k ins outs fl gs os) := by
  unfold netlist_ends.f netlist_Nets.f netlist_First.f
  refine Tot.val rfl ?_
  refine down (P := fun i => Tot (fun _ => True) (fun k => netlist_ends.l0 k (wrap64 (wrap64 (wrap64 (2 + (ins.length : Int)) + (fl.length : Int)) + (gs.length : Int))) fl (fl.length : Int) (i : Int) ins outs fl gs os)) fl.length ?_ ?_ 0 (by omega)
  · refine Tot.step (fun k => by rw [netlist_ends.l0]) (Tot.neg (by omega) ?_)
    refine down (P := fun i => Tot (fun _ => True) (fun k => netlist_ends.l1 k (wrap64 (wrap64 (wrap64 (2 + (ins.length : Int)) + (fl.length : Int)) + (gs.length : Int))) os (os.length : Int) (i : Int))) os.length ?_ ?_ 0 (by omega)
    · exact Tot.step (fun k => by rw [netlist_ends.l1]) (Tot.neg (by omega) (Tot.now _ trivial))
    · intro i hi ih
      refine Tot.step (fun k => by rw [netlist_ends.l1]) (Tot.pos (by omega) (Tot.pos (by omega) (Tot.pos (by omega) (Tot.ite (fun _ => Tot.now _ trivial) (fun _ => Tot.ite (fun _ => Tot.now _ trivial) (fun _ => ?_))))))
      rw [ws hi (by omega)]
      exact ih
  · intro i hi ih
    refine Tot.step (fun k => by rw [netlist_ends.l0]) (Tot.pos (by omega) (Tot.pos (by omega) (Tot.pos (by omega) (Tot.ite (fun _ => Tot.now _ trivial) (fun _ => Tot.ite (fun _ => Tot.now _ trivial) (fun _ => Tot.ite (fun _ => Tot.now _ trivial) (fun _ => Tot.ite (fun _ => Tot.now _ trivial) (fun _ => ?_))))))))
    rw [ws hi (by omega)]
    exact ih
include hg
theorem form_l1 (fi : Int) : Tot (fun _ => True) (fun k => netlist_Form.l1 k fi gs (gs.length : Int) 0 ins outs fl gs os) := by
  refine down (P := fun i => Tot (fun _ => True) (fun k => netlist_Form.l1 k fi gs (gs.length : Int) (i : Int) ins outs fl gs os)) gs.length ?_ ?_ 0 (by omega)
  · exact Tot.step (fun k => by rw [netlist_Form.l1]) (Tot.neg (by omega) (Tot.bind (ends_tot ins outs fl gs os hf ho) (fun _ _ => Tot.now _ trivial)))
  · intro i hi ih
    refine Tot.step (fun k => by rw [netlist_Form.l1]) (Tot.pos (by omega) (Tot.pos (by omega) (Tot.pos (by omega) (Tot.ite (fun _ => Tot.now _ trivial) (fun h6 => Tot.val (a := netlist_Mask.f _) rfl (Tot.ite (fun _ => ?_) (fun _ => Tot.now _ trivial)))))))
    refine down (P := fun j => Tot (fun _ => True) (fun k => netlist_Form.l2 k fi (i : Int) gs (gs.length : Int) (i : Int) ((rd_T72 gs (i : Int)).f2) (((rd_T72 gs (i : Int)).f2).length : Int) (j : Int) ins outs fl gs os)) ((rd_T72 gs (i : Int)).f2).length ?_ ?_ 0 (by omega)
    · refine Tot.step (fun k => by rw [netlist_Form.l2]) (Tot.neg (by omega) ?_)
      rw [ws hi (by omega)]
      exact ih
    · intro j hj ih'
      refine Tot.step (fun k => by rw [netlist_Form.l2]) (Tot.pos (by omega) (Tot.pos (by omega) (Tot.pos (by omega) (Tot.ite (fun _ => Tot.now _ trivial) (fun _ => Tot.ite (fun _ => Tot.now _ trivial) (fun _ => ?_))))))
      rw [ws hj (by omega)]
      exact ih'
theorem form_tot : Tot (fun e => e = 0 → ins.length ≤ 128 ∧ outs.length ≤ 128 ∧ fl.length ≤ 288 ∧ gs.length ≤ 1200 ∧ outs.length = os.length) (fun k => netlist_Form.f k ins outs fl gs os) := by
  unfold netlist_Form.f
  have jt : Tot (fun e => e = 0 → ins.length ≤ 128 ∧ outs.length ≤ 128 ∧ fl.length ≤ 288 ∧ gs.length ≤ 1200 ∧ outs.length = os.length) (fun k => netlist_Form.j0 k true ins outs fl gs os) :=
    Tot.step (fun k => by rw [netlist_Form.j0]) (Tot.pos rfl (Tot.now _ (by omega)))
  refine Tot.ite (fun _ => jt) (fun h1 => Tot.ite (fun _ => jt) (fun h2 => Tot.ite (fun _ => jt) (fun h3 => ?_)))
  by_cases h4 : (gs.length : Int) > 1200
  · rw [decide_eq_true h4]; exact jt
  · rw [decide_eq_false h4]
    refine Tot.step (fun k => by rw [netlist_Form.j0]) (Tot.neg (by simp) (Tot.ite (fun h5 => ?_) (fun _ => Tot.now _ (by omega))))
    have hcl : slices_Clone_string_string.f ins = some ins := by
      unfold slices_Clone_string_string.f
      rw [if_pos (by omega)]
    refine Tot.val hcl ?_
    refine Tot.imp (Q := fun _ => True) ?_ (fun e _ _ => ⟨by omega, by omega, by omega, by omega, by omega⟩)
    have key := down (P := fun i => ∀ nm : List ByteArray, nm.length = ins.length + i → Tot (fun _ => True) (fun k => netlist_Form.l0 k nm fl (fl.length : Int) (i : Int) ins outs fl gs os)) fl.length ?_ ?_ 0 (by omega)
    · exact key ins rfl
    · intro nm _
      refine Tot.step (fun k => by rw [netlist_Form.l0]) (Tot.neg (by omega) (Tot.bind (names_tot nm) (fun e1 _ => Tot.ite (fun _ => Tot.bind (names_tot outs) (fun e2 _ => Tot.ite (fun _ => Tot.val (a := netlist_First.f ins outs fl gs os) rfl (form_l1 ins outs fl gs os hf hg ho _)) (fun _ => Tot.now _ trivial))) (fun _ => Tot.now _ trivial))))
    · intro i hi ih nm hnm
      refine Tot.step (fun k => by rw [netlist_Form.l0]) (Tot.pos (by omega) (Tot.pos (by omega) (Tot.pos (by omega) (Tot.pos (by omega) ?_))))
      rw [ws hi (by omega)]
      exact ih _ (by simp; omega)
/-- What the check of a netlist tells, if it is 0: its sizes, and that its cells are of the library. -/
def NF : Prop := ins.length ≤ 128 ∧ outs.length ≤ 128 ∧ fl.length ≤ 288 ∧ gs.length ≤ 1200 ∧ outs.length = os.length
theorem net_tot : Tot (fun e => e = 0 → NF ins outs fl gs os) (fun k => netlist_Check.f k ins outs fl gs os lb) := by
  unfold netlist_Check.f
  refine Tot.bind (form_tot ins outs fl gs os hf hg ho) (fun e he => Tot.ite (fun h0 => ?_) (fun h0 => Tot.now _ (fun h => absurd h h0)))
  refine Tot.imp (Q := fun _ => True) ?_ (fun _ _ _ => he h0)
  refine down (P := fun i => Tot (fun _ => True) (fun k => netlist_Check.l0 k lb gs (gs.length : Int) (i : Int) ins outs fl gs os)) gs.length ?_ ?_ 0 (by omega)
  · refine Tot.step (fun k => by rw [netlist_Check.l0]) (Tot.neg (by omega) ?_)
    refine down (P := fun i => Tot (fun _ => True) (fun k => netlist_Check.l1 k lb fl (fl.length : Int) (i : Int))) fl.length ?_ ?_ 0 (by omega)
    · exact Tot.step (fun k => by rw [netlist_Check.l1]) (Tot.neg (by omega) (Tot.now _ trivial))
    · intro i hi ih
      refine Tot.step (fun k => by rw [netlist_Check.l1]) (Tot.pos (by omega) (Tot.pos (by omega) (Tot.pos (by omega) (Tot.bind (flop_tot lb _ _ _ _ _) (fun e _ => Tot.ite (fun _ => ?_) (fun _ => Tot.now _ trivial))))))
      rw [ws hi (by omega)]
      exact ih
  · intro i hi ih
    refine Tot.step (fun k => by rw [netlist_Check.l0]) (Tot.pos (by omega) (Tot.pos (by omega) (Tot.pos (by omega) (Tot.bind (gate_tot lb _ _ _) (fun e _ => Tot.ite (fun _ => ?_) (fun _ => Tot.now _ trivial))))))
    rw [ws hi (by omega)]
    exact ih
end
end Go.Proofs.YtlegjcagkmjfjaaDoor.LTimingChecks
