/- The pure statement of the law FloorCells (second form), proved. Condition: lists of at most 1048576 elements. -/
import Derived.Test.YtagpbgabcenodaaLFloorCellsNet
namespace Go.Proofs.Ytagpbgabcenodaa.Pure
open Go.RowKit Go.Proofs.YtagpbgabcenodaaW.PrintWords Go.Proofs.Ytagpbgabcenodaa.Opn Go.Proofs.Ytagpbgabcenodaa.PF Go.Proofs.Ytagpbgabcenodaa.SFloorCells Go.Proofs.Ytagpbgabcenodaa.Aid Go.Proofs.Ytagpbgabcenodaa.LFloorCells
set_option linter.unusedVariables false
set_option linter.unusedSimpArgs false

abbrev Prt := S59
section
variable (ins outs : List ByteArray) (fl : List Flp) (gs : List Gat) (os : List Int)
theorem ports_l1 : ∀ (k : Nat) (x3 : List Prt) (x22 : List ByteArray) (x23 x24 : Int), floor_Names.l1 k x3 x22 x23 x24 ins outs fl gs os = maskref4_PortsOf.l1 k x3 x22 x23 x24 ins outs fl gs os := by
  intro k
  induction k with
  | zero => intros; rfl
  | succ k ih => intros; simp only [floor_Names.l1, maskref4_PortsOf.l1, ih]
theorem ports_l0 : ∀ (k : Nat) (x3 : List Prt) (x9 : List ByteArray) (x10 x11 : Int), floor_Names.l0 k x3 x9 x10 x11 ins outs fl gs os = maskref4_PortsOf.l0 k x3 x9 x10 x11 ins outs fl gs os := by
  intro k
  induction k with
  | zero => intros; rfl
  | succ k ih => intros; simp only [floor_Names.l0, maskref4_PortsOf.l0, ih, ports_l1]
theorem ports_eq (k : Nat) : floor_Names.f k ins outs fl gs os = maskref4_PortsOf.f k ins outs fl gs os := by
  unfold floor_Names.f maskref4_PortsOf.f
  exact ports_l0 ins outs fl gs os k _ _ _ _
theorem ports_tot (h1 : ins.length ≤ 1048576) (h2 : outs.length ≤ 1048576) : Tot (fun r => r.length ≤ 2097153) (fun k => floor_Names.f k ins outs fl gs os) := by
  unfold floor_Names.f
  have key := down (P := fun i => ∀ acc : List Prt, acc.length = i → Tot (fun r => r.length ≤ 2097153) (fun k => floor_Names.l0 k acc ins (ins.length : Int) (i : Int) ins outs fl gs os)) ins.length ?_ ?_ 0 (by omega)
  · exact key [] rfl
  · intro acc hacc
    refine Tot.step (fun k => by rw [floor_Names.l0]) (Tot.neg (by omega) ?_)
    have key2 := down (P := fun i => ∀ acc : List Prt, acc.length = ins.length + i → Tot (fun r => r.length ≤ 2097153) (fun k => floor_Names.l1 k acc outs (outs.length : Int) (i : Int) ins outs fl gs os)) outs.length ?_ ?_ 0 (by omega)
    · exact key2 acc hacc
    · intro acc' h'
      refine Tot.step (fun k => by rw [floor_Names.l1]) (Tot.neg (by omega) (Tot.ite (fun _ => Tot.pos (by omega) (Tot.now _ ?_)) (fun _ => Tot.now _ (by omega))))
      simp
      omega
    · intro i hi ih acc' h'
      refine Tot.step (fun k => by rw [floor_Names.l1]) (Tot.pos (by omega) (Tot.pos (by omega) (Tot.pos (by omega) (Tot.pos (by omega) ?_))))
      rw [ws hi (by omega)]
      exact ih _ (by simp; omega)
  · intro i hi ih acc hacc
    refine Tot.step (fun k => by rw [floor_Names.l0]) (Tot.pos (by omega) (Tot.pos (by omega) (Tot.pos (by omega) (Tot.pos (by omega) ?_))))
    rw [ws hi (by omega)]
    exact ih _ (by simp; omega)
theorem port_refl (R : List Prt) (h : R.length ≤ 2097153) : Ev (fun k => floor_Port.f k R R) true := by
  unfold floor_Port.f
  refine Ev.pos rfl ?_
  refine down (P := fun i => Ev (fun k => floor_Port.l0 k R R (R.length : Int) (i : Int)) true) R.length ?_ ?_ 0 (by omega)
  · exact Ev.step (fun k => by rw [floor_Port.l0]) (Ev.neg (by omega) (Ev.now _))
  · intro i hi ih
    refine Ev.step (fun k => by rw [floor_Port.l0]) (Ev.pos (by omega) (Ev.pos (by omega) (Ev.pos (by omega) (Ev.pos (by omega) (Ev.neg (by simp) ?_)))))
    rw [ws hi (by omega)]
    exact ih

/-- The cells of gates and flip-flops. -/
def cellsOf (gs : List Gat) (fl : List Flp) : List Int := gs.map (fun g => g.f0) ++ fl.map (fun f => f.f1)
theorem take_g {i : Nat} (hi : i < gs.length) : (gs.take (i + 1)).map (fun g : Gat => g.f0) = (gs.take i).map (fun g : Gat => g.f0) ++ [(rd_T78 gs (i : Int)).f0] := by
  rw [List.take_succ_eq_append_getElem hi, List.map_append]
  unfold rd_T78
  rw [Int.toNat_natCast, List.getD_eq_getElem?_getD, List.getElem?_eq_getElem hi]
  rfl
theorem take_f {i : Nat} (hi : i < fl.length) : (fl.take (i + 1)).map (fun f : Flp => f.f1) = (fl.take i).map (fun f : Flp => f.f1) ++ [(rd_T80 fl (i : Int)).f1] := by
  rw [List.take_succ_eq_append_getElem hi, List.map_append]
  unfold rd_T80
  rw [Int.toNat_natCast, List.getD_eq_getElem?_getD, List.getElem?_eq_getElem hi]
  rfl
theorem cells_ev (hg : gs.length ≤ 1048576) (hf : fl.length ≤ 1048576) : Ev (fun k => maskref4_CellsOf.f k ins outs fl gs os) (cellsOf gs fl) := by
  unfold maskref4_CellsOf.f
  refine down (P := fun i => Ev (fun k => maskref4_CellsOf.l0 k ((gs.take i).map (fun g => g.f0)) gs (gs.length : Int) (i : Int) ins outs fl gs os) (cellsOf gs fl)) gs.length ?_ ?_ 0 (by omega)
  · refine Ev.step (fun k => by rw [maskref4_CellsOf.l0]) (Ev.neg (by omega) ?_)
    rw [List.take_length]
    have key := down (P := fun i => Ev (fun k => maskref4_CellsOf.l1 k (gs.map (fun g => g.f0) ++ (fl.take i).map (fun f => f.f1)) fl (fl.length : Int) (i : Int)) (cellsOf gs fl)) fl.length ?_ ?_ 0 (by omega)
    · simpa using key
    · refine Ev.step (fun k => by rw [maskref4_CellsOf.l1]) (Ev.neg (by omega) ?_)
      rw [List.take_length]
      exact Ev.now _
    · intro i hi ih
      rw [take_f fl hi, ← List.append_assoc] at ih
      refine Ev.step (fun k => by rw [maskref4_CellsOf.l1]) (Ev.pos (by omega) (Ev.pos (by omega) (Ev.pos (by omega) (Ev.pos (by simp; omega) ?_))))
      rw [ws hi (by omega)]
      exact ih
  · intro i hi ih
    rw [take_g gs hi] at ih
    refine Ev.step (fun k => by rw [maskref4_CellsOf.l0]) (Ev.pos (by omega) (Ev.pos (by omega) (Ev.pos (by omega) (Ev.pos (by simp; omega) ?_))))
    rw [ws hi (by omega)]
    exact ih
variable (l : List Cel)
def arOf (l : List Cel) (c : Int) : Int := if c < 0 then 0 else if c ≥ (l.length : Int) then 0 else (rd_T32 l c).f4
theorem area_eq (c : Int) : floor_area.f l c = some (arOf l c) := by
  unfold floor_area.f arOf
  by_cases h : c < 0
  · rw [if_pos h, if_pos h]
  · rw [if_neg h, if_neg h]
    by_cases h' : c ≥ (l.length : Int)
    · rw [if_pos h', if_pos h']
    · rw [if_neg h', if_neg h', if_pos (by omega), if_pos (by omega)]
theorem areas_ev (hg : gs.length ≤ 1048576) (hf : fl.length ≤ 1048576) : Ev (fun k => floor_Areas.f k ins outs fl gs os l) ((cellsOf gs fl).map (arOf l)) := by
  unfold floor_Areas.f
  refine down (P := fun i => Ev (fun k => floor_Areas.l0 k l (((gs.take i).map (fun g => g.f0)).map (arOf l)) gs (gs.length : Int) (i : Int) ins outs fl gs os) ((cellsOf gs fl).map (arOf l))) gs.length ?_ ?_ 0 (by omega)
  · refine Ev.step (fun k => by rw [floor_Areas.l0]) (Ev.neg (by omega) ?_)
    rw [List.take_length]
    have key := down (P := fun i => Ev (fun k => floor_Areas.l1 k l ((gs.map (fun g => g.f0) ++ (fl.take i).map (fun f => f.f1)).map (arOf l)) fl (fl.length : Int) (i : Int)) ((cellsOf gs fl).map (arOf l))) fl.length ?_ ?_ 0 (by omega)
    · simpa using key
    · refine Ev.step (fun k => by rw [floor_Areas.l1]) (Ev.neg (by omega) ?_)
      rw [List.take_length]
      exact Ev.now _
    · intro i hi ih
      rw [take_f fl hi, ← List.append_assoc, List.map_append (l₂ := [_])] at ih
      refine Ev.step (fun k => by rw [floor_Areas.l1]) (Ev.pos (by omega) (Ev.pos (by omega) (Ev.pos (by omega) ?_)))
      rw [area_eq, ws hi (by omega)]
      exact Ev.val rfl (Ev.pos (by simp; omega) ih)
  · intro i hi ih
    rw [take_g gs hi, List.map_append (l₂ := [_])] at ih
    refine Ev.step (fun k => by rw [floor_Areas.l0]) (Ev.pos (by omega) (Ev.pos (by omega) (Ev.pos (by omega) ?_)))
    rw [area_eq, ws hi (by omega)]
    exact Ev.val rfl (Ev.pos (by simp; omega) ih)
theorem in_eq (n a b : Int) : maskref4_In.f n a b = some (decide (a ≤ n ∧ n ≤ b)) := by
  unfold maskref4_In.f
  by_cases h : a ≤ n
  · rw [if_pos h]
    simp [h]
  · rw [if_neg h]
    simp [h]
theorem rd_map (f : Int → Int) (cs : List Int) (i : Nat) (hi : i < cs.length) : rd (cs.map f) (i : Int) = f (rd cs (i : Int)) := by
  unfold rd
  rw [Int.toNat_natCast, List.getD_eq_getElem?_getD, List.getD_eq_getElem?_getD, List.getElem?_map, List.getElem?_eq_getElem hi]
  rfl
theorem law_l0 (cs : List Int) (hl : l.length ≤ 1048576) (hc : cs.length ≤ 4194304) : Ev (fun k => masklaw4_FloorCells.l0 k l (cs.map (arOf l)) cs (cs.length : Int) 0) true := by
  have hlen : (cs.map (arOf l)).length = cs.length := List.length_map _
  refine down (P := fun i => Ev (fun k => masklaw4_FloorCells.l0 k l (cs.map (arOf l)) cs (cs.length : Int) (i : Int)) true) cs.length ?_ ?_ 0 (by omega)
  · exact Ev.step (fun k => by rw [masklaw4_FloorCells.l0]) (Ev.neg (by omega) (Ev.now _))
  · intro i hi ih
    have ew : Aside0 (wrap64 ((i : Int) + 1) = ((i + 1 : Nat) : Int)) := ⟨ws hi (by omega)⟩
    have el : Aside0 (wrap64 ((l.length : Int) - 1) = (l.length : Int) - 1) := ⟨w64 (by omega) (by omega)⟩
    refine Ev.step (fun k => by rw [masklaw4_FloorCells.l0]) (Ev.pos (by omega) (Ev.pos (by omega) (Ev.pos (by omega) ?_)))
    rw [in_eq, el.out, rd_map _ _ _ hi, ew.out]
    refine Ev.val rfl ?_
    by_cases h : 0 ≤ rd cs (i : Int) ∧ rd cs (i : Int) ≤ (l.length : Int) - 1
    · refine Ev.pos (decide_eq_true h) (Ev.pos h.1 (Ev.pos (by omega) (Ev.pos (by omega) (Ev.pos ?_ ih))))
      unfold arOf
      rw [if_neg (by omega), if_neg (by omega)]
    · refine Ev.neg (by simpa using h) (Ev.pos (by omega) (Ev.pos ?_ ih))
      unfold arOf
      by_cases h' : rd cs (i : Int) < 0
      · rw [if_pos h']
      · rw [if_neg h', if_pos (by omega)]
end

theorem FloorCells : SFloorCells.Pure := by
  intro ins outs fl gs os l gi go gf gg gos gl b1 b2 b3 b4 b5 b6
  obtain ⟨e, e1, e2, _⟩ := libs_same l
  obtain ⟨d, d1, d2, _⟩ := chips_same ins outs fl gs os l (by omega) (by omega) (by omega)
  obtain ⟨R, r1, r2⟩ := ports_tot ins outs fl gs os b1 b2
  have r3 : Ev (fun k => maskref4_PortsOf.f k ins outs fl gs os) R := Ev.congr (fun k => (ports_eq ins outs fl gs os k).symm) r1
  have hlen : (cellsOf gs fl).length = gs.length + fl.length := by unfold cellsOf; simp
  have hl2 : (((cellsOf gs fl).map (arOf l)).length : Int) = ((cellsOf gs fl).length : Int) := by simp
  refine Ev.rounds (g := fun k => masklaw4_FloorCells.f k ins outs fl gs os l) ?_
  unfold masklaw4_FloorCells.f
  refine Ev.val (a := masklaw4_floors.f) rfl (Ev.pos rfl (Ev.bind e1 (Ev.bind e2 (Ev.pos rfl (Ev.bind d1 (Ev.bind d2 ?_))))))
  rw [show (d != d) = false by simp]
  refine Ev.step (fun k => by rw [masklaw4_FloorCells.j0]) (Ev.neg (by simp) (Ev.bind r1 (Ev.bind r3 (Ev.bind (port_refl R r2) (Ev.pos rfl (Ev.bind (areas_ev ins outs fl gs os l b4 b3) (Ev.bind (cells_ev ins outs fl gs os b4 b3) (Ev.pos hl2 ?_))))))))
  exact law_l0 l _ b6 (by omega)

end Go.Proofs.Ytagpbgabcenodaa.Pure
