/- The law FloorCells, its second form: for every input of bulk at most 1048576 it returns true, and each argument reads afterwards as it read before. Condition: what it reads is of bulk at most 1048576. -/
import Derived.Test.YtagpbgabcenodaaRows
import Derived.Test.YtagpbgabcenodaaStmFloorCells
import Derived.Test.YtagpbgabcenodaaPureFloorCells
import Derived.WalkKit
import Derived.ProofKit
import Derived.OpenShut
import Derived.ShutString
import Derived.ChangeOld
import Derived.Below
import Derived.SizedLaws
import Derived.JoinedCond
import Derived.Deep.CondSized
import Derived.Test.YtagpbgabcenodaaBlk
namespace Go.Proofs.Ytagpbgabcenodaa.floorCells
open Go.ChangeShapes Go.WideShapes Go.ChangeAt Go.RowKit
open Go.ChangeMaps (open_string shut_string)
open Go.Proofs.YtagpbgabcenodaaW.PrintWords Go.Proofs.Ytagpbgabcenodaa.Opn Go.Proofs.Ytagpbgabcenodaa.PF Go.Proofs.Ytagpbgabcenodaa.SFloorCells
set_option linter.unusedVariables false
set_option linter.unusedSimpArgs false

theorem own : ownKnob Try.prog.godebug = none := by kernel_rfl
theorem laidOut : laidOutB Try.prog = true := by kernel_rfl
set_option maxRecDepth 100000 in
set_option maxHeartbeats 1000000 in
theorem contract (H : Type) (enc : TypeId × Value → H) (W : World) (base : Nat) (args : Array Value) (ds gs : List (DataW H)) (before : List MemPlace)
    (hval0 : ∀ (j : Nat) t v, Try.f5.params[j]? = some t → args[j]? = some v → Value.okWide Try.prog W .any base t v)
    (hW : DataW.Whole enc Try.prog Try.f5.params.toList Rows.floorCellsSpec.vars false W args.toList ds gs before) (hk0 : Rows.uptoSmall H (ds ++ gs) = true)
    (hsz0 : (DataW.weightsEach Try.prog (Try.f5.params.toList ++ Rows.floorCellsSpec.plain.varTypes Try.prog) (ds ++ gs)).all (· ≤ reachBytes) = true) :
    Calls Try.prog 5 args W fun e W' => ∃ v, e = .returned v ∧ Rows.floorCellsSpec.post enc Try.prog Try.f5 false true false false W args v W' := by
  have hsz : (DataW.weightsEach Try.prog (Try.f5.params.toList ++ Rows.floorCellsSpec.plain.varTypes Try.prog) (ds ++ gs)).all (· ≤ reachBytes) = true := hsz0
  have hval : ∀ (j : Nat) t v, Try.f5.params[j]? = some t → args[j]? = some v → Value.okWide Try.prog W .any base t v := hval0
  have hW' := hW
  obtain ⟨p, q, hA0, hV, rfl, hfz, hnd⟩ := hW
  have hA : DataW.TrodAll enc Try.prog W 0 (fun _ => true) true Try.f5.params.toList args.toList ds p := hA0
  rw [Try.params5] at hA hval hsz
  obtain ⟨v0, vs0, d0, ds0, p0, q0, hargs, rfl, rfl, h0, r0⟩ := trodAll_cons hA
  obtain ⟨v1, vs1, d1, ds1, p1, q1, rfl, rfl, rfl, h1, r1⟩ := trodAll_cons r0
  obtain ⟨rfl, rfl, rfl⟩ := trodAll_nil r1
  obtain rfl : args = #[v0, v1] := by cases args; simp_all
  obtain ⟨rfl, rfl⟩ := trodVars_none hV
  have k0_ := h0
  have lt0 : ∀ x ∈ p0, x.block < W.heap.size := by obtain ⟨m, hm⟩ := k0_; exact DataW.trod_lt m _ _ _ hm
  obtain ⟨fuel0, hf0⟩ := h0
  obtain ⟨cs0, rfl, hz0⟩ := okWide_struct Try.underlying53 (hval 0 53 v0 rfl rfl)
  obtain ⟨⟨l0_0, ⟨l0_1, ⟨l0_2, ⟨l0_3, l0_4⟩⟩⟩⟩, ⟨_, _, e0, ⟨A0_0, c0_0, rfl, hl0_0, hr0_0⟩, ⟨_, _, rfl, ⟨A0_1, c0_1, rfl, hl0_1, hr0_1⟩, ⟨_, _, rfl, ⟨A0_2, c0_2, rfl, hl0_2, hr0_2⟩, ⟨_, _, rfl, ⟨A0_3, c0_3, rfl, hl0_3, hr0_3⟩, ⟨A0_4, c0_4, rfl, hl0_4, hr0_4⟩⟩⟩⟩⟩, ⟨g0_0, ⟨g0_1, ⟨g0_2, ⟨g0_3, g0_4⟩⟩⟩⟩⟩ := (OpensL.struct id id (fun _ => rfl) Try.underlying53 (by kernel_rfl) (OpensL.cons rfl (Opens.slice Try.underlying49 (by kernel_rfl) (by kernel_rfl) (Opens.string Try.underlying9 (by kernel_rfl))) (OpensL.cons rfl (Opens.slice Try.underlying49 (by kernel_rfl) (by kernel_rfl) (Opens.string Try.underlying9 (by kernel_rfl))) (OpensL.cons rfl (Opens.slice Try.underlying50 (by kernel_rfl) (by kernel_rfl) o80) (OpensL.cons rfl (Opens.slice Try.underlying51 (by kernel_rfl) (by kernel_rfl) o78) (OpensL.one rfl (Opens.slice Try.underlying22 (by kernel_rfl) (by kernel_rfl) (Opens.int Try.underlying3 (by kernel_rfl))))))))).op hf0 (light_of (j := 0) hsz rfl rfl)
  obtain rfl : cs0 = #[.slice A0_0 l0_0.length c0_0, .slice A0_1 l0_1.length c0_1, .slice A0_2 l0_2.length c0_2, .slice A0_3 l0_3.length c0_3, .slice A0_4 l0_4.length c0_4] := Array.ext' e0
  have k1_ := h1
  have lt1 : ∀ x ∈ p1, x.block < W.heap.size := by obtain ⟨m, hm⟩ := k1_; exact DataW.trod_lt m _ _ _ hm
  obtain ⟨fuel1, hf1⟩ := h1
  obtain ⟨A1, n1, c1, rfl⟩ := okWide_slice Try.underlying25 (hval 1 25 v1 rfl rfl)
  obtain ⟨l1, ⟨A1', c1', e1, hl1, hr1⟩, g1_⟩ := (Opens.slice Try.underlying25 (by kernel_rfl) (by kernel_rfl) o32).op hf1 (light_of (j := 1) hsz rfl rfl)
  simp only [Value.cells, List.cons.injEq, Value.slice.injEq, and_true] at e1
  obtain ⟨rfl, rfl, rfl⟩ := e1
  have hbk : Rows.uptoBulkAll [d0, d1] ≤ 1048576 := of_decide_eq_true hk0
  simp only [Rows.uptoBulkAll, Rows.uptoBulk] at hbk
  have u0_0 := Blk.fld_bulk Try.underlying53 hf0 0 _ rfl Try.underlying49 rfl
  have u0_1 := Blk.fld_bulk Try.underlying53 hf0 1 _ rfl Try.underlying49 rfl
  have u0_2 := Blk.fld_bulk Try.underlying53 hf0 2 _ rfl Try.underlying50 rfl
  have u0_3 := Blk.fld_bulk Try.underlying53 hf0 3 _ rfl Try.underlying51 rfl
  have u0_4 := Blk.fld_bulk Try.underlying53 hf0 4 _ rfl Try.underlying22 rfl
  have u1 := Blk.len_bulk Try.underlying25 rfl hf1
  obtain ⟨k, h⟩ := Pure.FloorCells l0_0 l0_1 l0_2 l0_3 l0_4 l1 g0_0 g0_1 g0_2 g0_3 g0_4 g1_ (by omega) (by omega) (by omega) (by omega) (by omega) (by omega)
  refine (PF.masklaw4_FloorCells.calls k _ _ l0_0 _ _ l0_1 _ _ l0_2 _ _ l0_3 _ _ l0_4 _ _ l1 true W hr0_0 hl0_0 hr0_1 hl0_1 hr0_2 hl0_2 hr0_3 hl0_3 hr0_4 hl0_4 hr1 hl1 h).mono fun e W' hq => ?_
  obtain ⟨he, bel0⟩ := hq
  have bel : Below W.heap.size W W' := bel0
  subst he
  exact ⟨_, rfl, _, _, _, [], _, [], hW', trodAll_mk1 (shut_bool Try.underlying4 _), (trodAll_cons_mk (Below.trod laidOut (by kernel_rfl) (of_decide_eq_true (by kernel_rfl)) k0_ bel lt0) (trodAll_cons_mk (Below.trod laidOut (by kernel_rfl) (of_decide_eq_true (by kernel_rfl)) k1_ bel lt1) trodAll_mk0)), rfl, bel.frame _, fun h => by cases h⟩
set_option maxRecDepth 100000 in
theorem lifted (os : Os) (started : os.Started) (H : Type) (enc : TypeId × Value → H) (F : Stop.Interp) :
    ReturnsInHanded {} Try.checked os 5 .any ((Rows.OpenSpec.upto Rows.floorCellsSpec).pre6 enc Try.prog Try.f5 Rows.floorCellsUptoRow.domain false) (((Rows.OpenSpec.upto Rows.floorCellsSpec).at F).post enc Try.prog Try.f5 false true false false) := by
  refine returnsInHanded_of_cond_sized (C := Try.checked) (s := Rows.OpenSpec.upto Rows.floorCellsSpec) (k := Rows.uptoSmall) rfl own started (by kernel_rfl) Try.func5
    (OpenSpec.witness (enc := enc) (C := Try.checked) (s := Rows.OpenSpec.upto Rows.floorCellsSpec) (k := Rows.uptoSmall) rfl false ⟨#[], #[.agg #[.slice none 0 0, .slice none 0 0, .slice none 0 0, .slice none 0 0, .slice none 0 0], .slice none 0 0], []⟩ 8 (by kernel_rfl) (by kernel_rfl) (by kernel_rfl)
      (x := ([.agg [.nil, .nil, .nil, .nil, .nil], .nil], [], [])) (by kernel_rfl) rfl (by kernel_rfl)) ?_
  intro W base args ds gs before hval hW _ hk hsz _
  exact contract H enc W base args ds gs before hval hW hk hsz
theorem over : Rows.FloorCellsUptoSaid :=
  OpenClaim.holds_of_cond 5 Try.f5 rfl rfl rfl rfl rfl rfl rfl ⟨rfl, rfl, rfl, rfl, rfl⟩ rfl rfl rfl rfl rfl (by kernel_rfl) Try.func5 (by kernel_rfl)
    (of_decide_eq_true (by kernel_rfl)) (by unfold Func.isWrapper; first | (rw [if_pos (by decide +kernel)]; kernel_rfl) | (rw [if_neg (by decide +kernel)]; exact ⟨rfl, rfl⟩))
    (fun os started H enc _ F => lifted os started H enc F)
theorem proved : Rows.FloorCellsUptoSaid := over
#print axioms proved
end Go.Proofs.Ytagpbgabcenodaa.floorCells
namespace Go.Proofs.Ytagpbgabcenodaa
theorem floorCellsUpto_holds : Rows.FloorCellsUptoSaid := floorCells.proved
end Go.Proofs.Ytagpbgabcenodaa
