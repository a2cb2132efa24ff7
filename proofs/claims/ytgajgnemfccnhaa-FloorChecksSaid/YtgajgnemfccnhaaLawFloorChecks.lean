/- The law FloorChecks: for every input it returns true, and each argument reads afterwards as it read before. No conditions. -/
import Derived.Test.YtgajgnemfccnhaaRows
import Derived.Test.YtgajgnemfccnhaaStmFloorChecks
import Derived.Test.YtgajgnemfccnhaaPureFloorChecks
import Derived.WalkKit
import Derived.ProofKit
import Derived.OpenShut
import Derived.ShutString
import Derived.ChangeOld
import Derived.Below
import Derived.SizedLaws
namespace Go.Proofs.Ytgajgnemfccnhaa.floorChecks
open Go.ChangeShapes Go.WideShapes Go.ChangeAt Go.RowKit
open Go.ChangeMaps (open_string shut_string)
open Go.Proofs.YtgajgnemfccnhaaW.PrintWords Go.Proofs.Ytgajgnemfccnhaa.Opn Go.Proofs.Ytgajgnemfccnhaa.PA Go.Proofs.Ytgajgnemfccnhaa.SFloorChecks
set_option linter.unusedVariables false
set_option linter.unusedSimpArgs false

theorem own : ownKnob Try.prog.godebug = none := by kernel_rfl
theorem laidOut : laidOutB Try.prog = true := by kernel_rfl
set_option maxRecDepth 100000 in
set_option maxHeartbeats 1000000 in
theorem lifted (os : Os) (started : os.Started) (H : Type) (enc : TypeId × Value → H) :
    ReturnsInHanded {} Try.checked os 6 .any (Rows.floorChecksSpec.pre6 enc Try.prog Try.f6 Rows.floorChecksRow.domain false) (Rows.floorChecksSpec.post enc Try.prog Try.f6 false true false false) := by
  refine returnsInHanded_of_change_sized (C := Try.checked) own started (by kernel_rfl) Try.func6
    (ChangeSpec.witness6 (enc := enc) (C := Try.checked) false ⟨#[], #[.agg #[.int .i64 0, .int .i64 0, .int .i64 0, .slice none 0 0, .slice none 0 0, .slice none 0 0], .int .i64 0, .string ByteArray.empty, .bool false], []⟩ 8 (by kernel_rfl) (by kernel_rfl) (by kernel_rfl) (by kernel_rfl)) ?_
  intro W base args ds gs before hval0 hW hcnd hsz0 _
  have hsz : (DataW.weightsEach Try.prog (Try.f6.params.toList ++ Rows.floorChecksSpec.plain.varTypes Try.prog) (ds ++ gs)).all (· ≤ reachBytes) = true := hsz0
  have hval : ∀ (j : Nat) t v, Try.f6.params[j]? = some t → args[j]? = some v → Value.okWide Try.prog W .any base t v := hval0
  have hW' := hW
  obtain ⟨p, q, hA0, hV, rfl, hfz, hnd⟩ := hW
  have hA : DataW.TrodAll enc Try.prog W 0 (fun _ => true) true Try.f6.params.toList args.toList ds p := hA0
  rw [Try.params6] at hA hval hsz
  obtain ⟨v0, vs0, d0, ds0, p0, q0, hargs, rfl, rfl, h0, r0⟩ := trodAll_cons hA
  obtain ⟨v1, vs1, d1, ds1, p1, q1, rfl, rfl, rfl, h1, r1⟩ := trodAll_cons r0
  obtain ⟨v2, vs2, d2, ds2, p2, q2, rfl, rfl, rfl, h2, r2⟩ := trodAll_cons r1
  obtain ⟨v3, vs3, d3, ds3, p3, q3, rfl, rfl, rfl, h3, r3⟩ := trodAll_cons r2
  obtain ⟨rfl, rfl, rfl⟩ := trodAll_nil r3
  obtain rfl : args = #[v0, v1, v2, v3] := by cases args; simp_all
  obtain ⟨rfl, rfl⟩ := trodVars_none hV
  have k0_ := h0
  have lt0 : ∀ x ∈ p0, x.block < W.heap.size := by obtain ⟨m, hm⟩ := k0_; exact DataW.trod_lt m _ _ _ hm
  obtain ⟨fuel0, hf0⟩ := h0
  obtain ⟨cs0, rfl, hz0⟩ := okWide_struct Try.underlying57 (hval 0 57 v0 rfl rfl)
  obtain ⟨⟨a0_0, ⟨a0_1, ⟨a0_2, ⟨l0_3, ⟨l0_4, l0_5⟩⟩⟩⟩⟩, ⟨_, _, e0, rfl, ⟨_, _, rfl, rfl, ⟨_, _, rfl, rfl, ⟨_, _, rfl, ⟨A0_3, c0_3, rfl, hl0_3, hr0_3⟩, ⟨_, _, rfl, ⟨A0_4, c0_4, rfl, hl0_4, hr0_4⟩, ⟨A0_5, c0_5, rfl, hl0_5, hr0_5⟩⟩⟩⟩⟩⟩, ⟨g0_0, ⟨g0_1, ⟨g0_2, ⟨g0_3, ⟨g0_4, g0_5⟩⟩⟩⟩⟩⟩ := (OpensL.struct id id (fun _ => rfl) Try.underlying57 (by kernel_rfl) (OpensL.cons rfl (Opens.int Try.underlying3 (by kernel_rfl)) (OpensL.cons rfl (Opens.int Try.underlying3 (by kernel_rfl)) (OpensL.cons rfl (Opens.int Try.underlying3 (by kernel_rfl)) (OpensL.cons rfl (Opens.slice Try.underlying53 (by kernel_rfl) (by kernel_rfl) o98) (OpensL.cons rfl (Opens.slice Try.underlying54 (by kernel_rfl) (by kernel_rfl) o100) (OpensL.one rfl (Opens.slice Try.underlying55 (by kernel_rfl) (by kernel_rfl) o96)))))))).op hf0 (light_of (j := 0) hsz rfl rfl)
  obtain rfl : cs0 = #[.int .i64 a0_0, .int .i64 a0_1, .int .i64 a0_2, .slice A0_3 l0_3.length c0_3, .slice A0_4 l0_4.length c0_4, .slice A0_5 l0_5.length c0_5] := Array.ext' e0
  obtain ⟨a1, rfl, rfl, rfl, w1⟩ := open_int Try.underlying3 (hval 1 3 v1 rfl rfl) h1
  obtain ⟨a2, rfl, rfl, rfl, y2⟩ := open_string Try.underlying9 (hval 2 9 v2 rfl rfl) h2
  have w2 : a2.size ≤ 140737488351232 := by
    have z := sized_string hsz (j := 2) (t := 9) rfl rfl
    rw [Array.length_toList] at z
    exact z
  obtain ⟨a3, rfl, rfl, rfl⟩ := open_bool Try.underlying4 (hval 3 4 v3 rfl rfl) h3
  obtain ⟨k, h⟩ := Pure.FloorChecks a0_0 a0_1 a0_2 l0_3 l0_4 l0_5 a1 a2 a3 g0_0 g0_1 g0_2 g0_3 g0_4 g0_5 w1 w2
  refine (PA.masklaw4_FloorChecks.calls k a0_0 a0_1 a0_2 _ _ l0_3 _ _ l0_4 _ _ l0_5 a1 a2 a3 true W hr0_3 hl0_3 hr0_4 hl0_4 hr0_5 hl0_5 h).mono fun e W' hq => ?_
  obtain ⟨he, bel0⟩ := hq
  have bel : Below W.heap.size W W' := bel0
  subst he
  exact ⟨_, rfl, _, _, _, [], _, [], hW', trodAll_mk1 (shut_bool Try.underlying4 _), (trodAll_cons_mk (Below.trod laidOut (by kernel_rfl) (of_decide_eq_true (by kernel_rfl)) k0_ bel lt0) (trodAll_cons_mk (shut_int Try.underlying3 w1) (trodAll_cons_mk (shut_string Try.underlying9 y2) (trodAll_cons_mk (shut_bool Try.underlying4 _) trodAll_mk0)))), rfl, bel.frame _, fun h => by cases h⟩
theorem over : Rows.floorChecksRow.holds Try.pinned (OpenSpec.ofChange Rows.floorChecksSpec) :=
  OpenClaim.holds_of_wide 6 Try.f6 rfl rfl rfl rfl rfl rfl rfl ⟨rfl, rfl, rfl, rfl, rfl⟩ rfl rfl rfl rfl rfl (by kernel_rfl) Try.func6 (by kernel_rfl)
    (of_decide_eq_true (by kernel_rfl)) (by unfold Func.isWrapper; first | (rw [if_pos (by decide +kernel)]; kernel_rfl) | (rw [if_neg (by decide +kernel)]; exact ⟨rfl, rfl⟩))
    (fun os started H enc _ => lifted os started H enc)
theorem proved : Rows.FloorChecksSaid := over
#print axioms proved
end Go.Proofs.Ytgajgnemfccnhaa.floorChecks
namespace Go.Proofs.Ytgajgnemfccnhaa
theorem floorChecks_holds : Rows.FloorChecksSaid := floorChecks.proved
end Go.Proofs.Ytgajgnemfccnhaa
