/- The law DelayChecks: for every input it returns true, and each argument reads afterwards as it read before. No conditions. -/
import Derived.Test.YtgajgnemfccnhaaRows
import Derived.Test.YtgajgnemfccnhaaStmDelayChecks
import Derived.Test.YtgajgnemfccnhaaPureDelayChecks
import Derived.WalkKit
import Derived.ProofKit
import Derived.OpenShut
import Derived.ShutString
import Derived.ChangeOld
import Derived.Below
import Derived.SizedLaws
namespace Go.Proofs.Ytgajgnemfccnhaa.delayChecks
open Go.ChangeShapes Go.WideShapes Go.ChangeAt Go.RowKit
open Go.ChangeMaps (open_string shut_string)
open Go.Proofs.YtgajgnemfccnhaaW.PrintWords Go.Proofs.Ytgajgnemfccnhaa.Opn Go.Proofs.Ytgajgnemfccnhaa.PDelayChecks Go.Proofs.Ytgajgnemfccnhaa.SDelayChecks
set_option linter.unusedVariables false
set_option linter.unusedSimpArgs false

theorem own : ownKnob Try.prog.godebug = none := by kernel_rfl
theorem laidOut : laidOutB Try.prog = true := by kernel_rfl
set_option maxRecDepth 100000 in
set_option maxHeartbeats 1000000 in
theorem lifted (os : Os) (started : os.Started) (H : Type) (enc : TypeId × Value → H) :
    ReturnsInHanded {} Try.checked os 3 .any (Rows.delayChecksSpec.pre6 enc Try.prog Try.f3 Rows.delayChecksRow.domain false) (Rows.delayChecksSpec.post enc Try.prog Try.f3 false true false false) := by
  refine returnsInHanded_of_change_sized (C := Try.checked) own started (by kernel_rfl) Try.func3
    (ChangeSpec.witness6 (enc := enc) (C := Try.checked) false ⟨#[], #[.agg #[.slice none 0 0, .slice none 0 0, .slice none 0 0, .slice none 0 0, .slice none 0 0], .agg #[.slice none 0 0, .slice none 0 0, .slice none 0 0, .slice none 0 0, .slice none 0 0]], []⟩ 8 (by kernel_rfl) (by kernel_rfl) (by kernel_rfl) (by kernel_rfl)) ?_
  intro W base args ds gs before hval0 hW hcnd hsz0 _
  have hsz : (DataW.weightsEach Try.prog (Try.f3.params.toList ++ Rows.delayChecksSpec.plain.varTypes Try.prog) (ds ++ gs)).all (· ≤ reachBytes) = true := hsz0
  have hval : ∀ (j : Nat) t v, Try.f3.params[j]? = some t → args[j]? = some v → Value.okWide Try.prog W .any base t v := hval0
  have hW' := hW
  obtain ⟨p, q, hA0, hV, rfl, hfz, hnd⟩ := hW
  have hA : DataW.TrodAll enc Try.prog W 0 (fun _ => true) true Try.f3.params.toList args.toList ds p := hA0
  rw [Try.params3] at hA hval hsz
  obtain ⟨v0, vs0, d0, ds0, p0, q0, hargs, rfl, rfl, h0, r0⟩ := trodAll_cons hA
  obtain ⟨v1, vs1, d1, ds1, p1, q1, rfl, rfl, rfl, h1, r1⟩ := trodAll_cons r0
  obtain ⟨rfl, rfl, rfl⟩ := trodAll_nil r1
  obtain rfl : args = #[v0, v1] := by cases args; simp_all
  obtain ⟨rfl, rfl⟩ := trodVars_none hV
  have k0_ := h0
  have lt0 : ∀ x ∈ p0, x.block < W.heap.size := by obtain ⟨m, hm⟩ := k0_; exact DataW.trod_lt m _ _ _ hm
  obtain ⟨fuel0, hf0⟩ := h0
  obtain ⟨cs0, rfl, hz0⟩ := okWide_struct Try.underlying27 (hval 0 27 v0 rfl rfl)
  obtain ⟨⟨l0_0, ⟨l0_1, ⟨l0_2, ⟨l0_3, l0_4⟩⟩⟩⟩, ⟨_, _, e0, ⟨A0_0, c0_0, rfl, hl0_0, hr0_0⟩, ⟨_, _, rfl, ⟨A0_1, c0_1, rfl, hl0_1, hr0_1⟩, ⟨_, _, rfl, ⟨A0_2, c0_2, rfl, hl0_2, hr0_2⟩, ⟨_, _, rfl, ⟨A0_3, c0_3, rfl, hl0_3, hr0_3⟩, ⟨A0_4, c0_4, rfl, hl0_4, hr0_4⟩⟩⟩⟩⟩, ⟨g0_0, ⟨g0_1, ⟨g0_2, ⟨g0_3, g0_4⟩⟩⟩⟩⟩ := (OpensL.struct id id (fun _ => rfl) Try.underlying27 (by kernel_rfl) (OpensL.cons rfl (Opens.slice Try.underlying22 (by kernel_rfl) (by kernel_rfl) (Opens.string Try.underlying9 (by kernel_rfl))) (OpensL.cons rfl (Opens.slice Try.underlying22 (by kernel_rfl) (by kernel_rfl) (Opens.string Try.underlying9 (by kernel_rfl))) (OpensL.cons rfl (Opens.slice Try.underlying23 (by kernel_rfl) (by kernel_rfl) o86) (OpensL.cons rfl (Opens.slice Try.underlying24 (by kernel_rfl) (by kernel_rfl) o88) (OpensL.one rfl (Opens.slice Try.underlying25 (by kernel_rfl) (by kernel_rfl) (Opens.int Try.underlying3 (by kernel_rfl))))))))).op hf0 (light_of (j := 0) hsz rfl rfl)
  obtain rfl : cs0 = #[.slice A0_0 l0_0.length c0_0, .slice A0_1 l0_1.length c0_1, .slice A0_2 l0_2.length c0_2, .slice A0_3 l0_3.length c0_3, .slice A0_4 l0_4.length c0_4] := Array.ext' e0
  have k1_ := h1
  have lt1 : ∀ x ∈ p1, x.block < W.heap.size := by obtain ⟨m, hm⟩ := k1_; exact DataW.trod_lt m _ _ _ hm
  obtain ⟨fuel1, hf1⟩ := h1
  obtain ⟨cs1, rfl, hz1⟩ := okWide_struct Try.underlying31 (hval 1 31 v1 rfl rfl)
  obtain ⟨⟨l1_0, ⟨l1_1, ⟨l1_2, ⟨l1_3, l1_4⟩⟩⟩⟩, ⟨_, _, e1, ⟨A1_0, c1_0, rfl, hl1_0, hr1_0⟩, ⟨_, _, rfl, ⟨A1_1, c1_1, rfl, hl1_1, hr1_1⟩, ⟨_, _, rfl, ⟨A1_2, c1_2, rfl, hl1_2, hr1_2⟩, ⟨_, _, rfl, ⟨A1_3, c1_3, rfl, hl1_3, hr1_3⟩, ⟨A1_4, c1_4, rfl, hl1_4, hr1_4⟩⟩⟩⟩⟩, ⟨g1_0, ⟨g1_1, ⟨g1_2, ⟨g1_3, g1_4⟩⟩⟩⟩⟩ := (OpensL.struct id id (fun _ => rfl) Try.underlying31 (by kernel_rfl) (OpensL.cons rfl (Opens.slice Try.underlying28 (by kernel_rfl) (by kernel_rfl) (Opens.slice Try.underlying29 (by kernel_rfl) (by kernel_rfl) o38)) (OpensL.cons rfl (Opens.slice Try.underlying28 (by kernel_rfl) (by kernel_rfl) (Opens.slice Try.underlying29 (by kernel_rfl) (by kernel_rfl) o38)) (OpensL.cons rfl (Opens.slice Try.underlying29 (by kernel_rfl) (by kernel_rfl) o38) (OpensL.cons rfl (Opens.slice Try.underlying29 (by kernel_rfl) (by kernel_rfl) o38) (OpensL.one rfl (Opens.slice Try.underlying29 (by kernel_rfl) (by kernel_rfl) o38))))))).op hf1 (light_of (j := 1) hsz rfl rfl)
  obtain rfl : cs1 = #[.slice A1_0 l1_0.length c1_0, .slice A1_1 l1_1.length c1_1, .slice A1_2 l1_2.length c1_2, .slice A1_3 l1_3.length c1_3, .slice A1_4 l1_4.length c1_4] := Array.ext' e1
  obtain ⟨k, h⟩ := Pure.DelayChecks l0_0 l0_1 l0_2 l0_3 l0_4 l1_0 l1_1 l1_2 l1_3 l1_4 g0_0 g0_1 g0_2 g0_3 g0_4 g1_0 g1_1 g1_2 g1_3 g1_4
  refine (PDelayChecks.masklaw4_DelayChecks.calls k _ _ l0_0 _ _ l0_1 _ _ l0_2 _ _ l0_3 _ _ l0_4 _ _ l1_0 _ _ l1_1 _ _ l1_2 _ _ l1_3 _ _ l1_4 true W hr0_0 hl0_0 hr0_1 hl0_1 hr0_2 hl0_2 hr0_3 hl0_3 hr0_4 hl0_4 hr1_0 hl1_0 hr1_1 hl1_1 hr1_2 hl1_2 hr1_3 hl1_3 hr1_4 hl1_4 h).mono fun e W' hq => ?_
  obtain ⟨he, bel0⟩ := hq
  have bel : Below W.heap.size W W' := bel0
  subst he
  exact ⟨_, rfl, _, _, _, [], _, [], hW', trodAll_mk1 (shut_bool Try.underlying4 _), (trodAll_cons_mk (Below.trod laidOut (by kernel_rfl) (of_decide_eq_true (by kernel_rfl)) k0_ bel lt0) (trodAll_cons_mk (Below.trod laidOut (by kernel_rfl) (of_decide_eq_true (by kernel_rfl)) k1_ bel lt1) trodAll_mk0)), rfl, bel.frame _, fun h => by cases h⟩
theorem over : Rows.delayChecksRow.holds Try.pinned (OpenSpec.ofChange Rows.delayChecksSpec) :=
  OpenClaim.holds_of_wide 3 Try.f3 rfl rfl rfl rfl rfl rfl rfl ⟨rfl, rfl, rfl, rfl, rfl⟩ rfl rfl rfl rfl rfl (by kernel_rfl) Try.func3 (by kernel_rfl)
    (of_decide_eq_true (by kernel_rfl)) (by unfold Func.isWrapper; first | (rw [if_pos (by decide +kernel)]; kernel_rfl) | (rw [if_neg (by decide +kernel)]; exact ⟨rfl, rfl⟩))
    (fun os started H enc _ => lifted os started H enc)
theorem proved : Rows.DelayChecksSaid := over
#print axioms proved
end Go.Proofs.Ytgajgnemfccnhaa.delayChecks
namespace Go.Proofs.Ytgajgnemfccnhaa
theorem delayChecks_holds : Rows.DelayChecksSaid := delayChecks.proved
end Go.Proofs.Ytgajgnemfccnhaa
