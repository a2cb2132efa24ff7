/- The law TimingChecks, its second form: for every input of bulk at most 1048576 it returns true, and each argument reads afterwards as it read before. Condition: what it reads is of bulk at most 1048576. -/
import Derived.Test.YtlegjcagkmjfjaaDoorCards
import Derived.Test.YtlegjcagkmjfjaaDoorTie
import Derived.Test.YtlegjcagkmjfjaaDoorStmTimingChecks
import Derived.Test.YtlegjcagkmjfjaaDoorPureTimingChecks
import Derived.WalkKit
import Derived.ProofKit
import Derived.OpenShut
import Derived.ShutString
import Derived.ChangeOld
import Derived.Below
import Derived.SizedLaws
import Derived.Deep.DeepHandedRow
import Derived.Lib.LaidTab
import Derived.Lib.AppendIntMem
import Derived.SevenTiedAt
import Derived.Stop.LaidErr
import Derived.JoinedCond
import Derived.Test.YtlegjcagkmjfjaaDoorBlk
namespace Go.Proofs.YtlegjcagkmjfjaaDoor.timingChecks
open Go.ChangeShapes Go.WideShapes Go.ChangeAt Go.RowKit
open Go.ChangeMaps (open_string shut_string)
open Go.Proofs.YtlegjcagkmjfjaaDoorW.PrintWords Go.Proofs.YtlegjcagkmjfjaaDoor.Opn Go.Proofs.YtlegjcagkmjfjaaDoor.PT Go.Proofs.YtlegjcagkmjfjaaDoor.STimingChecks
set_option linter.unusedVariables false
set_option linter.unusedSimpArgs false

theorem own : ownKnob Tryd.prog.godebug = none := by kernel_rfl
theorem laidOut : laidOutB Tryd.prog = true := by kernel_rfl
theorem gTab : Tryd.prog.globalNamed "internal/strconv.uint64pow10" = some 0 := by kernel_rfl
theorem gTabType : (Tryd.prog.globals[0]?).map (·.type) = some 136 := by kernel_rfl
theorem cells95 : Tryd.prog.cellsOf 136 = 20 := by kernel_rfl
theorem cells88 : Tryd.prog.cellsOf 70 = 1 := by kernel_rfl
theorem table {W : World} (h : laidMetH Tryd.prog Rows.timingChecksUptoRow.laid W) : Lib.TabIs Tryd.prog W "internal/strconv.uint64pow10" .u64 Lib.pow10Tab := by
  have h1 : laidMet Tryd.prog Rows.timingChecksUptoRow.laid W := h
  exact Lib.tabIs_of_head (rest := []) gTab gTabType Tryd.underlying136 Tryd.underlying70 cells88 cells95 h1.tail.tail
set_option maxRecDepth 100000 in
set_option maxHeartbeats 1000000 in
theorem contract (H : Type) (enc : TypeId × Value → H) (W : World) (base : Nat) (args : Array Value) (ds gs : List (DataW H)) (before : List MemPlace)
    (hval0 : ∀ (j : Nat) t v, Tryd.f3.params[j]? = some t → args[j]? = some v → Value.okWide Tryd.prog W .any base t v)
    (hW : DataW.Whole enc Tryd.prog Tryd.f3.params.toList Rows.timingChecksSpec.vars false W args.toList ds gs before) (hk0 : Rows.uptoSmall H (ds ++ gs) = true) (hL : laidMetH Tryd.prog Rows.timingChecksUptoRow.laid W)
    (hsz0 : (DataW.weightsEach Tryd.prog (Tryd.f3.params.toList ++ Rows.timingChecksSpec.plain.varTypes Tryd.prog) (ds ++ gs)).all (· ≤ reachBytes) = true) :
    Calls Tryd.prog 3 args W fun e W' => ∃ v, e = .returned v ∧ Rows.timingChecksSpec.post enc Tryd.prog Tryd.f3 false true false false W args v W' := by
  have hsz : (DataW.weightsEach Tryd.prog (Tryd.f3.params.toList ++ Rows.timingChecksSpec.plain.varTypes Tryd.prog) (ds ++ gs)).all (· ≤ reachBytes) = true := hsz0
  have hval : ∀ (j : Nat) t v, Tryd.f3.params[j]? = some t → args[j]? = some v → Value.okWide Tryd.prog W .any base t v := hval0
  have hW' := hW
  obtain ⟨p, q, hA0, hV, rfl, hfz, hnd⟩ := hW
  have hA : DataW.TrodAll enc Tryd.prog W 0 (fun _ => true) true Tryd.f3.params.toList args.toList ds p := hA0
  rw [Tryd.params3] at hA hval hsz
  obtain ⟨v0, vs0, d0, ds0, p0, q0, hargs, rfl, rfl, h0, r0⟩ := trodAll_cons hA
  obtain ⟨rfl, rfl, rfl⟩ := trodAll_nil r0
  obtain rfl : args = #[v0] := by cases args; simp_all
  obtain ⟨rfl, rfl⟩ := trodVars_none hV
  have k0_ := h0
  have lt0 : ∀ x ∈ p0, x.block < W.heap.size := by obtain ⟨m, hm⟩ := k0_; exact DataW.trod_lt m _ _ _ hm
  obtain ⟨fuel0, hf0⟩ := h0
  obtain ⟨cs0, rfl, hz0⟩ := okWide_struct Tryd.underlying39 (hval 0 39 v0 rfl rfl)
  obtain ⟨⟨⟨l0_0, ⟨l0_1, ⟨l0_2, ⟨l0_3, l0_4⟩⟩⟩⟩, ⟨l0_5, ⟨⟨l0_6, ⟨l0_7, ⟨l0_8, ⟨l0_9, l0_10⟩⟩⟩⟩, ⟨a0_11, ⟨l0_12, ⟨l0_13, l0_14⟩⟩⟩⟩⟩⟩, ⟨_, _, e0, ⟨_, _, rfl, ⟨A0_0, c0_0, rfl, hl0_0, hr0_0⟩, ⟨_, _, rfl, ⟨A0_1, c0_1, rfl, hl0_1, hr0_1⟩, ⟨_, _, rfl, ⟨A0_2, c0_2, rfl, hl0_2, hr0_2⟩, ⟨_, _, rfl, ⟨A0_3, c0_3, rfl, hl0_3, hr0_3⟩, ⟨A0_4, c0_4, rfl, hl0_4, hr0_4⟩⟩⟩⟩⟩, ⟨_, _, rfl, ⟨A0_5, c0_5, rfl, hl0_5, hr0_5⟩, ⟨_, _, rfl, ⟨_, _, rfl, ⟨A0_6, c0_6, rfl, hl0_6, hr0_6⟩, ⟨_, _, rfl, ⟨A0_7, c0_7, rfl, hl0_7, hr0_7⟩, ⟨_, _, rfl, ⟨A0_8, c0_8, rfl, hl0_8, hr0_8⟩, ⟨_, _, rfl, ⟨A0_9, c0_9, rfl, hl0_9, hr0_9⟩, ⟨A0_10, c0_10, rfl, hl0_10, hr0_10⟩⟩⟩⟩⟩, ⟨_, _, rfl, rfl, ⟨_, _, rfl, ⟨A0_12, c0_12, rfl, hl0_12, hr0_12⟩, ⟨_, _, rfl, ⟨A0_13, c0_13, rfl, hl0_13, hr0_13⟩, ⟨A0_14, c0_14, rfl, hl0_14, hr0_14⟩⟩⟩⟩⟩⟩⟩, ⟨⟨g0_0, ⟨g0_1, ⟨g0_2, ⟨g0_3, g0_4⟩⟩⟩⟩, ⟨g0_5, ⟨⟨g0_6, ⟨g0_7, ⟨g0_8, ⟨g0_9, g0_10⟩⟩⟩⟩, ⟨g0_11, ⟨g0_12, ⟨g0_13, g0_14⟩⟩⟩⟩⟩⟩⟩ := (OpensL.struct id id (fun _ => rfl) Tryd.underlying39 (by kernel_rfl) (OpensL.cons rfl (OpensL.struct id id (fun _ => rfl) Tryd.underlying27 (by kernel_rfl) (OpensL.cons rfl (Opens.slice Tryd.underlying22 (by kernel_rfl) (by kernel_rfl) (Opens.string Tryd.underlying9 (by kernel_rfl))) (OpensL.cons rfl (Opens.slice Tryd.underlying22 (by kernel_rfl) (by kernel_rfl) (Opens.string Tryd.underlying9 (by kernel_rfl))) (OpensL.cons rfl (Opens.slice Tryd.underlying23 (by kernel_rfl) (by kernel_rfl) o58) (OpensL.cons rfl (Opens.slice Tryd.underlying24 (by kernel_rfl) (by kernel_rfl) o72) (OpensL.one rfl (Opens.slice Tryd.underlying25 (by kernel_rfl) (by kernel_rfl) (Opens.int Tryd.underlying3 (by kernel_rfl))))))))) (OpensL.cons rfl (Opens.slice Tryd.underlying28 (by kernel_rfl) (by kernel_rfl) o94) (OpensL.cons rfl (OpensL.struct id id (fun _ => rfl) Tryd.underlying32 (by kernel_rfl) (OpensL.cons rfl (Opens.slice Tryd.underlying29 (by kernel_rfl) (by kernel_rfl) (Opens.slice Tryd.underlying30 (by kernel_rfl) (by kernel_rfl) o53)) (OpensL.cons rfl (Opens.slice Tryd.underlying29 (by kernel_rfl) (by kernel_rfl) (Opens.slice Tryd.underlying30 (by kernel_rfl) (by kernel_rfl) o53)) (OpensL.cons rfl (Opens.slice Tryd.underlying30 (by kernel_rfl) (by kernel_rfl) o53) (OpensL.cons rfl (Opens.slice Tryd.underlying30 (by kernel_rfl) (by kernel_rfl) o53) (OpensL.one rfl (Opens.slice Tryd.underlying30 (by kernel_rfl) (by kernel_rfl) o53))))))) (OpensL.one rfl (OpensL.struct id id (fun _ => rfl) Tryd.underlying37 (by kernel_rfl) (OpensL.cons rfl (Opens.int Tryd.underlying3 (by kernel_rfl)) (OpensL.cons rfl (Opens.slice Tryd.underlying33 (by kernel_rfl) (by kernel_rfl) o78) (OpensL.cons rfl (Opens.slice Tryd.underlying34 (by kernel_rfl) (by kernel_rfl) o81) (OpensL.one rfl (Opens.slice Tryd.underlying35 (by kernel_rfl) (by kernel_rfl) o83))))))))))).op hf0 (light_of (j := 0) hsz rfl rfl)
  obtain rfl : cs0 = #[.slice A0_0 l0_0.length c0_0, .slice A0_1 l0_1.length c0_1, .slice A0_2 l0_2.length c0_2, .slice A0_3 l0_3.length c0_3, .slice A0_4 l0_4.length c0_4, .slice A0_5 l0_5.length c0_5, .slice A0_6 l0_6.length c0_6, .slice A0_7 l0_7.length c0_7, .slice A0_8 l0_8.length c0_8, .slice A0_9 l0_9.length c0_9, .slice A0_10 l0_10.length c0_10, .int .i64 a0_11, .slice A0_12 l0_12.length c0_12, .slice A0_13 l0_13.length c0_13, .slice A0_14 l0_14.length c0_14] := Array.ext' e0
  have hbk : Rows.uptoBulkAll [d0] ≤ 1048576 := of_decide_eq_true hk0
  simp only [Rows.uptoBulkAll, Rows.uptoBulk] at hbk
  obtain ⟨fu0_0, dd0_0, pp0_0, hd0_0, hl0_0_⟩ := Blk.fld_trod Tryd.underlying39 hf0 0 _ rfl
  have u0_0_0 := Blk.fld_bulk Tryd.underlying27 hd0_0 0 _ rfl Tryd.underlying22 rfl
  have u0_0_1 := Blk.fld_bulk Tryd.underlying27 hd0_0 1 _ rfl Tryd.underlying22 rfl
  have u0_0_2 := Blk.fld_bulk Tryd.underlying27 hd0_0 2 _ rfl Tryd.underlying23 rfl
  have u0_0_3 := Blk.fld_bulk Tryd.underlying27 hd0_0 3 _ rfl Tryd.underlying24 rfl
  have u0_0_4 := Blk.fld_bulk Tryd.underlying27 hd0_0 4 _ rfl Tryd.underlying25 rfl
  have u0_1 := Blk.fld_bulk Tryd.underlying39 hf0 1 _ rfl Tryd.underlying28 rfl
  obtain ⟨fu0_2, dd0_2, pp0_2, hd0_2, hl0_2_⟩ := Blk.fld_trod Tryd.underlying39 hf0 2 _ rfl
  have u0_2_0 := Blk.fld_bulk Tryd.underlying32 hd0_2 0 _ rfl Tryd.underlying29 rfl
  have u0_2_1 := Blk.fld_bulk Tryd.underlying32 hd0_2 1 _ rfl Tryd.underlying29 rfl
  have u0_2_2 := Blk.fld_bulk Tryd.underlying32 hd0_2 2 _ rfl Tryd.underlying30 rfl
  have u0_2_3 := Blk.fld_bulk Tryd.underlying32 hd0_2 3 _ rfl Tryd.underlying30 rfl
  have u0_2_4 := Blk.fld_bulk Tryd.underlying32 hd0_2 4 _ rfl Tryd.underlying30 rfl
  obtain ⟨fu0_3, dd0_3, pp0_3, hd0_3, hl0_3_⟩ := Blk.fld_trod Tryd.underlying39 hf0 3 _ rfl
  have u0_3_1 := Blk.fld_bulk Tryd.underlying37 hd0_3 1 _ rfl Tryd.underlying33 rfl
  have u0_3_2 := Blk.fld_bulk Tryd.underlying37 hd0_3 2 _ rfl Tryd.underlying34 rfl
  have u0_3_3 := Blk.fld_bulk Tryd.underlying37 hd0_3 3 _ rfl Tryd.underlying35 rfl
  obtain ⟨k, h⟩ := Pure.TimingChecks l0_0 l0_1 l0_2 l0_3 l0_4 l0_5 l0_6 l0_7 l0_8 l0_9 l0_10 a0_11 l0_12 l0_13 l0_14 g0_0 g0_1 g0_2 g0_3 g0_4 g0_5 g0_6 g0_7 g0_8 g0_9 g0_10 g0_11 g0_12 g0_13 g0_14 (by omega) (by omega) (by omega) (by omega) (by omega) (by omega) (by omega) (by omega) (by omega) (by omega) (by omega) (by omega) (by omega) (by omega)
  refine (PT.masklaw4_TimingChecks.calls k _ _ l0_0 _ _ l0_1 _ _ l0_2 _ _ l0_3 _ _ l0_4 _ _ l0_5 _ _ l0_6 _ _ l0_7 _ _ l0_8 _ _ l0_9 _ _ l0_10 a0_11 _ _ l0_12 _ _ l0_13 _ _ l0_14 true W hr0_0 hl0_0 hr0_1 hl0_1 hr0_2 hl0_2 hr0_3 hl0_3 hr0_4 hl0_4 hr0_5 hl0_5 hr0_6 hl0_6 hr0_7 hl0_7 hr0_8 hl0_8 hr0_9 hl0_9 hr0_10 hl0_10 hr0_12 hl0_12 hr0_13 hl0_13 hr0_14 hl0_14 h (.inl (Lib.tabBelow_of_tabIs (table hL)))).mono fun e W' hq => ?_
  obtain ⟨he, bel0⟩ := hq
  have bel : Below W.heap.size W W' := bel0
  subst he
  exact ⟨_, rfl, _, _, _, [], _, [], hW', trodAll_mk1 (shut_bool Tryd.underlying4 _), (trodAll_cons_mk (Below.trod laidOut (by kernel_rfl) (of_decide_eq_true (by kernel_rfl)) k0_ bel lt0) trodAll_mk0), rfl, bel.frame _, fun h => by cases h⟩
/-- A world for the witness: the settled one, each table holding what its initialiser lays. -/
def layIn (cs : Array Value) (o : Obj) : Obj := match o with
  | .cells _ t frozen => .cells cs t frozen
  | o => o
def laidCells0 : Array Value := #[.int .u64 1, .int .u64 10, .int .u64 100, .int .u64 1000, .int .u64 10000, .int .u64 100000, .int .u64 1000000, .int .u64 10000000, .int .u64 100000000, .int .u64 1000000000, .int .u64 10000000000, .int .u64 100000000000, .int .u64 1000000000000, .int .u64 10000000000000, .int .u64 100000000000000, .int .u64 1000000000000000, .int .u64 10000000000000000, .int .u64 100000000000000000, .int .u64 1000000000000000000, .int .u64 10000000000000000000]
def laidCells1 : Array Value := #[.int .u8 0, .int .u8 1, .int .u8 28, .int .u8 2, .int .u8 29, .int .u8 14, .int .u8 24, .int .u8 3, .int .u8 30, .int .u8 22, .int .u8 20, .int .u8 15, .int .u8 25, .int .u8 17, .int .u8 4, .int .u8 8, .int .u8 31, .int .u8 27, .int .u8 13, .int .u8 23, .int .u8 21, .int .u8 19, .int .u8 16, .int .u8 7, .int .u8 26, .int .u8 12, .int .u8 18, .int .u8 6, .int .u8 11, .int .u8 5, .int .u8 10, .int .u8 9]
def laidCells2 : Array Value := #[.int .u8 0, .int .u8 1, .int .u8 56, .int .u8 2, .int .u8 57, .int .u8 49, .int .u8 28, .int .u8 3, .int .u8 61, .int .u8 58, .int .u8 42, .int .u8 50, .int .u8 38, .int .u8 29, .int .u8 17, .int .u8 4, .int .u8 62, .int .u8 47, .int .u8 59, .int .u8 36, .int .u8 45, .int .u8 43, .int .u8 51, .int .u8 22, .int .u8 53, .int .u8 39, .int .u8 33, .int .u8 30, .int .u8 24, .int .u8 18, .int .u8 12, .int .u8 5, .int .u8 63, .int .u8 55, .int .u8 48, .int .u8 27, .int .u8 60, .int .u8 41, .int .u8 37, .int .u8 16, .int .u8 46, .int .u8 35, .int .u8 44, .int .u8 21, .int .u8 52, .int .u8 32, .int .u8 23, .int .u8 11, .int .u8 54, .int .u8 26, .int .u8 40, .int .u8 15, .int .u8 34, .int .u8 20, .int .u8 31, .int .u8 10, .int .u8 25, .int .u8 14, .int .u8 19, .int .u8 9, .int .u8 13, .int .u8 8, .int .u8 7, .int .u8 6]
noncomputable def laidWorld (os : Os) : World :=
  { World.holding Tryd.prog os ⟨#[], #[], []⟩ with heap := ((((World.holding Tryd.prog os ⟨#[], #[], []⟩).heap.modify 0 (layIn laidCells0)).modify 1 (layIn laidCells1)).modify 2 (layIn laidCells2)) }
theorem laid_met (os : Os) : laidMet Tryd.prog Rows.timingChecksUptoRow.laid ((laidWorld os).forCall (fun _ _ => 0) ⟨#[], #[.agg #[.slice none 0 0, .slice none 0 0, .slice none 0 0, .slice none 0 0, .slice none 0 0, .slice none 0 0, .slice none 0 0, .slice none 0 0, .slice none 0 0, .slice none 0 0, .slice none 0 0, .int .i64 0, .slice none 0 0, .slice none 0 0, .slice none 0 0]], []⟩).memory :=
  laidMet_of_run' 8 (by kernel_rfl) (by kernel_rfl)
theorem reads (os : Os) {H : Type} (enc : TypeId × Value → H) : ∃ places, DataW.whole enc Tryd.prog ((laidWorld os).forCall (fun _ _ => 0) ⟨#[], #[.agg #[.slice none 0 0, .slice none 0 0, .slice none 0 0, .slice none 0 0, .slice none 0 0, .slice none 0 0, .slice none 0 0, .slice none 0 0, .slice none 0 0, .slice none 0 0, .slice none 0 0, .int .i64 0, .slice none 0 0, .slice none 0 0, .slice none 0 0]], []⟩).memory Tryd.f3.params.toList Rows.timingChecksSpec.vars false (#[.agg #[.slice none 0 0, .slice none 0 0, .slice none 0 0, .slice none 0 0, .slice none 0 0, .slice none 0 0, .slice none 0 0, .slice none 0 0, .slice none 0 0, .slice none 0 0, .slice none 0 0, .int .i64 0, .slice none 0 0, .slice none 0 0, .slice none 0 0]] : Array Value).toList 8 = some ([.agg [.agg [.nil, .nil, .nil, .nil, .nil], .nil, .agg [.nil, .nil, .nil, .nil, .nil], .agg [.lit (.int .i64 0), .nil, .nil, .nil]]], [], places) :=
  ⟨[], by kernel_rfl⟩
set_option maxRecDepth 100000 in
set_option maxHeartbeats 1000000 in
theorem lifted (os : Os) (started : os.Started) (H : Type) (enc : TypeId × Value → H) (F : Stop.Interp) :
    ReturnsInHanded {} Tryd.checked os 3 .any ((Rows.OpenSpec.upto Rows.timingChecksSpec).preRow enc Tryd.prog Tryd.f3 Rows.timingChecksUptoRow.domain false Rows.timingChecksUptoRow.laid) (((Rows.OpenSpec.upto Rows.timingChecksSpec).at F).post enc Tryd.prog Tryd.f3 false true false false) := by
  obtain ⟨places, hx⟩ := reads os enc
  refine returnsInHanded_of_row (C := Tryd.checked) (s := Rows.OpenSpec.upto Rows.timingChecksSpec) own started (by kernel_rfl) Tryd.func3
    (witness_row_at (enc := enc) (C := Tryd.checked) false (laidWorld os) #[.agg #[.slice none 0 0, .slice none 0 0, .slice none 0 0, .slice none 0 0, .slice none 0 0, .slice none 0 0, .slice none 0 0, .slice none 0 0, .slice none 0 0, .slice none 0 0, .slice none 0 0, .int .i64 0, .slice none 0 0, .slice none 0 0, .slice none 0 0]] rfl (by kernel_rfl) (by kernel_rfl) (by kernel_rfl)
      (OpenSpec.preRow_of_cond 8 hx (by kernel_rfl) (fun k hk => by obtain rfl := Option.some.inj hk; rfl) (by kernel_rfl) (laid_met os))) ?_
  intro W base args ds gs before hval0 hW _ hk0 hsz0 hL _ _
  exact contract H enc W base args ds gs before hval0 hW (hk0 _ rfl) hL hsz0
theorem said : Rows.TimingChecksUptoSaid :=
  OpenClaim.holds_of_cond 3 Tryd.f3 rfl rfl rfl rfl rfl rfl rfl ⟨rfl, rfl, rfl, rfl, rfl⟩ rfl rfl rfl rfl rfl (by kernel_rfl) Tryd.func3 (by kernel_rfl)
    (of_decide_eq_true (by kernel_rfl)) (by unfold Func.isWrapper; first | (rw [if_pos (by decide +kernel)]; kernel_rfl) | (rw [if_neg (by decide +kernel)]; exact ⟨rfl, rfl⟩))
    (fun os started H enc _ F => by rw [OpenClaim.pre_eq_preRow]; exact lifted os started H enc F)
theorem plain (f : FuncId) (fn : Func) (hf : Tryd.pinned.checked.prog.funcNamed "maskwright/masklaw4.TimingChecks" = some f) (hfn : Tryd.pinned.checked.prog.funcs[f]? = some fn) :
    false = Tryd.pinned.checked.prog.looks [] ∧ ∀ (j : Nat) t, fn.params[j]? = some t → Tryd.pinned.checked.prog.wantsStandIn t = false := by
  obtain rfl : f = 3 := Option.some.inj ((show Tryd.prog.funcNamed "maskwright/masklaw4.TimingChecks" = some 3 by kernel_rfl).symm.trans hf) |>.symm
  obtain rfl : fn = Tryd.f3 := (Option.some.inj (Tryd.func3.symm.trans hfn)).symm
  refine ⟨by kernel_rfl, fun j t ht => ?_⟩
  rw [Tryd.params3] at ht
  have hm : t ∈ [39] := by simpa using Array.mem_of_getElem? ht
  have hall : ([39].all fun u => !Tryd.prog.wantsStandIn u) = true := by kernel_rfl
  exact (show Tryd.prog.wantsStandIn t = false by simpa using List.all_eq_true.1 hall t hm)
theorem card : Rows.TimingChecksUptoCardSaid :=
  Claim7.holds_tied_plain_at .later [] _ _ _ _ said (fun _ h => by cases h) (by kernel_rfl) (fun _ h => by cases h) timingChecksUpto_row_tie rfl ⟨rfl, rfl⟩ (by kernel_rfl) rfl plain (by kernel_rfl)
#print axioms card
end Go.Proofs.YtlegjcagkmjfjaaDoor.timingChecks
namespace Go.Proofs.YtlegjcagkmjfjaaDoor
theorem timingChecksUpto_holds : Rows.TimingChecksUptoCardSaid := timingChecks.card
end Go.Proofs.YtlegjcagkmjfjaaDoor
