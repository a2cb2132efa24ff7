/- The check of delays and the reference's come to the same error. No conditions. (Out of pure/DelayChecks.lean.) -/
import Derived.Test.YtlegjcagkmjfjaaDoorStmTimingChecks
import Derived.Test.YtlegjcagkmjfjaaDoorAid
namespace Go.Proofs.YtlegjcagkmjfjaaDoor.LTimingChecks
open Go.RowKit Go.Proofs.YtlegjcagkmjfjaaDoorW.PrintWords Go.Proofs.YtlegjcagkmjfjaaDoor.Opn Go.Proofs.YtlegjcagkmjfjaaDoor.PT Go.Proofs.YtlegjcagkmjfjaaDoor.STimingChecks Go.Proofs.YtlegjcagkmjfjaaDoor.Aid
set_option linter.unusedVariables false

theorem all_same (xs : List S53) (hx : xs.length ≤ 9223372036854775807) (n : Int) : Both (fun k => delay_all.f k xs n) (fun k => maskref4_windowsFault.f k xs n) := by
  unfold delay_all.f maskref4_windowsFault.f
  by_cases hn : (xs.length : Int) = n
  · refine Both.pos hn ?_
    have key := down (P := fun i => Both (fun k => delay_all.l0 k xs (xs.length : Int) (i : Int)) (fun k => maskref4_windowsFault.l0 k xs (xs.length : Int) (i : Int))) xs.length ?_ ?_ 0 (by omega)
    · exact key
    · refine Both.step (fun k => by rw [delay_all.l0]) (fun k => by rw [maskref4_windowsFault.l0]) ?_
      exact Both.neg (by omega) (Both.now 0)
    · intro i hi ih
      refine Both.step (fun k => by rw [delay_all.l0]) (fun k => by rw [maskref4_windowsFault.l0]) ?_
      refine Both.pos (by omega) (Both.pos (by omega) (Both.pos (by omega) ?_))
      rw [ws hi hx]
      by_cases h0 : 0 ≤ (rd_T53 xs i).f0
      · refine Both.negr (by omega) ?_
        by_cases h1 : (rd_T53 xs i).f0 ≤ (rd_T53 xs i).f1
        · refine Both.negr (by omega) ?_
          have e : delay_right.f (rd_T53 xs i).f0 (rd_T53 xs i).f1 = some (decide ((rd_T53 xs i).f1 ≤ 16777216)) := by
            unfold delay_right.f
            rw [if_pos h0, if_pos h1]
          rw [e]
          simp only [Option.bind_some, decide_eq_true_eq]
          by_cases h2 : (rd_T53 xs i).f1 ≤ 16777216
          · exact Both.posl h2 (Both.negr (by omega) ih)
          · exact Both.negl h2 (Both.posr (by omega) (Both.now 2))
        · have e : delay_right.f (rd_T53 xs i).f0 (rd_T53 xs i).f1 = some false := by
            unfold delay_right.f
            rw [if_pos h0, if_neg h1]
          rw [e]
          simp only [Option.bind_some]
          exact Both.negl (by simp) (Both.posr (by omega) (Both.now 2))
      · have e : delay_right.f (rd_T53 xs i).f0 (rd_T53 xs i).f1 = some false := by
          unfold delay_right.f
          rw [if_neg h0]
        rw [e]
        simp only [Option.bind_some]
        exact Both.negl (by simp) (Both.posr (by omega) (Both.now 2))
  · exact Both.neg hn (Both.now 4)

theorem inputs_takes (x : S58) : delay_Inputs.f x.f0 x.f1 x.f2 x.f3 x.f4 = maskref4_Takes.f x.f0 x.f1 x.f2 x.f3 x.f4 := rfl
theorem takes_some (x : S58) : ∃ n, maskref4_Takes.f x.f0 x.f1 x.f2 x.f3 x.f4 = some n := by
  unfold maskref4_Takes.f
  split <;> exact ⟨_, rfl⟩

theorem rdl_le {l : List (List S53)} {B : Nat} (h : GL B (GL 16 g53) l) (i : Nat) : (rd_L10 l i).length ≤ 9223372036854775807 := by
  unfold rd_L10
  rw [List.getD_eq_getElem?_getD]
  rcases hq : l[(i : Int).toNat]? with _ | x
  · simp
  · exact (h.2.2 x (List.mem_of_getElem? hq)).2.1

theorem delays_same (p0 p1 : List ByteArray) (p2 : List S58) (p3 : List S72) (p4 : List Int) (d0 d1 : List (List S53)) (d2 d3 d4 : List S53) (n2 : p2.length ≤ 9223372036854775807) (n3 : p3.length ≤ 9223372036854775807) (hd0 : GL 24 (GL 16 g53) d0) (hd1 : GL 24 (GL 16 g53) d1) (hd2 : GL 16 g53 d2) (hd3 : GL 16 g53 d3) (hd4 : GL 16 g53 d4) :
    Both (fun k => delay_Check.f k p0 p1 p2 p3 p4 d0 d1 d2 d3 d4) (fun k => maskref4_DelaysFault.f k p0 p1 p2 p3 p4 d0 d1 d2 d3 d4) := by
  unfold delay_Check.f maskref4_DelaysFault.f
  have j1 : ∀ b, (b = false → d0.length = p3.length ∧ d1.length = p2.length) → Both (fun k => delay_Check.j0 k b p0 p1 p2 p3 p4 d0 d1 d2 d3 d4) (fun k => maskref4_DelaysFault.j0 k b p0 p1 p2 p3 p4 d0 d1 d2 d3 d4) := by
    intro b hb
    refine Both.step (fun k => by rw [delay_Check.j0]) (fun k => by rw [maskref4_DelaysFault.j0]) ?_
    cases b with
    | true => exact Both.pos rfl (Both.now 4)
    | false =>
      obtain ⟨e0, e1⟩ := hb rfl
      refine Both.neg (by simp) ?_
      have tail : Both (fun k => (delay_all.f k d2 (p4.length : Int)).bind fun t132 => (if t132 = 0 then ((delay_all.f k d3 (p2.length : Int)).bind fun t133 => (if t133 = 0 then ((delay_all.f k d4 (p2.length : Int)).bind fun t134 => (some t134)) else (some t133))) else (some t132)))
          (fun k => (some (([d2, d3, d4] : List (List (S53))) : List (List (S53)))).bind fun y147 => (maskref4_DelaysFault.l2 k y147 (y147.length : Int) 0 p0 p1 p2 p3 p4)) := by
        simp only [Option.bind_some]
        refine Both.stepr (fun k => by rw [maskref4_DelaysFault.l2]) ?_
        refine Both.posr (by simp) (Both.posr (by simp) (Both.posr (by simp) (Both.posr rfl ?_)))
        refine Both.bind (all_same d2 hd2.2.1 _) (fun a _ => ?_)
        by_cases ha : a = 0
        · refine Both.pos ha ?_
          rw [show wrap64 (0 + 1) = 1 from by decide +kernel]
          refine Both.stepr (fun k => by rw [maskref4_DelaysFault.l2]) ?_
          refine Both.posr (by simp) (Both.posr (by decide) (Both.posr (by simp) (Both.negr (by decide) ?_)))
          refine Both.bind (all_same d3 hd3.2.1 _) (fun a _ => ?_)
          by_cases ha : a = 0
          · refine Both.pos ha ?_
            rw [show wrap64 (1 + 1) = 2 from by decide +kernel]
            refine Both.stepr (fun k => by rw [maskref4_DelaysFault.l2]) ?_
            refine Both.posr (by simp) (Both.posr (by decide) (Both.posr (by simp) (Both.negr (by decide) ?_)))
            refine Both.bind (all_same d4 hd4.2.1 _) (fun a _ => ?_)
            by_cases ha : a = 0
            · refine Both.posr ha ?_
              rw [show wrap64 (2 + 1) = 3 from by decide +kernel]
              refine Both.stepr (fun k => by rw [maskref4_DelaysFault.l2]) ?_
              refine Both.negr (by simp) ?_
              rw [ha]
              exact Both.now 0
            · exact Both.negr ha (Both.now a)
          · exact Both.neg ha (Both.now a)
        · exact Both.neg ha (Both.now a)
      have k1 : ∀ i, i ≤ p2.length → Both (fun k => delay_Check.l1 k p2 (p2.length : Int) (i : Int) p0 p1 p2 p3 p4 d0 d1 d2 d3 d4) (fun k => maskref4_DelaysFault.l1 k (p2.length : Int) (i : Int) p0 p1 p2 p3 p4 d0 d1 d2 d3 d4) := by
        refine down _ ?_ ?_
        · refine Both.step (fun k => by rw [delay_Check.l1]) (fun k => by rw [maskref4_DelaysFault.l1]) ?_
          exact Both.neg (by omega) tail
        · intro i hi ih
          refine Both.step (fun k => by rw [delay_Check.l1]) (fun k => by rw [maskref4_DelaysFault.l1]) ?_
          refine Both.pos (by omega) (Both.pos (by omega) ?_)
          refine Both.posl (by omega) (Both.posr (by omega) (Both.posl (by omega) (Both.posr (by omega) ?_)))
          rw [ws hi n2, inputs_takes]
          obtain ⟨n, hn⟩ := takes_some (rd_T58 p2 i)
          rw [hn]
          simp only [Option.bind_some]
          refine Both.bind (all_same _ (rdl_le hd1 i) n) (fun a _ => ?_)
          by_cases ha : a = 0
          · exact Both.pos ha ih
          · exact Both.neg ha (Both.now a)
      have k0 : ∀ i, i ≤ p3.length → Both (fun k => delay_Check.l0 k p3 (p3.length : Int) (i : Int) p0 p1 p2 p3 p4 d0 d1 d2 d3 d4) (fun k => maskref4_DelaysFault.l0 k (p3.length : Int) (i : Int) p0 p1 p2 p3 p4 d0 d1 d2 d3 d4) := by
        refine down _ ?_ ?_
        · refine Both.step (fun k => by rw [delay_Check.l0]) (fun k => by rw [maskref4_DelaysFault.l0]) ?_
          exact Both.neg (by omega) (k1 0 (by omega))
        · intro i hi ih
          refine Both.step (fun k => by rw [delay_Check.l0]) (fun k => by rw [maskref4_DelaysFault.l0]) ?_
          refine Both.pos (by omega) (Both.pos (by omega) ?_)
          refine Both.posl (by omega) (Both.posr (by omega) (Both.posl (by omega) (Both.posr (by omega) ?_)))
          rw [ws hi n3]
          refine Both.bind (all_same _ (rdl_le hd0 i) _) (fun a _ => ?_)
          by_cases ha : a = 0
          · exact Both.pos ha ih
          · exact Both.neg ha (Both.now a)
      exact k0 0 (by omega)
  by_cases h : (d0.length : Int) = (p3.length : Int)
  · refine Both.pos h (j1 _ ?_)
    intro hb
    simp at hb
    omega
  · exact Both.neg h (j1 true (fun hb => by cases hb))

end Go.Proofs.YtlegjcagkmjfjaaDoor.LTimingChecks
