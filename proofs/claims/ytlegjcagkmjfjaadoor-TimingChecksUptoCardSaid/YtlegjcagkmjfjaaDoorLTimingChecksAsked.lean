/- CheckFor answers as the reference does. No conditions. (Out of pure/ClocksChecks.lean.) -/
import Derived.Test.YtlegjcagkmjfjaaDoorLTimingChecksLimits
namespace Go.Proofs.YtlegjcagkmjfjaaDoor.LTimingChecks
open Go.RowKit Go.Proofs.YtlegjcagkmjfjaaDoorW.PrintWords Go.Proofs.YtlegjcagkmjfjaaDoor.Opn Go.Proofs.YtlegjcagkmjfjaaDoor.PT Go.Proofs.YtlegjcagkmjfjaaDoor.STimingChecks Go.Proofs.YtlegjcagkmjfjaaDoor.Aid
set_option linter.unusedVariables false

def hasB (l : List ByteArray) (s : ByteArray) : Bool := l.any (fun d => decide (d.toList = s.toList))
theorem among_ev (s : ByteArray) (l : List ByteArray) (hl : l.length ≤ 9223372036854775807) : Ev (fun k => maskref4_among.f k s l) (hasB l s) := by
  have key := down (P := fun i => Ev (fun k => maskref4_among.l0 k s l (l.length : Int) (i : Int)) (hasB (l.drop i) s)) l.length ?_ ?_ 0 (by omega)
  · exact key
  · refine Ev.step (f := fun k => _) (fun k => by rw [maskref4_among.l0]) (Ev.neg (by omega) ?_)
    rw [List.drop_length]
    exact Ev.now _
  · intro i hi ih
    refine Ev.step (f := fun k => _) (fun k => by rw [maskref4_among.l0]) (Ev.pos (by omega) (Ev.pos (by omega) (Ev.pos (by omega) ?_)))
    rw [ws hi hl]
    unfold hasB at ih ⊢
    rw [drop_cons_getD hi ByteArray.empty, List.any_cons]
    by_cases h : (rdOf ByteArray.empty l i).toList = s.toList
    · refine Ev.pos h ?_
      rw [decide_eq_true (p := (l.getD i ByteArray.empty).toList = s.toList) h, Bool.true_or]
      exact Ev.now _
    · refine Ev.neg h ?_
      rw [decide_eq_false (p := (l.getD i ByteArray.empty).toList = s.toList) h, Bool.false_or]
      exact ih
theorem contains_ev (l : List ByteArray) (s : ByteArray) (hl : l.length ≤ 9223372036854775807) : Ev (fun k => slices_Contains_string_string.f k l s) (hasB l s) := by
  have key := down (P := fun i => ∃ r : Int, Ev (fun k => slices_Index_string_string.l0 k l s (l.length : Int) (i : Int)) r ∧ decide (r ≥ 0) = hasB (l.drop i) s) l.length ?_ ?_ 0 (by omega)
  · obtain ⟨r, hr, e⟩ := key
    unfold slices_Contains_string_string.f
    refine Ev.bind hr ?_
    rw [e]
    exact Ev.now _
  · refine ⟨-1, Ev.step (f := fun k => _) (fun k => by rw [slices_Index_string_string.l0]) (Ev.neg (by omega) (Ev.now _)), ?_⟩
    rw [List.drop_length]
    rfl
  · intro i hi ih
    obtain ⟨r, hr, e⟩ := ih
    by_cases h : s.toList = (rdOf ByteArray.empty l i).toList
    · refine ⟨(i : Int), Ev.step (f := fun k => _) (fun k => by rw [slices_Index_string_string.l0]) (Ev.pos (by omega) (Ev.pos (by omega) (Ev.pos (by omega) (Ev.pos h (Ev.now _))))), ?_⟩
      unfold hasB
      rw [drop_cons_getD hi ByteArray.empty, List.any_cons, decide_eq_true (p := (l.getD i ByteArray.empty).toList = s.toList) h.symm, Bool.true_or]
      exact decide_eq_true (by omega)
    · refine ⟨r, Ev.step (f := fun k => _) (fun k => by rw [slices_Index_string_string.l0]) (Ev.pos (by omega) (Ev.pos (by omega) (Ev.pos (by omega) (Ev.neg h ?_)))), ?_⟩
      · rw [ws hi hl]
        exact hr
      · unfold hasB at e ⊢
        rw [drop_cons_getD hi ByteArray.empty, List.any_cons, decide_eq_false (p := (l.getD i ByteArray.empty).toList = s.toList) (fun q => h q.symm), Bool.false_or]
        exact e

section
variable {p : Int} {l1 : List S78} {l2 : List S81} {l3 : List S83} {n0 n1 : List ByteArray} {n2 : List S58} {n3 : List S72} {n4 : List Int}
theorem paths_same (fl : List ByteArray) (hf : fl.length ≤ 9223372036854775807) (h0 : n0.length ≤ 9223372036854775807) (h1 : n1.length ≤ 9223372036854775807) (h3 : l3.length ≤ 9223372036854775807) :
    Both (fun k => clocks_CheckFor.l3 k fl l3 (l3.length : Int) 0 n0 n1 n2 n3 n4) (fun k => maskref4_AskedFault.l3 k fl l3 (l3.length : Int) 0 n0 n1 n2 n3 n4) := by
  refine down (P := fun i => Both (fun k => clocks_CheckFor.l3 k fl l3 (l3.length : Int) (i : Int) n0 n1 n2 n3 n4) (fun k => maskref4_AskedFault.l3 k fl l3 (l3.length : Int) (i : Int) n0 n1 n2 n3 n4)) l3.length ?_ ?_ 0 (by omega)
  · exact Both.step (fun k => by rw [clocks_CheckFor.l3]) (fun k => by rw [maskref4_AskedFault.l3]) (Both.neg (by omega) (Both.now _))
  · intro i hi ih
    obtain ⟨r, m1, m2, _⟩ := ih
    refine Both.step (fun k => by rw [clocks_CheckFor.l3]) (fun k => by rw [maskref4_AskedFault.l3]) (Both.pos (by omega) (Both.pos (by omega) (Both.pos (by omega) ?_)))
    rw [ws hi h3]
    generalize rd_T83 l3 i = x
    -- the second place, by the program
    have J : ∀ b : Bool, Ev (fun k => clocks_CheckFor.j4 k fl b l3 (l3.length : Int) (i : Int) n0 n1 n2 n3 n4 x.f0 x.f1 x.f2) (if b = true ∧ (x.f1.toList = ([] : List UInt8) ∨ hasB n1 x.f1 = true ∨ hasB fl x.f1 = true) then r else 7) := by
      intro b
      refine Ev.step (f := fun k => _) (fun k => by rw [clocks_CheckFor.j4]) ?_
      rw [ws hi h3]
      by_cases d : x.f1.toList = ([] : List UInt8)
      · refine Ev.pos d ?_
        by_cases hb : b = true
        · rw [if_pos ⟨hb, .inl d⟩]; exact Ev.pos hb m1
        · rw [if_neg (fun q => hb q.1)]; exact Ev.neg hb (Ev.now _)
      · refine Ev.neg d (Ev.bind (contains_ev n1 x.f1 h1) ?_)
        by_cases e : hasB n1 x.f1 = true
        · refine Ev.pos e ?_
          by_cases hb : b = true
          · rw [if_pos ⟨hb, .inr (.inl e)⟩]; exact Ev.pos hb m1
          · rw [if_neg (fun q => hb q.1)]; exact Ev.neg hb (Ev.now _)
        · refine Ev.neg e (Ev.bind (contains_ev fl x.f1 hf) ?_)
          by_cases hb : b = true
          · refine Ev.pos hb ?_
            by_cases g : hasB fl x.f1 = true
            · rw [if_pos ⟨hb, .inr (.inr g)⟩]; exact Ev.pos g m1
            · rw [if_neg (fun q => q.2.elim d (fun q => q.elim e g))]; exact Ev.neg g (Ev.now _)
          · rw [if_neg (fun q => hb q.1)]; exact Ev.neg hb (Ev.now _)
    -- the second place, by the reference
    have K : Ev (fun k => if (x.f1).toList = ([] : List UInt8) then (maskref4_AskedFault.l3 k fl l3 (l3.length : Int) ((i + 1 : Nat) : Int) n0 n1 n2 n3 n4) else ((maskref4_among.f k (x.f1) n1).bind fun t => (if t = true then (maskref4_AskedFault.l3 k fl l3 (l3.length : Int) ((i + 1 : Nat) : Int) n0 n1 n2 n3 n4) else ((maskref4_among.f k (x.f1) fl).bind fun t => (if t = true then (maskref4_AskedFault.l3 k fl l3 (l3.length : Int) ((i + 1 : Nat) : Int) n0 n1 n2 n3 n4) else (some 7))))))
        (if true = true ∧ (x.f1.toList = ([] : List UInt8) ∨ hasB n1 x.f1 = true ∨ hasB fl x.f1 = true) then r else 7) := by
      by_cases d : x.f1.toList = ([] : List UInt8)
      · rw [if_pos ⟨rfl, .inl d⟩]; exact Ev.pos d m2
      · refine Ev.neg d (Ev.bind (among_ev x.f1 n1 h1) ?_)
        by_cases e : hasB n1 x.f1 = true
        · rw [if_pos ⟨rfl, .inr (.inl e)⟩]; exact Ev.pos e m2
        · refine Ev.neg e (Ev.bind (among_ev x.f1 fl hf) ?_)
          by_cases g : hasB fl x.f1 = true
          · rw [if_pos ⟨rfl, .inr (.inr g)⟩]; exact Ev.pos g m2
          · rw [if_neg (fun q => q.2.elim d (fun q => q.elim e g))]; exact Ev.neg g (Ev.now _)
    by_cases a : x.f0.toList = ([] : List UInt8)
    · exact Both.of (Ev.pos a (J true)) (Ev.pos a K)
    · by_cases b : hasB n0 x.f0 = true
      · exact Both.of (Ev.neg a (Ev.bind (contains_ev n0 x.f0 h0) (Ev.pos b (J true)))) (Ev.neg a (Ev.bind (among_ev x.f0 n0 h0) (Ev.pos b K)))
      · by_cases c : hasB fl x.f0 = true
        · refine Both.of (Ev.neg a (Ev.bind (contains_ev n0 x.f0 h0) (Ev.neg b (Ev.bind (contains_ev fl x.f0 hf) ?_)))) (Ev.neg a (Ev.bind (among_ev x.f0 n0 h0) (Ev.neg b (Ev.bind (among_ev x.f0 fl hf) (Ev.pos c K)))))
          rw [c]
          exact J true
        · refine Both.of (Ev.neg a (Ev.bind (contains_ev n0 x.f0 h0) (Ev.neg b (Ev.bind (contains_ev fl x.f0 hf) ?_)))) (Ev.neg a (Ev.bind (among_ev x.f0 n0 h0) (Ev.neg b (Ev.bind (among_ev x.f0 fl hf) (Ev.neg c (Ev.now 7))))))
          have := J (hasB fl x.f0)
          rw [if_neg (fun q => c q.1)] at this
          exact this
theorem outs_same (fl : List ByteArray) (hf : fl.length ≤ 9223372036854775807) (h0 : n0.length ≤ 9223372036854775807) (h1 : n1.length ≤ 9223372036854775807) (h2 : l2.length ≤ 9223372036854775807) (h3 : l3.length ≤ 9223372036854775807) :
    Both (fun k => clocks_CheckFor.l2 k fl l2 (l2.length : Int) 0 p l1 l2 l3 n0 n1 n2 n3 n4) (fun k => maskref4_AskedFault.l2 k fl l2 (l2.length : Int) 0 p l1 l2 l3 n0 n1 n2 n3 n4) := by
  refine down (P := fun i => Both (fun k => clocks_CheckFor.l2 k fl l2 (l2.length : Int) (i : Int) p l1 l2 l3 n0 n1 n2 n3 n4) (fun k => maskref4_AskedFault.l2 k fl l2 (l2.length : Int) (i : Int) p l1 l2 l3 n0 n1 n2 n3 n4)) l2.length ?_ ?_ 0 (by omega)
  · exact Both.step (fun k => by rw [clocks_CheckFor.l2]) (fun k => by rw [maskref4_AskedFault.l2]) (Both.neg (by omega) (paths_same fl hf h0 h1 h3))
  · intro i hi ih
    refine Both.step (fun k => by rw [clocks_CheckFor.l2]) (fun k => by rw [maskref4_AskedFault.l2]) (Both.pos (by omega) (Both.pos (by omega) (Both.pos (by omega) ?_)))
    rw [ws hi h2]
    refine Both.bindl (contains_ev n1 _ h1) (Both.bindr (among_ev _ n1 h1) ?_)
    by_cases e : hasB n1 (rd_T81 l2 i).f0 = true
    · exact Both.pos e ih
    · exact Both.neg e (Both.now 7)
theorem ins_same (fl : List ByteArray) (hf : fl.length ≤ 9223372036854775807) (h0 : n0.length ≤ 9223372036854775807) (h1 : n1.length ≤ 9223372036854775807) (hi1 : l1.length ≤ 9223372036854775807) (h2 : l2.length ≤ 9223372036854775807) (h3 : l3.length ≤ 9223372036854775807) :
    Both (fun k => clocks_CheckFor.l1 k fl l1 (l1.length : Int) 0 p l1 l2 l3 n0 n1 n2 n3 n4) (fun k => maskref4_AskedFault.l1 k fl l1 (l1.length : Int) 0 p l1 l2 l3 n0 n1 n2 n3 n4) := by
  refine down (P := fun i => Both (fun k => clocks_CheckFor.l1 k fl l1 (l1.length : Int) (i : Int) p l1 l2 l3 n0 n1 n2 n3 n4) (fun k => maskref4_AskedFault.l1 k fl l1 (l1.length : Int) (i : Int) p l1 l2 l3 n0 n1 n2 n3 n4)) l1.length ?_ ?_ 0 (by omega)
  · exact Both.step (fun k => by rw [clocks_CheckFor.l1]) (fun k => by rw [maskref4_AskedFault.l1]) (Both.neg (by omega) (outs_same fl hf h0 h1 h2 h3))
  · intro i hi ih
    refine Both.step (fun k => by rw [clocks_CheckFor.l1]) (fun k => by rw [maskref4_AskedFault.l1]) (Both.pos (by omega) (Both.pos (by omega) (Both.pos (by omega) ?_)))
    rw [ws hi hi1]
    refine Both.bindl (contains_ev n0 _ h0) (Both.bindr (among_ev _ n0 h0) ?_)
    by_cases e : hasB n0 (rd_T78 l1 i).f0 = true
    · exact Both.pos e ih
    · exact Both.neg e (Both.now 7)
theorem flops_same (hn : n2.length ≤ 8796093022207) (h0 : n0.length ≤ 9223372036854775807) (h1 : n1.length ≤ 9223372036854775807) (hi1 : l1.length ≤ 9223372036854775807) (h2 : l2.length ≤ 9223372036854775807) (h3 : l3.length ≤ 9223372036854775807) :
    Both (fun k => clocks_CheckFor.l0 k [] n2 (n2.length : Int) 0 p l1 l2 l3 n0 n1 n2 n3 n4) (fun k => maskref4_AskedFault.l0 k [] n2 (n2.length : Int) 0 p l1 l2 l3 n0 n1 n2 n3 n4) := by
  have key := down (P := fun i => ∀ fl : List ByteArray, fl.length = i → Both (fun k => clocks_CheckFor.l0 k fl n2 (n2.length : Int) (i : Int) p l1 l2 l3 n0 n1 n2 n3 n4) (fun k => maskref4_AskedFault.l0 k fl n2 (n2.length : Int) (i : Int) p l1 l2 l3 n0 n1 n2 n3 n4)) n2.length ?_ ?_ 0 (by omega)
  · exact key [] rfl
  · intro fl hfl
    exact Both.step (fun k => by rw [clocks_CheckFor.l0]) (fun k => by rw [maskref4_AskedFault.l0]) (Both.neg (by omega) (ins_same fl (by omega) h0 h1 hi1 h2 h3))
  · intro i hi ih fl hfl
    refine Both.step (fun k => by rw [clocks_CheckFor.l0]) (fun k => by rw [maskref4_AskedFault.l0]) (Both.pos (by omega) (Both.pos (by omega) (Both.pos (by omega) (Both.pos (by omega) ?_))))
    rw [ws hi (by omega)]
    exact ih _ (by rw [List.length_append, hfl]; rfl)
end

theorem asked_same (p : Int) (l1 : List S78) (l2 : List S81) (l3 : List S83) (n0 n1 : List ByteArray) (n2 : List S58) (n3 : List S72) (n4 : List Int)
    (h1 : l1.length ≤ 9223372036854775807) (h2 : l2.length ≤ 9223372036854775807) (h3 : l3.length ≤ 9223372036854775807) (s1 : ∀ x ∈ l1, x.f0.size ≤ 140737488351232) (s2 : ∀ x ∈ l2, x.f0.size ≤ 140737488351232) (s3 : ∀ x ∈ l3, x.f0.size ≤ 140737488351232 ∧ x.f1.size ≤ 140737488351232)
    (g0 : n0.length ≤ 9223372036854775807) (g1 : n1.length ≤ 9223372036854775807) (hn2 : n2.length ≤ 8796093022207) :
    Both (fun k => clocks_CheckFor.f k p l1 l2 l3 n0 n1 n2 n3 n4) (fun k => maskref4_AskedFault.f k p l1 l2 l3 n0 n1 n2 n3 n4) := by
  have L := limits_ev (p := p) s1 s2 s3 h1 h2 h3
  have ok : clocks_Check.ok l1 l2 l3 = true := by
    unfold clocks_Check.ok
    simp only [Bool.and_eq_true, List.all_eq_true, decide_eq_true_eq]
    exact ⟨⟨fun x hx => by have := s1 x hx; omega, fun x hx => by have := s2 x hx; omega⟩, fun x hx => ⟨by have := (s3 x hx).1; omega, by have := (s3 x hx).2; omega⟩⟩
  have C : clocks_Check.f p l1 l2 l3 = some (CheckV p l1 l2 l3) := by unfold clocks_Check.f; rw [if_pos ok]
  unfold clocks_CheckFor.f maskref4_AskedFault.f
  refine Both.vall C (Both.bindr L ?_)
  by_cases e : CheckV p l1 l2 l3 = 0
  · exact Both.pos e (flops_same hn2 g0 g1 h1 h2 h3)
  · exact Both.neg e (Both.now _)
end Go.Proofs.YtlegjcagkmjfjaaDoor.LTimingChecks
