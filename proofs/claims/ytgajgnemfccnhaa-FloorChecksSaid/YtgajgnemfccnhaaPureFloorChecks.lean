/- The pure statement of the law FloorChecks, proved: the check of a floor, its size, its free spans and its ports, against the reference's. No conditions. -/
import Derived.Test.YtgajgnemfccnhaaLFloorChecksFloor
namespace Go.Proofs.Ytgajgnemfccnhaa.Pure
open Go.RowKit Go.Proofs.YtgajgnemfccnhaaW.PrintWords Go.Proofs.Ytgajgnemfccnhaa.Opn Go.Proofs.Ytgajgnemfccnhaa.PA Go.Proofs.Ytgajgnemfccnhaa.SFloorChecks Go.Proofs.Ytgajgnemfccnhaa.Aid Go.Proofs.Ytgajgnemfccnhaa.LFloorChecks
set_option linter.unusedVariables false

theorem floors_once : masklaw4_floors.f 20 = some true := by decide +kernel
theorem floors_work : Ev (fun k => masklaw4_floors.f k) true := Ev.of (fun k => masklaw4_floors.mono k) floors_once

abbrev Spn := S62
/-- Does a block cover a site? -/
def cov (row : Int) (j : Nat) (x : Blk) : Bool := decide (x.f0 = row ∧ x.f1 ≤ (j : Int) ∧ (j : Int) < x.f2)

section
variable (a b c : Int) (bl : List Blk) (wl : List Wal) (pl : List Prt) (row : Int)

theorem blocked_ev (hbl : bl.length ≤ 9223372036854775807) (j : Nat) : Ev (fun k => maskref4_blocked.f k a b c bl wl pl row (j : Int)) (bl.any (cov row j)) := by
  unfold maskref4_blocked.f
  have key := down (P := fun i => Ev (fun k => maskref4_blocked.l0 k row (j : Int) bl (bl.length : Int) (i : Int)) ((bl.drop i).any (cov row j))) bl.length ?_ ?_ 0 (by omega)
  · simpa using key
  · refine Ev.step (fun k => by rw [maskref4_blocked.l0]) ?_
    rw [List.drop_length]
    exact Ev.neg (by omega) (Ev.now _)
  · intro i hi ih
    refine Ev.step (fun k => by rw [maskref4_blocked.l0]) ?_
    refine Ev.pos (by omega) (Ev.pos (by omega) (Ev.pos (by omega) ?_))
    rw [ws hi hbl, drop_cons_getD hi z98, List.any_cons]
    have e : rd_T98 bl (i : Int) = bl.getD i z98 := rfl
    rw [e]
    generalize bl.getD i z98 = x
    by_cases h0 : x.f0 = row
    · refine Ev.pos h0 ?_
      by_cases h1 : x.f1 ≤ (j : Int)
      · refine Ev.pos h1 ?_
        by_cases h2 : (j : Int) < x.f2
        · rw [show cov row j x = true by simp [cov, h0, h1, h2]]
          exact Ev.pos h2 (Ev.now _)
        · rw [show cov row j x = false by simp [cov, h2]]
          exact Ev.neg h2 ih
      · rw [show cov row j x = false by simp [cov, h1]]
        exact Ev.neg h1 ih
    · rw [show cov row j x = false by simp [cov, h0]]
      exact Ev.neg h0 ih

/-- What the list of taken sites says, when some blocks are entered. -/
def TK (n : Nat) (T : List Bool) (f : Nat → Bool) : Prop := T.length = n + 1 ∧ T.getD n false = true ∧ ∀ j, j < n → T.getD j false = f j

theorem getD_set (T : List Bool) (i j : Nat) (h : i < T.length) : (T.set i true).getD j false = if i = j then true else T.getD j false := by
  simp only [List.getD_eq_getElem?_getD, List.getElem?_set]
  by_cases e : i = j
  · subst e
    simp [h]
  · simp [e]

theorem spans_same (n : Nat) (hn : n ≤ 40) (hb : b = (n : Int)) (hbl : bl.length ≤ 9223372036854775807) (T : List Bool) (hT : TK n T (fun j => bl.any (cov row j))) :
    Two (fun R : List Spn => R.length ≤ 9223372036854775807) (fun k => floor_Free.l2 k ([] : List Spn) 0 T (T.length : Int) 0) (fun k => maskref4_Spans.l0 k row ([] : List Spn) 0 a b c bl wl pl) := by
  obtain ⟨hl, hlast, hT⟩ := hT
  have key := down (P := fun j => ∀ (out : List Spn) (from_ : Nat), from_ ≤ j → out.length ≤ from_ → (∀ s ∈ out, s.f1 < (from_ : Int)) →
    Two (fun R : List Spn => R.length ≤ 9223372036854775807) (fun k => floor_Free.l2 k out (from_ : Int) T (T.length : Int) (j : Int)) (fun k => maskref4_Spans.l0 k row (if from_ < j then out ++ [(⟨(from_ : Int), (j : Int)⟩ : Spn)] else out) (j : Int) a b c bl wl pl)) n ?_ ?_ 0 (by omega) [] 0 (by omega) (by simp) (by simp)
  · simpa using key
  · intro out from_ h1 h2 h3
    refine Both.step (fun k => by rw [floor_Free.l2]) (fun k => by rw [maskref4_Spans.l0]) ?_
    refine Both.negr (by omega) (Both.posl (by omega) (Both.posl (by omega) (Both.posl (by omega) ?_)))
    have e : rdOf false T (n : Int) = true := by
      unfold rdOf
      simpa using hlast
    refine Both.posl e ?_
    have hw : wrap64 ((n : Int) + 1) = ((n + 1 : Nat) : Int) := by rw [w64 (by omega) (by omega)]; omega
    rw [hw]
    have fin : ∀ o : List Spn, o.length ≤ 100 → Two (fun R : List Spn => R.length ≤ 9223372036854775807) (fun k => floor_Free.l2 k o ((n + 1 : Nat) : Int) T (T.length : Int) ((n + 1 : Nat) : Int)) (fun k => some o) := by
      intro o ho
      refine Both.stepl (fun k => by rw [floor_Free.l2]) ?_
      exact Both.negl (by omega) (Two.now _ (by omega))
    by_cases hf : from_ < n
    · rw [if_pos hf]
      exact Both.posl (by omega) (Both.posl (by omega) (fin _ (by simp; omega)))
    · rw [if_neg hf]
      exact Both.negl (by omega) (fin _ (by omega))
  · intro j hj ih out from_ h1 h2 h3
    refine Both.step (fun k => by rw [floor_Free.l2]) (fun k => by rw [maskref4_Spans.l0]) ?_
    refine Both.posr (by omega) (Both.posl (by omega) (Both.posl (by omega) (Both.posl (by omega) ?_)))
    have hw : wrap64 ((j : Int) + 1) = ((j + 1 : Nat) : Int) := by rw [w64 (by omega) (by omega)]; omega
    rw [hw]
    have e : rdOf false T (j : Int) = bl.any (cov row j) := by
      unfold rdOf
      simpa using hT j hj
    rw [e]
    refine Both.bindr (blocked_ev a b c bl wl pl row hbl j) ?_
    cases hc : bl.any (cov row j) with
    | true =>
      refine Both.pos rfl ?_
      by_cases hf : from_ < j
      · rw [if_pos hf]
        refine Both.posl (by omega) (Both.posl (by omega) ?_)
        have := ih (out ++ [(⟨(from_ : Int), (j : Int)⟩ : Spn)]) (j + 1) (by omega) (by simp; omega) ?_
        · simpa using this
        · intro s hs
          rcases List.mem_append.1 hs with hs | hs
          · have := h3 s hs; omega
          · obtain rfl := List.mem_singleton.1 hs
            show (j : Int) < _
            omega
      · rw [if_neg hf]
        refine Both.negl (by omega) ?_
        have := ih out (j + 1) (by omega) (by omega) (fun s hs => by have := h3 s hs; omega)
        simpa using this
    | false =>
      refine Both.neg (by simp) ?_
      have this := ih out from_ (by omega) h2 h3
      rw [if_pos (show from_ < j + 1 by omega)] at this
      by_cases hf : from_ < j
      · rw [if_pos hf]
        have hlen : ((out ++ [(⟨(from_ : Int), (j : Int)⟩ : Spn)]).length : Int) = (out.length : Int) + 1 := by simp
        have hwl : wrap64 (((out ++ [(⟨(from_ : Int), (j : Int)⟩ : Spn)]).length : Int) - 1) = (out.length : Int) := by rw [hlen, w64 (by omega) (by omega)]; omega
        rw [hwl]
        have hrd : rd_T62 (out ++ [(⟨(from_ : Int), (j : Int)⟩ : Spn)]) (out.length : Int) = (⟨(from_ : Int), (j : Int)⟩ : Spn) := by
          unfold rd_T62
          simp
        rw [hrd]
        have hset : (out ++ [(⟨(from_ : Int), (j : Int)⟩ : Spn)]).set ((out.length : Int)).toNat (⟨(from_ : Int), ((j + 1 : Nat) : Int)⟩ : Spn) = out ++ [(⟨(from_ : Int), ((j + 1 : Nat) : Int)⟩ : Spn)] := by
          simp
        refine Both.posr (by omega) (Both.posr (by omega) (Both.posr (by omega) (Both.posr rfl ?_)))
        show Two _ _ (fun k => maskref4_Spans.l0 k row ((out ++ [(⟨(from_ : Int), (j : Int)⟩ : Spn)]).set ((out.length : Int)).toNat (⟨(from_ : Int), ((j + 1 : Nat) : Int)⟩ : Spn)) _ a b c bl wl pl)
        rw [hset]
        exact this
      · rw [if_neg hf]
        have hj' : from_ = j := by omega
        subst hj'
        by_cases h0 : (out.length : Int) > 0
        · refine Both.posr h0 ?_
          have hwl : wrap64 ((out.length : Int) - 1) = ((out.length - 1 : Nat) : Int) := by rw [w64 (by omega) (by omega)]; omega
          rw [hwl]
          have hmem : rd_T62 out ((out.length - 1 : Nat) : Int) ∈ out := by unfold rd_T62; exact getD_mem (by simp; omega) _
          have hlt := h3 _ hmem
          refine Both.posr (by omega) (Both.posr (by omega) (Both.negr (by omega) (Both.posr (by omega) ?_)))
          exact this
        · exact Both.negr h0 (Both.posr (by omega) this)

theorem mark_one (n : Nat) (hn : n ≤ 40) (R : List Spn) (x : Blk) (g : Nat → Bool) (nb i : Int) (m0 m1 : Nat) (hm0 : x.f1 = (m0 : Int)) (hm1 : x.f2 = (m1 : Int)) (h01 : m0 ≤ m1) (h1n : m1 ≤ n) (hrow : x.f0 = row)
    (next : ∀ T', TK n T' (fun j => g j || cov row j x) → Ev (fun k => floor_Free.l0 k row T' bl nb (wrap64 (i + 1))) R) :
    ∀ T, TK n T g → Ev (fun k => floor_Free.l1 k row T x.f1 bl nb i x.f0 x.f1 x.f2) R := by
  intro T hT
  have key := down (P := fun q => m0 ≤ q → ∀ T', TK n T' (fun j => g j || decide (m0 ≤ j ∧ j < q)) → Ev (fun k => floor_Free.l1 k row T' (q : Int) bl nb i x.f0 x.f1 x.f2) R) m1 ?_ ?_ m0 h01 (Nat.le_refl _) T ?_
  · rw [← hm0] at key
    exact key
  · intro _ T' hT'
    refine Ev.step (fun k => by rw [floor_Free.l1]) ?_
    refine Ev.neg (by omega) (next T' ⟨hT'.1, hT'.2.1, fun j hj => ?_⟩)
    refine (hT'.2.2 j hj).trans ?_
    dsimp only
    congr 1
    simp only [cov, hrow, hm0, hm1, true_and, Int.ofNat_le, Int.ofNat_lt]
  · intro q hq ih2 hmq T' hT'
    have hl := hT'.1
    refine Ev.step (fun k => by rw [floor_Free.l1]) ?_
    have hw : wrap64 ((q : Int) + 1) = ((q + 1 : Nat) : Int) := by rw [w64 (by omega) (by omega)]; omega
    rw [hw]
    have c1 : (q : Int) < x.f2 := by omega
    have c2 : (0 : Int) ≤ (q : Int) := by omega
    have c3 : (q : Int) < (T'.length : Int) := by omega
    refine Ev.pos c1 (Ev.pos hrow (Ev.pos c2 (Ev.pos c3 ?_)))
    refine ih2 (by omega) _ ⟨by rw [List.length_set]; exact hl, ?_, fun j hj => ?_⟩
    · rw [getD_set _ _ _ (by simp; omega)]
      split
      · rfl
      · exact hT'.2.1
    · rw [getD_set _ _ _ (by simp; omega)]
      simp only [Int.toNat_natCast]
      split
      · rename_i hqj
        subst hqj
        simp [hmq]
      · rename_i hqj
        refine (hT'.2.2 j hj).trans ?_
        dsimp only
        have : (m0 ≤ j ∧ j < q) ↔ (m0 ≤ j ∧ j < q + 1) := by omega
        simp only [this]
  · refine ⟨hT.1, hT.2.1, fun j hj => ?_⟩
    refine (hT.2.2 j hj).trans ?_
    have : ¬ (m0 ≤ j ∧ j < m0) := by omega
    simp [this]

theorem mark_all (n : Nat) (hn : n ≤ 40) (hbl : bl.length ≤ 9223372036854775807) (hok : ∀ x ∈ bl, 0 ≤ x.f1 ∧ x.f1 < x.f2 ∧ x.f2 ≤ (n : Int)) (R : List Spn)
    (hR : ∀ T, TK n T (fun j => bl.any (cov row j)) → Ev (fun k => floor_Free.l2 k ([] : List Spn) 0 T (T.length : Int) 0) R) :
    ∀ i, i ≤ bl.length → ∀ T, TK n T (fun j => (bl.take i).any (cov row j)) → Ev (fun k => floor_Free.l0 k row T bl (bl.length : Int) (i : Int)) R := by
  refine down _ ?_ ?_
  · intro T hT
    rw [List.take_length] at hT
    refine Ev.step (fun k => by rw [floor_Free.l0]) ?_
    exact Ev.neg (by omega) (hR T hT)
  · intro i hi ih T hT
    refine Ev.step (fun k => by rw [floor_Free.l0]) ?_
    refine Ev.pos (by omega) (Ev.pos (by omega) (Ev.pos (by omega) ?_))
    have e : rd_T98 bl (i : Int) = bl.getD i z98 := rfl
    rw [e]
    have hx := hok _ (getD_mem hi z98)
    have htk : bl.take (i + 1) = bl.take i ++ [bl.getD i z98] := by
      rw [List.take_succ_eq_append_getElem hi, List.getD_eq_getElem?_getD, List.getElem?_eq_getElem hi]
      rfl
    rw [htk] at ih
    generalize bl.getD i z98 = x at hx ih ⊢
    have next : ∀ T', TK n T' (fun j => (bl.take i).any (cov row j) || cov row j x) → Ev (fun k => floor_Free.l0 k row T' bl (bl.length : Int) (wrap64 ((i : Int) + 1))) R := by
      intro T' hT'
      rw [ws hi hbl]
      refine ih T' ⟨hT'.1, hT'.2.1, fun j hj => (hT'.2.2 j hj).trans ?_⟩
      simp
    by_cases hrow : x.f0 = row
    · exact mark_one bl row n hn R x (fun j => (bl.take i).any (cov row j)) _ _ x.f1.toNat x.f2.toNat (by omega) (by omega) (by omega) (by omega) hrow next T hT
    · refine Ev.step (fun k => by rw [floor_Free.l1]) ?_
      have c1 : x.f1 < x.f2 := by omega
      refine Ev.pos c1 (Ev.neg hrow (next T ⟨hT.1, hT.2.1, fun j hj => (hT.2.2 j hj).trans ?_⟩))
      simp [cov, hrow]

theorem span_refl (l : List Spn) (hl : l.length ≤ 9223372036854775807) : Ev (fun k => floor_Span.f k l l) true := by
  unfold floor_Span.f
  refine Ev.pos rfl ?_
  refine down (P := fun i => Ev (fun k => floor_Span.l0 k l l (l.length : Int) (i : Int)) true) l.length ?_ ?_ 0 (by omega)
  · refine Ev.step (fun k => by rw [floor_Span.l0]) ?_
    exact Ev.neg (by omega) (Ev.now _)
  · intro i hi ih
    refine Ev.step (fun k => by rw [floor_Span.l0]) ?_
    refine Ev.pos (by omega) (Ev.pos (by omega) (Ev.pos (by omega) (Ev.pos (by omega) (Ev.neg (by simp) ?_))))
    rw [ws hi hl]
    exact ih

/-- The first port with a name. -/
def fits (nm : ByteArray) (o : Bool) (p : Prt) : Bool := decide (p.f0.toList = nm.toList ∧ (p.f1 == o) = true)
def res (nm : ByteArray) (o : Bool) (l : List Prt) : Int × Int × Bool := match l.find? (fits nm o) with
  | some p => (p.f2, p.f3, true)
  | none => (0, 0, false)

theorem at_ev (hp : pl.length ≤ 9223372036854775807) (nm : ByteArray) (o : Bool) : Ev (fun k => floor_At.f k a b c bl wl pl nm o) (res nm o pl) := by
  unfold floor_At.f
  have key := down (P := fun i => Ev (fun k => floor_At.l0 k nm o pl (pl.length : Int) (i : Int)) (res nm o (pl.drop i))) pl.length ?_ ?_ 0 (by omega)
  · simpa using key
  · refine Ev.step (fun k => by rw [floor_At.l0]) ?_
    rw [List.drop_length]
    exact Ev.neg (by omega) (Ev.now _)
  · intro i hi ih
    refine Ev.step (fun k => by rw [floor_At.l0]) ?_
    refine Ev.pos (by omega) (Ev.pos (by omega) (Ev.pos (by omega) ?_))
    rw [ws hi hp, drop_cons_getD hi z96]
    have e : rd_T96 pl (i : Int) = pl.getD i z96 := rfl
    rw [e]
    generalize pl.getD i z96 = x
    by_cases h0 : x.f0.toList = nm.toList
    · refine Ev.pos h0 ?_
      by_cases h1 : (x.f1 == o) = true
      · refine Ev.pos h1 ?_
        have : res nm o (x :: pl.drop (i + 1)) = (x.f2, x.f3, true) := by
          unfold res
          rw [List.find?_cons_of_pos (by simp [fits, h0]; simpa using h1)]
        rw [this]
        exact Ev.now _
      · refine Ev.neg h1 ?_
        have : res nm o (x :: pl.drop (i + 1)) = res nm o (pl.drop (i + 1)) := by
          unfold res
          rw [List.find?_cons_of_neg (by simp [fits]; intro _; simpa using h1)]
        rw [this]
        exact ih
    · refine Ev.neg h0 ?_
      have : res nm o (x :: pl.drop (i + 1)) = res nm o (pl.drop (i + 1)) := by
        unfold res
        rw [List.find?_cons_of_neg (by simp [fits, h0])]
      rw [this]
      exact ih

theorem rd_takeP (i j : Nat) (h : j < i) : rd_T96 (pl.take i) (j : Int) = rd_T96 pl (j : Int) := rd_take pl i j h

theorem port_ev (hp : pl.length ≤ 9223372036854775807) (nm : ByteArray) (o : Bool) : Ev (fun k => maskref4_PortOf.f k a b c bl wl pl nm o) (res nm o pl) := by
  have key : ∀ i, i ≤ pl.length → Ev (fun k => maskref4_PortOf.l0 k nm o ((i : Int) - 1) a b c bl wl pl) (res nm o (pl.take i)) := by
    intro i
    induction i with
    | zero =>
      intro _
      refine Ev.step (fun k => by rw [maskref4_PortOf.l0]) ?_
      exact Ev.neg (by omega) (Ev.now _)
    | succ i ih =>
      intro hi
      refine Ev.step (fun k => by rw [maskref4_PortOf.l0]) ?_
      rw [show ((i + 1 : Nat) : Int) - 1 = (i : Int) by omega]
      refine Ev.pos (by omega) (Ev.pos (by omega) (Ev.pos (by omega) ?_))
      simp only [Option.bind_some, Int.toNat_natCast]
      have hl : (pl.take i).length = i := by rw [List.length_take]; omega
      have htk : pl.take (i + 1) = pl.take i ++ [rd_T96 pl (i : Int)] := by
        rw [List.take_succ_eq_append_getElem (by omega)]
        unfold rd_T96
        rw [Int.toNat_natCast, List.getD_eq_getElem?_getD, List.getElem?_eq_getElem (by omega)]
        rfl
      have back : wrap64 ((i : Int) - 1) = (i : Int) - 1 := w64 (by omega) (by omega)
      -- the inner loop
      have inner := down (P := fun q => ∀ f : Bool, f = (!((pl.take i).take q).any (fits nm o)) → Ev (fun k => maskref4_PortOf.l1 k nm o (i : Int) f (pl.take i) ((pl.take i).length : Int) (q : Int) a b c bl wl pl) (res nm o (pl.take (i + 1)))) (pl.take i).length ?_ ?_ 0 (by omega) true (by simp)
      · exact inner
      · intro f hf
        rw [List.take_length] at hf
        refine Ev.step (fun k => by rw [maskref4_PortOf.l1]) ?_
        refine Ev.neg (by omega) (Ev.pos (by omega) (Ev.pos (by omega) ?_))
        rw [back, htk]
        have ih' := ih (by omega)
        cases hany : (pl.take i).any (fits nm o) with
        | true =>
          rw [hany] at hf
          refine Ev.neg (by rw [hf]; simp) ?_
          have : res nm o (pl.take i ++ [rd_T96 pl (i : Int)]) = res nm o (pl.take i) := by
            unfold res
            rw [List.find?_append]
            cases hq : (pl.take i).find? (fits nm o) with
            | some p => rfl
            | none =>
              rw [List.find?_eq_none] at hq
              obtain ⟨x, hx, hx'⟩ := List.any_eq_true.1 hany
              exact absurd hx' (hq x hx)
          rw [this]
          exact ih'
        | false =>
          rw [hany] at hf
          have hnone : (pl.take i).find? (fits nm o) = none := by
            rw [List.find?_eq_none]
            intro x hx hx'
            have := List.any_eq_false.1 hany x hx
            exact this hx'
          refine Ev.pos (by rw [hf]; rfl) ?_
          have hres : res nm o (pl.take i ++ [rd_T96 pl (i : Int)]) = (if fits nm o (rd_T96 pl (i : Int)) = true then ((rd_T96 pl (i : Int)).f2, (rd_T96 pl (i : Int)).f3, true) else (0, 0, false)) := by
            unfold res
            rw [List.find?_append, hnone]
            cases hq : fits nm o (rd_T96 pl (i : Int)) with
            | true => simp [hq]
            | false => simp [hq]
          have hi0 : res nm o (pl.take i) = (0, 0, false) := by
            unfold res
            rw [hnone]
          rw [hi0] at ih'
          rw [hres]
          generalize rd_T96 pl (i : Int) = x
          by_cases h0 : x.f0.toList = nm.toList
          · refine Ev.pos h0 ?_
            by_cases h1 : (x.f1 == o) = true
            · rw [if_pos (show fits nm o x = true by simp [fits, h0]; simpa using h1)]
              exact Ev.pos h1 (Ev.now _)
            · rw [if_neg (show ¬ fits nm o x = true by simp [fits]; intro _; simpa using h1)]
              exact Ev.neg h1 ih'
          · rw [if_neg (show ¬ fits nm o x = true by simp [fits, h0])]
            exact Ev.neg h0 ih'
      · intro q hq ih2 f hf
        refine Ev.step (fun k => by rw [maskref4_PortOf.l1]) ?_
        refine Ev.pos (by omega) (Ev.pos (by omega) (Ev.pos (by omega) ?_))
        rw [ws hq (by omega)]
        have htq : (pl.take i).take (q + 1) = (pl.take i).take q ++ [rd_T96 (pl.take i) (q : Int)] := by
          rw [List.take_succ_eq_append_getElem hq]
          unfold rd_T96
          rw [Int.toNat_natCast, List.getD_eq_getElem?_getD, List.getElem?_eq_getElem hq]
          rfl
        rw [htq] at ih2
        generalize rd_T96 (pl.take i) (q : Int) = x at *
        by_cases h0 : x.f0.toList = nm.toList
        · refine Ev.pos h0 ?_
          by_cases h1 : (x.f1 == o) = true
          · refine Ev.pos h1 (ih2 false ?_)
            rw [List.any_append]
            rw [show [x].any (fits nm o) = true by simp [fits, h0]; simpa using h1]
            simp
          · refine Ev.neg h1 (ih2 f ?_)
            rw [List.any_append, hf]
            rw [show [x].any (fits nm o) = false by simp [fits]; intro _; simpa using h1]
            simp
        · refine Ev.neg h0 (ih2 f ?_)
          rw [List.any_append, hf]
          rw [show [x].any (fits nm o) = false by simp [fits, h0]]
          simp
  unfold maskref4_PortOf.f
  have := key pl.length (Nat.le_refl _)
  rw [List.take_length] at this
  rw [w64 (x := (pl.length : Int) - 1) (by omega) (by omega)]
  exact this
end

theorem room_for (n : Nat) (h : n ≤ 40) : ((n + 1 : Nat) : Int).toNat ≤ 281474976710656 := by
  rw [Int.toNat_natCast]
  exact Nat.le_trans (Nat.succ_le_succ h) (by decide)
theorem free_j0 (a b c : Int) (bl : List Blk) (wl : List Wal) (pl : List Prt) (row : Int) (n : Nat) (hn40 : n ≤ 40) (R : List Spn) (hm : Ev (fun k => floor_Free.l0 k row ((List.replicate (n + 1) false).set n true) bl (bl.length : Int) 0) R) :
    Ev (fun k => floor_Free.j0 k row false a (n : Int) c bl wl pl) R := by
  refine Ev.step (fun k => by rw [floor_Free.j0]) (Ev.neg (by simp) ?_)
  have hw : wrap64 ((n : Int) + 1) = ((n + 1 : Nat) : Int) := by rw [w64 (by omega) (by omega)]; omega
  rw [hw]
  have d1 : (0 : Int) ≤ ((n + 1 : Nat) : Int) := by omega
  have d3 : (0 : Int) ≤ (n : Int) := by omega
  have d4 : (n : Int) < ((List.replicate (n + 1) false).length : Int) := by rw [List.length_replicate]; omega
  refine Ev.pos d1 (Ev.pos (room_for n hn40) ?_)
  simp only [Option.bind_some, Int.toNat_natCast]
  exact Ev.pos d3 (Ev.pos d4 hm)

theorem FloorChecks : SFloorChecks.Pure := by
  intro a b c bl wl pl row nm o _ _ _ hbl hwl hpl _ _
  have h1 := hbl.2.1
  have h2 := hwl.2.1
  have h3 := hpl.2.1
  have hn : ∀ x ∈ pl, GS x.f0 := fun x hx => (hpl.2.2 x hx).1
  obtain ⟨r, f1, f2, hgood⟩ := floor_same a b c bl wl pl h1 h2 h3 hn
  -- the free spans
  have hfree : ∃ R : List Spn, Ev (fun k => floor_Free.f k a b c bl wl pl row) R ∧ Ev (fun k => maskref4_Spans.f k a b c bl wl pl row) R ∧ R.length ≤ 9223372036854775807 := by
    have jt : Ev (fun k => floor_Free.j0 k row true a b c bl wl pl) ([] : List Spn) := Ev.step (fun k => by rw [floor_Free.j0]) (Ev.pos rfl (Ev.now _))
    have js : Ev (fun k => maskref4_Spans.j0 k row true a b c bl wl pl) ([] : List Spn) := Ev.step (fun k => by rw [maskref4_Spans.j0]) (Ev.pos rfl (Ev.now _))
    unfold floor_Free.f maskref4_Spans.f
    simp only [in_eq, within_eq, Option.bind_some]
    by_cases h0 : r = 0
    · obtain ⟨ga, ga', gb, gb', gc, gc', gbl, gwl, gpl, gok⟩ := hgood h0
      rw [w64 (x := a - 1) (by omega) (by omega)]
      by_cases hr : 0 ≤ row ∧ row ≤ a - 1
      · obtain ⟨n, hnb⟩ : ∃ n : Nat, b = (n : Int) := ⟨b.toNat, by omega⟩
        have hn40 : n ≤ 40 := by omega
        have hok : ∀ x ∈ bl, 0 ≤ x.f1 ∧ x.f1 < x.f2 ∧ x.f2 ≤ (n : Int) := fun x hx => by
          have := gok x hx
          unfold okB at this
          omega
        have htk0 : TK n ((List.replicate (n + 1) false).set n true) (fun j => (bl.take 0).any (cov row j)) := by
          refine ⟨by simp, ?_, fun j hj => ?_⟩
          · rw [getD_set _ _ _ (by simp)]
            simp
          · rw [getD_set _ _ _ (by simp)]
            have : ¬ n = j := by omega
            rw [if_neg this, List.getD_eq_getElem?_getD, List.getElem?_replicate]
            split <;> rfl
        obtain ⟨T, hT⟩ : ∃ T : List Bool, TK n T (fun j => bl.any (cov row j)) := by
          refine ⟨(List.range n).map (fun j => bl.any (cov row j)) ++ [true], by simp, ?_, fun j hj => ?_⟩
          · simp [List.getD_eq_getElem?_getD]
          · rw [List.getD_eq_getElem?_getD, List.getElem?_append_left (by simpa using hj)]
            simp [hj]
        obtain ⟨R, r1, r2, rl⟩ := spans_same a b c bl wl pl row n hn40 hnb h1 T hT
        have all : ∀ T', TK n T' (fun j => bl.any (cov row j)) → Ev (fun k => floor_Free.l2 k ([] : List Spn) 0 T' (T'.length : Int) 0) R := by
          intro T' hT'
          obtain ⟨R', q1, q2, _⟩ := spans_same a b c bl wl pl row n hn40 hnb h1 T' hT'
          obtain ⟨K, e1⟩ := q2
          obtain ⟨K', e2⟩ := r2
          have := (e1 (max K K') (by omega)).symm.trans (e2 (max K K') (by omega))
          obtain rfl := Option.some.inj this
          exact q1
        have hm := mark_all bl row n hn40 h1 hok R all 0 (by omega) _ htk0
        refine ⟨R, ?_, ?_, ?_⟩
        · refine Ev.bind f1 (Ev.pos h0 ?_)
          rw [show (!decide (0 ≤ row ∧ row ≤ a - 1)) = false by simp [hr]]
          rw [hnb]
          exact free_j0 a b c bl wl pl row n hn40 R hm
        · refine Ev.bind f2 (Ev.pos h0 ?_)
          rw [show (!decide (0 ≤ row ∧ row ≤ a - 1)) = false by simp [hr]]
          refine Ev.step (fun k => by rw [maskref4_Spans.j0]) (Ev.neg (by simp) ?_)
          exact r2
        · exact rl
      · refine ⟨[], ?_, ?_, by simp⟩
        · refine Ev.bind f1 (Ev.pos h0 ?_)
          rw [show (!decide (0 ≤ row ∧ row ≤ a - 1)) = true by simp [hr]]
          exact jt
        · refine Ev.bind f2 (Ev.pos h0 ?_)
          rw [show (!decide (0 ≤ row ∧ row ≤ a - 1)) = true by simp [hr]]
          exact js
    · exact ⟨[], Ev.bind f1 (Ev.neg h0 jt), Ev.bind f2 (Ev.neg h0 js), by simp⟩
  obtain ⟨R, g1, g2, hRl⟩ := hfree
  have j1 : Ev (fun k => masklaw4_FloorChecks.j1 k nm o a b c bl wl pl) true := by
    refine Ev.step (fun k => by rw [masklaw4_FloorChecks.j1]) ?_
    by_cases hc : (pl.length : Int) > 300
    · exact Ev.pos hc (Ev.now _)
    · refine Ev.neg hc (Ev.bind (at_ev a b c bl wl pl h3 nm o) (Ev.bind (port_ev a b c bl wl pl h3 nm o) ?_))
      simp only [beq_self_eq_true, Bool.and_self, if_true]
      exact Ev.now _
  refine Ev.rounds (Ev.bind floors_work (Ev.pos rfl (Ev.bind f1 (Ev.bind f2 (Ev.pos rfl (Ev.bind g1 (Ev.bind g2 (Ev.bind (span_refl R hRl) ?_))))))))
  refine Ev.step (fun k => by rw [masklaw4_FloorChecks.j0]) (Ev.neg (by simp) (Ev.bind f2 ?_))
  by_cases h0 : r = 0
  · refine Ev.pos h0 ?_
    unfold floor_Size.f maskref4_Tracks.f
    simp only [Option.bind_some]
    exact Ev.pos trivial (Ev.pos trivial j1)
  · exact Ev.neg h0 j1

end Go.Proofs.Ytgajgnemfccnhaa.Pure
