/- The pure statement of the law LegalChecks, proved: the grid of used sites and the reference's pairs of cells come to the same answer. No conditions. -/
import Derived.Test.YtgajgnemfccnhaaLLegalChecksFloor
namespace Go.Proofs.Ytgajgnemfccnhaa.Pure
open Go.RowKit Go.Proofs.YtgajgnemfccnhaaW.PrintWords Go.Proofs.Ytgajgnemfccnhaa.Opn Go.Proofs.Ytgajgnemfccnhaa.PL Go.Proofs.Ytgajgnemfccnhaa.SLegalChecks Go.Proofs.Ytgajgnemfccnhaa.Aid Go.Proofs.Ytgajgnemfccnhaa.LLegalChecks
set_option linter.unusedVariables false
set_option linter.unusedSimpArgs false

abbrev Sit := S47
section
variable (a b c : Int) (bl : List Blk) (wl : List Wal) (pl : List Prt) (ar : List Int) (st : List Sit)

/-- A grid whose used sites are those of P. -/
def Gr (g : List (List Bool)) (P : Nat → Nat → Prop) : Prop := g.length = a.toNat ∧ (∀ r, r < a.toNat → (g.getD r []).length = b.toNat) ∧ ∀ r k, r < a.toNat → k < b.toNat → ((g.getD r []).getD k false = true ↔ P r k)
def blk (bl : List Blk) (q : Nat) (r k : Nat) : Prop := ∃ j, j < q ∧ j < bl.length ∧ (rd_T98 bl (j : Int)).f0 = (r : Int) ∧ (rd_T98 bl (j : Int)).f1 ≤ (k : Int) ∧ (k : Int) < (rd_T98 bl (j : Int)).f2
def cov (i : Nat) (r k : Nat) : Prop := ∃ j : Nat, j < i ∧ (rd_T47 st (j : Int)).f0 = (r : Int) ∧ (rd_T47 st (j : Int)).f1 ≤ (k : Int) ∧ (k : Int) < (rd_T47 st (j : Int)).f1 + rd ar (j : Int)

theorem gr_set {g : List (List Bool)} {P : Nat → Nat → Prop} (h : Gr a b g P) (r k : Nat) (hr : r < a.toNat) (hk : k < b.toNat) : Gr a b (g.set r ((g.getD r []).set k true)) (fun r' k' => P r' k' ∨ (r' = r ∧ k' = k)) := by
  obtain ⟨h1, h2, h3⟩ := h
  have e : ∀ r', (g.set r ((g.getD r []).set k true)).getD r' [] = if r = r' then (g.getD r []).set k true else g.getD r' [] := by
    intro r'
    simp only [List.getD_eq_getElem?_getD, List.getElem?_set]
    by_cases e : r = r'
    · subst e; simp [h1, hr]
    · simp [e]
  refine ⟨by rw [List.length_set, h1], fun r' hr' => ?_, fun r' k' hr' hk' => ?_⟩
  · rw [e]
    by_cases e' : r = r'
    · subst e'; rw [if_pos rfl, List.length_set, h2 r hr]
    · rw [if_neg e', h2 r' hr']
  · rw [e]
    by_cases e' : r = r'
    · subst e'
      rw [if_pos rfl, List.getD_eq_getElem?_getD, List.getElem?_set]
      by_cases e'' : k = k'
      · subst e''
        rw [if_pos rfl, if_pos (by rw [h2 r hr]; exact hk)]
        simp
      · rw [if_neg e'', ← List.getD_eq_getElem?_getD, h3 r k' hr hk']
        exact ⟨.inl, fun h => h.elim id (fun h => absurd h.2.symm e'')⟩
    · rw [if_neg e', h3 r' k' hr' hk']
      exact ⟨.inl, fun h => h.elim id (fun h => absurd h.1.symm e')⟩

theorem rows_l0 (ha : 1 ≤ a) (ha' : a ≤ 20) (hb : 1 ≤ b) (hb' : b ≤ 40) (r : Int) (nx : ∀ g, Gr a b g (blk bl 0) → Ev (fun k => legal_Check.l1 k ar st g bl (bl.length : Int) 0 a b c bl wl pl) r) :
    ∀ (d i : Nat), i + d = a.toNat → ∀ g : List (List Bool), g.length = a.toNat → (∀ q, q < i → g.getD q [] = List.replicate b.toNat false) → Ev (fun k => legal_Check.l0 k ar st g (a.toNat : Int) (i : Int) a b c bl wl pl) r := by
  intro d
  induction d with
  | zero =>
    intro i hi g hg hq
    refine Ev.step (fun k => by rw [legal_Check.l0]) ?_
    refine Ev.neg (by omega) (nx g ⟨hg, fun q hq' => ?_, fun q k hq' hk => ?_⟩)
    · rw [hq q (by omega), List.length_replicate]
    · rw [hq q (by omega), List.getD_eq_getElem?_getD, List.getElem?_replicate, if_pos hk]
      constructor
      · intro h; cases h
      · rintro ⟨j, hj, _⟩; omega
  | succ d ih =>
    intro i hi g hg hq
    refine Ev.step (fun k => by rw [legal_Check.l0]) ?_
    have e1 : Aside0 (wrap64 ((i : Int) + 1) = ((i + 1 : Nat) : Int)) := ⟨ws (i := i) (n := a.toNat) (by omega) (by omega)⟩
    refine Ev.pos (by omega) (Ev.pos (by omega) (Ev.pos (by omega) (Ev.pos (by omega) (Ev.pos (by omega) ?_))))
    rw [e1.out, Int.toNat_natCast]
    refine ih (i + 1) (by omega) _ (by rw [List.length_set, hg]) (fun q hq' => ?_)
    simp only [List.getD_eq_getElem?_getD, List.getElem?_set]
    by_cases e : i = q
    · subst e
      rw [if_pos rfl, if_pos (by omega)]
      rfl
    · rw [if_neg e, ← List.getD_eq_getElem?_getD]
      exact hq q (by omega)

theorem gr_congr {g : List (List Bool)} {P P' : Nat → Nat → Prop} (h : Gr a b g P) (e : ∀ r k, P r k ↔ P' r k) : Gr a b g P' := ⟨h.1, h.2.1, fun r k hr hk => (h.2.2 r k hr hk).trans (e r k)⟩
theorem blocks_l2 (ha : 1 ≤ a) (ha' : a ≤ 20) (hb : 1 ≤ b) (hb' : b ≤ 40) (q : Nat) (R F T : Nat) (hR : (R : Int) < a) (hT : (T : Int) ≤ b) (P : Nat → Nat → Prop) (r : Int)
    (nx : ∀ g, Gr a b g (fun r' k' => P r' k' ∨ (r' = R ∧ F ≤ k' ∧ k' < T)) → Ev (fun k => legal_Check.l1 k ar st g bl (bl.length : Int) (wrap64 ((q : Int) + 1)) a b c bl wl pl) r) :
    ∀ (d x : Nat), x + d = T → F ≤ x → ∀ g, Gr a b g (fun r' k' => P r' k' ∨ (r' = R ∧ F ≤ k' ∧ k' < x)) → Ev (fun k => legal_Check.l2 k ar st g (x : Int) bl (bl.length : Int) (q : Int) a b c bl wl pl (R : Int) (F : Int) (T : Int)) r := by
  intro d
  induction d with
  | zero =>
    intro x hx hF g hg
    obtain rfl : x = T := by omega
    refine Ev.step (fun k => by rw [legal_Check.l2]) ?_
    exact Ev.neg (by omega) (nx g hg)
  | succ d ih =>
    intro x hx hF g hg
    have hlen := hg.2.1 R (by omega)
    have hl := hg.1
    have e0 : rd_L7 g (R : Int) = g.getD R [] := rfl
    refine Ev.step (fun k => by rw [legal_Check.l2]) ?_
    have e1 : Aside0 (wrap64 ((x : Int) + 1) = ((x + 1 : Nat) : Int)) := ⟨ws (i := x) (n := T) (by omega) (by omega)⟩
    refine Ev.pos (by omega) (Ev.pos (by omega) (Ev.pos (by omega) (Ev.pos (by omega) (Ev.pos (by rw [e0, hlen]; omega) ?_))))
    rw [e1.out, e0, Int.toNat_natCast, Int.toNat_natCast]
    refine ih (x + 1) (by omega) (by omega) _ (gr_congr a b (gr_set a b hg R x (by omega) (by omega)) (fun r' k' => ?_))
    constructor
    · rintro ((h | ⟨h1, h2, h3⟩) | ⟨h1, h2⟩)
      · exact .inl h
      · exact .inr ⟨h1, h2, by omega⟩
      · exact .inr ⟨h1, by omega, by omega⟩
    · rintro (h | ⟨h1, h2, h3⟩)
      · exact .inl (.inl h)
      · by_cases e : k' = x
        · exact .inr ⟨h1, e⟩
        · exact .inl (.inr ⟨h1, h2, by omega⟩)

theorem blk_succ (q : Nat) (hq : q < bl.length) (r k : Nat) : (blk bl (q + 1) r k ↔ blk bl q r k ∨ ((rd_T98 bl (q : Int)).f0 = (r : Int) ∧ (rd_T98 bl (q : Int)).f1 ≤ (k : Int) ∧ (k : Int) < (rd_T98 bl (q : Int)).f2)) := by
  constructor
  · rintro ⟨j, h1, h2, h3⟩
    by_cases e : j = q
    · subst e; exact .inr h3
    · exact .inl ⟨j, by omega, h2, h3⟩
  · rintro (⟨j, h1, h2, h3⟩ | h)
    · exact ⟨j, by omega, h2, h3⟩
    · exact ⟨q, by omega, hq, h⟩
theorem blocks_l1 (ha : 1 ≤ a) (ha' : a ≤ 20) (hb : 1 ≤ b) (hb' : b ≤ 40) (hn : bl.length ≤ 32) (hok : ∀ x ∈ bl, okB a b x) (r : Int)
    (nx : ∀ g, Gr a b g (blk bl bl.length) → Ev (fun k => legal_Check.l3 k ar g st (st.length : Int) 0 a b c bl wl pl) r) :
    ∀ (d q : Nat), q + d = bl.length → ∀ g, Gr a b g (blk bl q) → Ev (fun k => legal_Check.l1 k ar st g bl (bl.length : Int) (q : Int) a b c bl wl pl) r := by
  intro d
  induction d with
  | zero =>
    intro q hq g hg
    obtain rfl : q = bl.length := by omega
    refine Ev.step (fun k => by rw [legal_Check.l1]) ?_
    exact Ev.neg (by omega) (nx g hg)
  | succ d ih =>
    intro q hq g hg
    have hm : rd_T98 bl (q : Int) ∈ bl := by
      unfold rd_T98
      rw [Int.toNat_natCast, List.getD_eq_getElem?_getD, List.getElem?_eq_getElem (by omega)]
      exact List.getElem_mem (by omega)
    obtain ⟨o1, o2, o3, o4, o5⟩ := hok _ hm
    have e1 : Aside0 (wrap64 ((q : Int) + 1) = ((q + 1 : Nat) : Int)) := ⟨ws (i := q) (n := bl.length) (by omega) (by omega)⟩
    refine Ev.step (fun k => by rw [legal_Check.l1]) ?_
    refine Ev.pos (by omega) (Ev.pos (by omega) (Ev.pos (by omega) ?_))
    have key := blocks_l2 a b c bl wl pl ar st ha ha' hb hb' q (rd_T98 bl (q : Int)).f0.toNat (rd_T98 bl (q : Int)).f1.toNat (rd_T98 bl (q : Int)).f2.toNat (by omega) (by omega) (blk bl q) r (fun g' hg' => by
      rw [e1.out]
      refine ih (q + 1) (by omega) g' (gr_congr a b hg' (fun r' k' => ?_))
      rw [blk_succ bl q (by omega)]
      constructor
      · rintro (h | ⟨h1, h2, h3⟩)
        · exact .inl h
        · exact .inr ⟨by omega, by omega, by omega⟩
      · rintro (h | ⟨h1, h2, h3⟩)
        · exact .inl h
        · exact .inr ⟨by omega, by omega, by omega⟩) ((rd_T98 bl (q : Int)).f2.toNat - (rd_T98 bl (q : Int)).f1.toNat) (rd_T98 bl (q : Int)).f1.toNat (by omega) (Nat.le_refl _) g (gr_congr a b hg (fun r' k' => ⟨.inl, fun h => h.elim id (fun h => by omega)⟩))
    rw [show (((rd_T98 bl (q : Int)).f0.toNat : Nat) : Int) = (rd_T98 bl (q : Int)).f0 by omega, show (((rd_T98 bl (q : Int)).f1.toNat : Nat) : Int) = (rd_T98 bl (q : Int)).f1 by omega, show (((rd_T98 bl (q : Int)).f2.toNat : Nat) : Int) = (rd_T98 bl (q : Int)).f2 by omega] at key
    exact key

section cell
variable (ha : 1 ≤ a) (ha' : a ≤ 20) (hb : 1 ≤ b) (hb' : b ≤ 40) (i : Nat) (hi : i < ar.length) (hi' : i < 9223372036854775807) (R A T : Nat) (hR : (R : Int) < a) (hT : (T : Int) ≤ b) (hw : (T : Int) = (A : Int) + rd ar (i : Int)) (P : Nat → Nat → Prop)
include ha ha' hb hb' hi hi' hR hT hw
theorem cell_no (r : Int) (hno : ∀ k, A ≤ k → k < T → ¬ P R k)
    (nx : ∀ g, Gr a b g (fun r' k' => P r' k' ∨ (r' = R ∧ A ≤ k' ∧ k' < T)) → Ev (fun k => legal_Check.l3 k ar g st (st.length : Int) (wrap64 ((i : Int) + 1)) a b c bl wl pl) r) :
    ∀ (d x : Nat), x + d = T → A ≤ x → ∀ g, Gr a b g (fun r' k' => P r' k' ∨ (r' = R ∧ A ≤ k' ∧ k' < x)) → Ev (fun k => legal_Check.l4 k ar g (i : Int) (x : Int) st (st.length : Int) (i : Int) a b c bl wl pl (R : Int) (A : Int)) r := by
  have eT : Aside0 (wrap64 ((A : Int) + rd ar (i : Int)) = (T : Int)) := ⟨by rw [w64 (by omega) (by omega)]; omega⟩
  intro d
  induction d with
  | zero =>
    intro x hx hA g hg
    obtain rfl : x = T := by omega
    refine Ev.step (fun k => by rw [legal_Check.l4]) ?_
    rw [eT.out]
    exact Ev.pos (by omega) (Ev.pos (by omega) (Ev.neg (by omega) (nx g hg)))
  | succ d ih =>
    intro x hx hA g hg
    have hlen := hg.2.1 R (by omega)
    have hl := hg.1
    have e0 : rd_L7 g (R : Int) = g.getD R [] := rfl
    have e2 : ¬ rdOf false (g.getD R []) (x : Int) = true := by
      intro h
      have h' : (g.getD R []).getD x false = true := h
      rcases (hg.2.2 R x (by omega) (by omega)).1 h' with h | ⟨_, _, h⟩
      · exact hno x hA (by omega) h
      · omega
    refine Ev.step (fun k => by rw [legal_Check.l4]) ?_
    have e1 : Aside0 (wrap64 ((x : Int) + 1) = ((x + 1 : Nat) : Int)) := ⟨ws (i := x) (n := T) (by omega) (by omega)⟩
    rw [eT.out, e0, e1.out, Int.toNat_natCast, Int.toNat_natCast]
    refine Ev.pos (by omega) (Ev.pos (by omega) (Ev.pos (by omega) (Ev.pos (by omega) (Ev.pos (by omega) (Ev.pos (by omega) (Ev.pos (by rw [hlen]; omega) (Ev.neg e2 ?_)))))))
    refine ih (x + 1) (by omega) (by omega) _ (gr_congr a b (gr_set a b hg R x (by omega) (by omega)) (fun r' k' => ?_))
    constructor
    · rintro ((h | ⟨h1, h2, h3⟩) | ⟨h1, h2⟩)
      · exact .inl h
      · exact .inr ⟨h1, h2, by omega⟩
      · exact .inr ⟨h1, by omega, by omega⟩
    · rintro (h | ⟨h1, h2, h3⟩)
      · exact .inl (.inl h)
      · by_cases e : k' = x
        · exact .inr ⟨h1, e⟩
        · exact .inl (.inr ⟨h1, h2, by omega⟩)
theorem cell_yes : ∀ (d x : Nat), x + d = T → A ≤ x → (∃ k, x ≤ k ∧ k < T ∧ P R k) → ∀ g, Gr a b g (fun r' k' => P r' k' ∨ (r' = R ∧ A ≤ k' ∧ k' < x)) → Ev (fun k => legal_Check.l4 k ar g (i : Int) (x : Int) st (st.length : Int) (i : Int) a b c bl wl pl (R : Int) (A : Int)) 15 := by
  have eT : Aside0 (wrap64 ((A : Int) + rd ar (i : Int)) = (T : Int)) := ⟨by rw [w64 (by omega) (by omega)]; omega⟩
  intro d
  induction d with
  | zero =>
    rintro x hx hA ⟨k, h1, h2, _⟩
    omega
  | succ d ih =>
    rintro x hx hA hk g hg
    have hlen := hg.2.1 R (by omega)
    have hl := hg.1
    have e0 : rd_L7 g (R : Int) = g.getD R [] := rfl
    refine Ev.step (fun k => by rw [legal_Check.l4]) ?_
    have e1 : Aside0 (wrap64 ((x : Int) + 1) = ((x + 1 : Nat) : Int)) := ⟨ws (i := x) (n := T) (by omega) (by omega)⟩
    rw [eT.out, e0, e1.out, Int.toNat_natCast, Int.toNat_natCast]
    refine Ev.pos (by omega) (Ev.pos (by omega) (Ev.pos (by omega) (Ev.pos (by omega) (Ev.pos (by omega) (Ev.pos (by omega) (Ev.pos (by rw [hlen]; omega) ?_))))))
    by_cases hx' : P R x
    · have h' : (g.getD R []).getD x false = true := (hg.2.2 R x (by omega) (by omega)).2 (.inl hx')
      exact Ev.pos h' (Ev.now _)
    · have e2 : ¬ rdOf false (g.getD R []) (x : Int) = true := by
        intro h
        have h' : (g.getD R []).getD x false = true := h
        rcases (hg.2.2 R x (by omega) (by omega)).1 h' with h | ⟨_, _, h⟩
        · exact hx' h
        · omega
      refine Ev.neg e2 ?_
      obtain ⟨k, k1, k2, k3⟩ := hk
      have : k ≠ x := fun e => hx' (e ▸ k3)
      refine ih (x + 1) (by omega) (by omega) ⟨k, by omega, k2, k3⟩ _ (gr_congr a b (gr_set a b hg R x (by omega) (by omega)) (fun r' k' => ?_))
      constructor
      · rintro ((h | ⟨h1, h2, h3⟩) | ⟨h1, h2⟩)
        · exact .inl h
        · exact .inr ⟨h1, h2, by omega⟩
        · exact .inr ⟨h1, by omega, by omega⟩
      · rintro (h | ⟨h1, h2, h3⟩)
        · exact .inl (.inl h)
        · by_cases e : k' = x
          · exact .inr ⟨h1, e⟩
          · exact .inl (.inr ⟨h1, h2, by omega⟩)
end cell

/-! the reference -/
abbrev rS (st : List Sit) (j : Nat) : Sit := rd_T47 st (j : Int)
def vd (j : Nat) : Prop := 1 ≤ rd ar (j : Int) ∧ rd ar (j : Int) ≤ 40 ∧ 0 ≤ (rS st j).f0 ∧ (rS st j).f0 < a ∧ 0 ≤ (rS st j).f1 ∧ (rS st j).f1 ≤ b - rd ar (j : Int)
def ov (i j : Nat) : Prop := (rS st i).f0 = (rS st j).f0 ∧ (rS st i).f1 < (rS st j).f1 + rd ar (j : Int) ∧ (rS st j).f1 < (rS st i).f1 + rd ar (i : Int)

theorem blocked_v (hbl : bl.length ≤ 9223372036854775807) (r x : Nat) : ∀ q, q ≤ bl.length → ∃ v, Ev (fun k => maskref4_blocked.l0 k (r : Int) (x : Int) bl (bl.length : Int) (q : Int)) v ∧ (v = true ↔ ∃ j, q ≤ j ∧ j < bl.length ∧ (rd_T98 bl (j : Int)).f0 = (r : Int) ∧ (rd_T98 bl (j : Int)).f1 ≤ (x : Int) ∧ (x : Int) < (rd_T98 bl (j : Int)).f2) := by
  refine down bl.length ?_ ?_
  · refine ⟨false, Ev.step (fun k => by rw [maskref4_blocked.l0]) (Ev.neg (by omega) (Ev.now _)), ?_⟩
    constructor
    · intro h; cases h
    · rintro ⟨j, h1, h2, _⟩; omega
  · intro q hq ih
    obtain ⟨v, hv, hv'⟩ := ih
    have e1 : Aside0 (wrap64 ((q : Int) + 1) = ((q + 1 : Nat) : Int)) := ⟨ws hq hbl⟩
    have next : ¬ ((rd_T98 bl (q : Int)).f0 = (r : Int) ∧ (rd_T98 bl (q : Int)).f1 ≤ (x : Int) ∧ (x : Int) < (rd_T98 bl (q : Int)).f2) → (v = true ↔ ∃ j, q ≤ j ∧ j < bl.length ∧ (rd_T98 bl (j : Int)).f0 = (r : Int) ∧ (rd_T98 bl (j : Int)).f1 ≤ (x : Int) ∧ (x : Int) < (rd_T98 bl (j : Int)).f2) := by
      intro hn
      rw [hv']
      constructor
      · rintro ⟨j, h1, h2⟩; exact ⟨j, by omega, h2⟩
      · rintro ⟨j, h1, h2, h3⟩
        refine ⟨j, ?_, h2, h3⟩
        by_cases e : j = q
        · subst e; exact absurd h3 hn
        · omega
    by_cases h1 : (rd_T98 bl (q : Int)).f0 = (r : Int)
    · by_cases h2 : (rd_T98 bl (q : Int)).f1 ≤ (x : Int)
      · by_cases h3 : (x : Int) < (rd_T98 bl (q : Int)).f2
        · exact ⟨true, Ev.step (fun k => by rw [maskref4_blocked.l0]) (Ev.pos (by omega) (Ev.pos (by omega) (Ev.pos (by omega) (Ev.pos h1 (Ev.pos h2 (Ev.pos h3 (Ev.now _))))))), fun _ => ⟨q, Nat.le_refl _, hq, h1, h2, h3⟩, fun _ => rfl⟩
        · refine ⟨v, Ev.step (fun k => by rw [maskref4_blocked.l0]) (Ev.pos (by omega) (Ev.pos (by omega) (Ev.pos (by omega) (Ev.pos h1 (Ev.pos h2 (Ev.neg h3 ?_)))))), next (fun h => h3 h.2.2)⟩
          rw [e1.out]; exact hv
      · refine ⟨v, Ev.step (fun k => by rw [maskref4_blocked.l0]) (Ev.pos (by omega) (Ev.pos (by omega) (Ev.pos (by omega) (Ev.pos h1 (Ev.neg h2 ?_))))), next (fun h => h2 h.2.1)⟩
        rw [e1.out]; exact hv
    · refine ⟨v, Ev.step (fun k => by rw [maskref4_blocked.l0]) (Ev.pos (by omega) (Ev.pos (by omega) (Ev.pos (by omega) (Ev.neg h1 ?_)))), next (fun h => h1 h.1)⟩
      rw [e1.out]; exact hv

section fault
variable (hbl : bl.length ≤ 9223372036854775807) (ha : 1 ≤ a) (ha' : a ≤ 20) (hb : 1 ≤ b) (hb' : b ≤ 40) (hst : st.length ≤ 364) (har : st.length = ar.length) (i : Nat) (hi : i < st.length) (hv : ∀ j, j ≤ i → vd a b ar st j)
include hbl ha ha' hb hb' hst har hi hv
omit hbl ha ha' in
theorem fault_l2 (r : Int) (h1 : (∃ j, j < i ∧ ov ar st i j) → r = 15) (h2 : (¬ ∃ j, j < i ∧ ov ar st i j) → Ev (fun k => maskref4_SitesFault.l0 k ar st st (st.length : Int) (wrap64 ((i : Int) + 1)) a b c bl wl pl) r) :
    ∀ q, q ≤ i → (∀ j, j < q → ¬ ov ar st i j) → Ev (fun k => maskref4_SitesFault.l2 k ar st (i : Int) st (st.length : Int) (i : Int) (st.take i) ((st.take i).length : Int) (q : Int) a b c bl wl pl (rS st i).f0 (rS st i).f1) r := by
  have hl : (st.take i).length = i := by rw [List.length_take]; omega
  have vi := hv i (Nat.le_refl _)
  refine down i ?_ ?_
  · intro hno
    refine Ev.step (fun k => by rw [maskref4_SitesFault.l2]) ?_
    rw [hl]
    exact Ev.neg (by omega) (h2 (fun ⟨j, h3, h4⟩ => hno j h3 h4))
  · intro q hq ih hno
    have vq := hv q (by omega)
    have e1 : Aside0 (wrap64 ((q : Int) + 1) = ((q + 1 : Nat) : Int)) := ⟨ws (i := q) (n := i) hq (by omega)⟩
    have e0 : rd_T47 (st.take i) (q : Int) = rS st q := by
      unfold rS rd_T47
      rw [Int.toNat_natCast, List.getD_eq_getElem?_getD, List.getD_eq_getElem?_getD, List.getElem?_take_of_lt hq]
    unfold vd at vq vi
    have e2 : Aside0 (wrap64 ((rS st q).f1 + rd ar (q : Int)) = (rS st q).f1 + rd ar (q : Int)) := ⟨w64 (by omega) (by omega)⟩
    have e3 : Aside0 (wrap64 ((rS st i).f1 + rd ar (i : Int)) = (rS st i).f1 + rd ar (i : Int)) := ⟨w64 (by omega) (by omega)⟩
    rw [hl] at ih
    refine Ev.step (fun k => by rw [maskref4_SitesFault.l2]) ?_
    rw [hl, e0, e2.out, e3.out]
    have no : ¬ ov ar st i q → Ev (fun k => maskref4_SitesFault.j4 k ar st (i : Int) st (st.length : Int) (i : Int) (st.take i) (i : Int) (q : Int) false a b c bl wl pl (rS st i).f0 (rS st i).f1) r := by
      intro h
      refine Ev.step (fun k => by rw [maskref4_SitesFault.j4]) (Ev.neg (by simp) ?_)
      rw [e1.out]
      exact ih (fun j hj => if e : j = q then e ▸ h else hno j (by omega))
    refine Ev.pos (by omega) (Ev.pos (by omega) (Ev.pos (by omega) ?_))
    by_cases g1 : (rS st i).f0 = (rS st q).f0
    · refine Ev.pos g1 (Ev.pos (by omega) ?_)
      by_cases g2 : (rS st i).f1 < (rS st q).f1 + rd ar (q : Int)
      · refine Ev.pos g2 (Ev.pos (by omega) (Ev.pos (by omega) ?_))
        by_cases g3 : (rS st q).f1 < (rS st i).f1 + rd ar (i : Int)
        · rw [decide_eq_true g3]
          rw [h1 ⟨q, hq, g1, g2, g3⟩]
          exact Ev.step (fun k => by rw [maskref4_SitesFault.j4]) (Ev.pos rfl (Ev.now _))
        · rw [decide_eq_false g3]
          exact no (fun h => g3 h.2.2)
      · exact Ev.neg g2 (no (fun h => g2 h.2.1))
    · exact Ev.neg g1 (no (fun h => g1 h.1))
omit ha ha' in
theorem fault_l1 (R A T : Nat) (hR : (rS st i).f0 = (R : Int)) (hA : (rS st i).f1 = (A : Int)) (hT : (T : Int) = (A : Int) + rd ar (i : Int)) (r : Int) (h1 : (∃ k, A ≤ k ∧ k < T ∧ blk bl bl.length R k) → r = 15) (h2 : (∃ j, j < i ∧ ov ar st i j) → r = 15) (h3 : (¬ ∃ k, A ≤ k ∧ k < T ∧ blk bl bl.length R k) → (¬ ∃ j, j < i ∧ ov ar st i j) → Ev (fun k => maskref4_SitesFault.l0 k ar st st (st.length : Int) (wrap64 ((i : Int) + 1)) a b c bl wl pl) r) :
    ∀ x, x ≤ T → A ≤ x → (∀ k, A ≤ k → k < x → ¬ blk bl bl.length R k) → Ev (fun k => maskref4_SitesFault.l1 k ar st (i : Int) (x : Int) st (st.length : Int) (i : Int) a b c bl wl pl (rS st i).f0 (rS st i).f1) r := by
  have vi := hv i (Nat.le_refl _)
  have l2 := fault_l2 a b c bl wl pl ar st hb hb' hst har i hi hv r h2
  unfold vd at vi
  have e3 : Aside0 (wrap64 ((rS st i).f1 + rd ar (i : Int)) = (T : Int)) := ⟨by rw [w64 (by omega) (by omega)]; omega⟩
  refine down T ?_ ?_
  · intro hAT hno
    refine Ev.step (fun k => by rw [maskref4_SitesFault.l1]) ?_
    rw [e3.out]
    refine Ev.pos (by omega) (Ev.pos (by omega) (Ev.neg (by omega) (Ev.pos (by omega) ?_)))
    simp only [Option.bind_some, Int.toNat_natCast]
    exact l2 (fun hno' => h3 (fun ⟨k, h4, h5, h6⟩ => hno k h4 h5 h6) hno') 0 (by omega) (fun j hj => by omega)
  · intro x hx ih hAx hno
    have e1 : Aside0 (wrap64 ((x : Int) + 1) = ((x + 1 : Nat) : Int)) := ⟨ws (i := x) (n := T) hx (by omega)⟩
    refine Ev.step (fun k => by rw [maskref4_SitesFault.l1]) ?_
    rw [e3.out, hR]
    obtain ⟨v, v1, v2⟩ := blocked_v bl hbl R x 0 (by omega)
    refine Ev.pos (by omega) (Ev.pos (by omega) (Ev.pos (by omega) (Ev.bind (f := fun k t => if t = true then some 15 else _) (a := v) ?_ ?_)))
    · exact v1
    · by_cases hb0 : v = true
      · obtain ⟨j, j1, j2, j3⟩ := v2.1 hb0
        rw [h1 ⟨x, hAx, hx, j, j2, j2, j3⟩]
        exact Ev.pos hb0 (Ev.now _)
      · refine Ev.neg hb0 ?_
        rw [e1.out, ← hR]
        refine ih (by omega) (fun k h4 h5 => ?_)
        by_cases e : k = x
        · subst e
          rintro ⟨j, j1, j2, j3⟩
          exact hb0 (v2.2 ⟨j, Nat.zero_le _, j2, j3⟩)
        · exact hno k h4 (by omega)
end fault

theorem cov_succ (i : Nat) (R A T : Nat) (hR : (rS st i).f0 = (R : Int)) (hA : (rS st i).f1 = (A : Int)) (hT : (T : Int) = (A : Int) + rd ar (i : Int)) (r k : Nat) : cov ar st (i + 1) r k ↔ cov ar st i r k ∨ (r = R ∧ A ≤ k ∧ k < T) := by
  constructor
  · rintro ⟨j, h1, h2, h3, h4⟩
    by_cases e : j = i
    · subst e
      unfold rS at hR hA
      exact .inr ⟨by omega, by omega, by omega⟩
    · exact .inl ⟨j, by omega, h2, h3, h4⟩
  · rintro (⟨j, h1, h2, h3, h4⟩ | ⟨h1, h2, h3⟩)
    · exact ⟨j, by omega, h2, h3, h4⟩
    · unfold rS at hR hA
      exact ⟨i, by omega, by omega, by omega, by omega⟩

theorem cells_same (hbl : bl.length ≤ 9223372036854775807) (ha : 1 ≤ a) (ha' : a ≤ 20) (hb : 1 ≤ b) (hb' : b ≤ 40) (hst : st.length ≤ 364) (har : st.length = ar.length) :
    ∀ i, i ≤ st.length → (∀ j, j < i → vd a b ar st j) → ∃ r, (∀ g, Gr a b g (fun r' k' => blk bl bl.length r' k' ∨ cov ar st i r' k') → Ev (fun k => legal_Check.l3 k ar g st (st.length : Int) (i : Int) a b c bl wl pl) r) ∧ Ev (fun k => maskref4_SitesFault.l0 k ar st st (st.length : Int) (i : Int) a b c bl wl pl) r := by
  refine down st.length ?_ ?_
  · intro _
    exact ⟨0, fun g _ => Ev.step (fun k => by rw [legal_Check.l3]) (Ev.neg (by omega) (Ev.now _)), Ev.step (fun k => by rw [maskref4_SitesFault.l0]) (Ev.neg (by omega) (Ev.now _))⟩
  · intro i hi ih hv
    have e1 : Aside0 (wrap64 ((i : Int) + 1) = ((i + 1 : Nat) : Int)) := ⟨ws (i := i) (n := st.length) hi (by omega)⟩
    have ea : Aside0 (wrap64 (a - 1) = a - 1) := ⟨w64 (by omega) (by omega)⟩
    have jt : ∀ g, Ev (fun k => legal_Check.j4 k ar g (i : Int) st (st.length : Int) (i : Int) true a b c bl wl pl (rS st i).f0 (rS st i).f1) 2 := fun g => Ev.step (fun k => by rw [legal_Check.j4]) (Ev.pos rfl (Ev.now _))
    have jf : Ev (fun k => maskref4_SitesFault.j1 k ar st (i : Int) st (st.length : Int) (i : Int) true a b c bl wl pl (rS st i).f0 (rS st i).f1) 2 := Ev.step (fun k => by rw [maskref4_SitesFault.j1]) (Ev.pos rfl (Ev.now _))
    by_cases hvd : vd a b ar st i
    · have hv' : ∀ j, j ≤ i → vd a b ar st j := fun j hj => if e : j = i then e ▸ hvd else hv j (by omega)
      obtain ⟨v1, v2, v3, v4, v5, v6⟩ := hvd
      have ew : Aside0 (wrap64 (b - rd ar (i : Int)) = b - rd ar (i : Int)) := ⟨w64 (by omega) (by omega)⟩
      obtain ⟨R, hR⟩ : ∃ R : Nat, (rS st i).f0 = (R : Int) := ⟨(rS st i).f0.toNat, by omega⟩
      obtain ⟨A, hA⟩ : ∃ A : Nat, (rS st i).f1 = (A : Int) := ⟨(rS st i).f1.toNat, by omega⟩
      obtain ⟨T, hT⟩ : ∃ T : Nat, (T : Int) = (A : Int) + rd ar (i : Int) := ⟨((A : Int) + rd ar (i : Int)).toNat, by omega⟩
      have chk : ∀ g r, Ev (fun k => legal_Check.l4 k ar g (i : Int) (A : Int) st (st.length : Int) (i : Int) a b c bl wl pl (R : Int) (A : Int)) r → Ev (fun k => legal_Check.l3 k ar g st (st.length : Int) (i : Int) a b c bl wl pl) r := by
        intro g r h
        refine Ev.step (fun k => by rw [legal_Check.l3]) ?_
        refine Ev.pos (by omega) (Ev.pos (by omega) (Ev.pos (by omega) (Ev.pos (by omega) (Ev.neg (by omega) (Ev.neg (by omega) (Ev.neg (by show ¬ (rS st i).f0 < 0; omega) (Ev.neg (by show ¬ (rS st i).f0 ≥ a; omega) (Ev.neg (by show ¬ (rS st i).f1 < 0; omega) ?_))))))))
        rw [ew.out]
        rw [decide_eq_false (p := (rd_T47 st (i : Int)).f1 > b - rd ar (i : Int)) (by show ¬ (rS st i).f1 > _; omega)]
        refine Ev.step (fun k => by rw [legal_Check.j4]) (Ev.neg (by simp) ?_)
        show Ev (fun k => legal_Check.l4 k ar g (i : Int) (rS st i).f1 st (st.length : Int) (i : Int) a b c bl wl pl (rS st i).f0 (rS st i).f1) r
        rw [hR, hA]
        exact h
      have flt : ∀ r, Ev (fun k => maskref4_SitesFault.l1 k ar st (i : Int) (A : Int) st (st.length : Int) (i : Int) a b c bl wl pl (rS st i).f0 (rS st i).f1) r → Ev (fun k => maskref4_SitesFault.l0 k ar st st (st.length : Int) (i : Int) a b c bl wl pl) r := by
        intro r h
        refine Ev.step (fun k => by rw [maskref4_SitesFault.l0]) ?_
        refine Ev.pos (by omega) (Ev.pos (by omega) (Ev.pos (by omega) (Ev.pos (by omega) ?_)))
        rw [in_eq]
        simp only [Option.bind_some]
        refine Ev.pos (by simp; omega) ?_
        rw [in_eq, ea.out]
        simp only [Option.bind_some]
        refine Ev.pos (by show decide (0 ≤ (rS st i).f0 ∧ (rS st i).f0 ≤ a - 1) = true; simp; omega) (Ev.neg (by show ¬ (rS st i).f1 < 0; omega) ?_)
        rw [ew.out]
        rw [decide_eq_false (p := (rd_T47 st (i : Int)).f1 > b - rd ar (i : Int)) (by show ¬ (rS st i).f1 > _; omega)]
        refine Ev.step (fun k => by rw [maskref4_SitesFault.j1]) (Ev.neg (by simp) ?_)
        show Ev (fun k => maskref4_SitesFault.l1 k ar st (i : Int) (rS st i).f1 st (st.length : Int) (i : Int) a b c bl wl pl (rS st i).f0 (rS st i).f1) r
        rw [show Ev (fun k => maskref4_SitesFault.l1 k ar st (i : Int) (rS st i).f1 st (st.length : Int) (i : Int) a b c bl wl pl (rS st i).f0 (rS st i).f1) r = Ev (fun k => maskref4_SitesFault.l1 k ar st (i : Int) (A : Int) st (st.length : Int) (i : Int) a b c bl wl pl (rS st i).f0 (rS st i).f1) r from by rw [hA]]
        exact h
      -- an overlap is a site that is covered
      have covs : (∃ k, A ≤ k ∧ k < T ∧ cov ar st i R k) ↔ ∃ j, j < i ∧ ov ar st i j := by
        constructor
        · rintro ⟨k, k1, k2, j, j1, j2, j3, j4⟩
          refine ⟨j, j1, ?_⟩
          unfold ov rS
          unfold rS at hR hA
          refine ⟨by omega, by omega, by omega⟩
        · rintro ⟨j, j1, o1, o2, o3⟩
          obtain ⟨u1, u2, u3, u4, u5, u6⟩ := hv j j1
          unfold rS at hR hA o1 o2 o3 u3 u4 u5 u6
          by_cases hle : (rd_T47 st (j : Int)).f1 ≤ (A : Int)
          · exact ⟨A, Nat.le_refl _, by omega, j, j1, by omega, by omega, by omega⟩
          · exact ⟨(rd_T47 st (j : Int)).f1.toNat, by omega, by omega, j, j1, by omega, by omega, by omega⟩
      by_cases hex : ∃ k, A ≤ k ∧ k < T ∧ (blk bl bl.length R k ∨ cov ar st i R k)
      · refine ⟨15, fun g hg => chk g 15 ?_, flt 15 ?_⟩
        · obtain ⟨k, k1, k2, k3⟩ := hex
          exact cell_yes a b c bl wl pl ar st ha ha' hb hb' i (by omega) (by omega) R A T (by omega) (by omega) hT (fun r' k' => blk bl bl.length r' k' ∨ cov ar st i r' k') (T - A) A (by omega) (Nat.le_refl _) ⟨k, k1, k2, k3⟩ g (gr_congr a b hg (fun r' k' => ⟨.inl, fun h => h.elim id (fun h => by omega)⟩))
        · refine fault_l1 a b c bl wl pl ar st hbl hb hb' hst har i hi hv' R A T hR hA hT 15 (fun _ => rfl) (fun _ => rfl) (fun n1 n2 => ?_) A (by omega) (Nat.le_refl _) (fun k h1 h2 => by omega)
          obtain ⟨k, k1, k2, k3 | k3⟩ := hex
          · exact absurd ⟨k, k1, k2, k3⟩ n1
          · exact absurd (covs.1 ⟨k, k1, k2, k3⟩) n2
      · obtain ⟨r, r1, r2⟩ := ih (fun j hj => hv' j (by omega))
        refine ⟨r, fun g hg => chk g r ?_, flt r ?_⟩
        · refine cell_no a b c bl wl pl ar st ha ha' hb hb' i (by omega) (by omega) R A T (by omega) (by omega) hT (fun r' k' => blk bl bl.length r' k' ∨ cov ar st i r' k') r (fun k h1 h2 h3 => hex ⟨k, h1, h2, h3⟩) (fun g' hg' => ?_) (T - A) A (by omega) (Nat.le_refl _) g (gr_congr a b hg (fun r' k' => ⟨.inl, fun h => h.elim id (fun h => by omega)⟩))
          rw [e1.out]
          refine r1 g' (gr_congr a b hg' (fun r' k' => ?_))
          rw [cov_succ ar st i R A T hR hA hT r' k', or_assoc]
        · refine fault_l1 a b c bl wl pl ar st hbl hb hb' hst har i hi hv' R A T hR hA hT r (fun ⟨k, k1, k2, k3⟩ => absurd ⟨k, k1, k2, .inl k3⟩ hex) (fun h => ?_) (fun n1 n2 => ?_) A (by omega) (Nat.le_refl _) (fun k h1 h2 => by omega)
          · obtain ⟨k, k1, k2, k3⟩ := covs.2 h
            exact absurd ⟨k, k1, k2, .inr k3⟩ hex
          · rw [e1.out]; exact r2
    · refine ⟨2, fun g hg => ?_, ?_⟩
      · refine Ev.step (fun k => by rw [legal_Check.l3]) ?_
        refine Ev.pos (by omega) (Ev.pos (by omega) (Ev.pos (by omega) (Ev.pos (by omega) ?_)))
        by_cases g1 : rd ar (i : Int) < 1
        · exact Ev.pos g1 (jt g)
        · refine Ev.neg g1 ?_
          by_cases g2 : rd ar (i : Int) > 40
          · exact Ev.pos g2 (jt g)
          · refine Ev.neg g2 ?_
            by_cases g3 : (rS st i).f0 < 0
            · exact Ev.pos g3 (jt g)
            · refine Ev.neg g3 ?_
              by_cases g4 : (rS st i).f0 ≥ a
              · exact Ev.pos g4 (jt g)
              · refine Ev.neg g4 ?_
                by_cases g5 : (rS st i).f1 < 0
                · exact Ev.pos g5 (jt g)
                · refine Ev.neg g5 ?_
                  have ew : Aside0 (wrap64 (b - rd ar (i : Int)) = b - rd ar (i : Int)) := ⟨w64 (by omega) (by omega)⟩
                  rw [ew.out, decide_eq_true (p := (rd_T47 st (i : Int)).f1 > b - rd ar (i : Int)) (by
                    show (rS st i).f1 > b - rd ar (i : Int)
                    unfold vd at hvd
                    omega)]
                  exact jt g
      · refine Ev.step (fun k => by rw [maskref4_SitesFault.l0]) ?_
        refine Ev.pos (by omega) (Ev.pos (by omega) (Ev.pos (by omega) (Ev.pos (by omega) ?_)))
        rw [in_eq]
        simp only [Option.bind_some]
        by_cases g1 : 1 ≤ rd ar (i : Int) ∧ rd ar (i : Int) ≤ 40
        · refine Ev.pos (decide_eq_true g1) ?_
          rw [in_eq, ea.out]
          simp only [Option.bind_some]
          by_cases g3 : 0 ≤ (rS st i).f0 ∧ (rS st i).f0 ≤ a - 1
          · refine Ev.pos (decide_eq_true g3) ?_
            by_cases g5 : (rS st i).f1 < 0
            · exact Ev.pos g5 jf
            · refine Ev.neg g5 ?_
              have ew : Aside0 (wrap64 (b - rd ar (i : Int)) = b - rd ar (i : Int)) := ⟨w64 (by omega) (by omega)⟩
              rw [ew.out, decide_eq_true (p := (rd_T47 st (i : Int)).f1 > b - rd ar (i : Int)) (by
                show (rS st i).f1 > b - rd ar (i : Int)
                unfold vd at hvd
                omega)]
              exact jf
          · exact Ev.neg (by simpa using g3) jf
        · exact Ev.neg (by simpa using g1) jf

end
theorem rows_row : legal_Row.f 200 [2, 2] [2, 2] 0 10 = some ([1, 3], 0) := by decide +kernel
theorem rows_eq : slices_Equal_int_int.f 200 [1, 3] [1, 3] = some true := by decide +kernel
theorem rows_work : Ev (fun k => masklaw4_rows.f k) true := by
  refine Ev.of (fun k => masklaw4_rows.mono k) (k := 200) ?_
  unfold masklaw4_rows.f
  rw [rows_row]
  simp only [Option.bind_some]
  rw [show masklaw4_floors.f = some true from rfl]
  simp only [Option.bind_some, if_true]
  rw [rows_eq]
  rfl
theorem LegalChecks : SLegalChecks.Pure := by
  intro a b c bl wl pl ar st ga gb gc gbl gwl gpl gar gst
  have h1 : bl.length ≤ 9223372036854775807 := gbl.2.1
  have h2 : wl.length ≤ 9223372036854775807 := gwl.2.1
  have h3 : pl.length ≤ 9223372036854775807 := gpl.2.1
  obtain ⟨r0, f1, f2, hgood⟩ := floor_same a b c bl wl pl h1 h2 h3 (fun x hx => (gpl.2.2 x hx).1)
  have key : Both (fun k => legal_Check.f k a b c bl wl pl ar st) (fun k => maskref4_SitesFault.f k a b c bl wl pl ar st) := by
    unfold legal_Check.f maskref4_SitesFault.f
    refine Both.bindl f1 (Both.bindr f2 ?_)
    by_cases h0 : r0 = 0
    · refine Both.pos h0 ?_
      obtain ⟨q1, q2, q3, q4, q5, q6, q7, q8, q9, q10⟩ := hgood h0
      by_cases g1 : (ar.length : Int) > 364
      · exact Both.pos g1 (Both.now _)
      · refine Both.neg g1 ?_
        by_cases g2 : (st.length : Int) = (ar.length : Int)
        · refine Both.pos g2 (Both.posl (by omega) (Both.posl (by omega) ?_))
          simp only [Option.bind_some]
          obtain ⟨r, c1, c2⟩ := cells_same a b c bl wl pl ar st h1 q1 q2 q3 q4 (by omega) (by omega) 0 (by omega) (fun j hj => by omega)
          refine ⟨r, ?_, c2, trivial⟩
          have := rows_l0 a b c bl wl pl ar st q1 q2 q3 q4 r (fun g hg => ?_) a.toNat 0 (by omega) (List.replicate a.toNat []) (by simp) (fun q hq => by omega)
          · rw [List.length_replicate]
            exact this
          · refine blocks_l1 a b c bl wl pl ar st q1 q2 q3 q4 q7 q10 r (fun g' hg' => ?_) bl.length 0 (by omega) g hg
            refine c1 g' (gr_congr a b hg' (fun r' k' => ⟨.inl, fun h => h.elim id (fun ⟨j, hj, _⟩ => by omega)⟩))
        · exact Both.neg g2 (Both.now _)
    · exact Both.neg h0 (Both.now _)
  obtain ⟨r, e1, e2, _⟩ := key
  refine Ev.rounds (g := fun k => masklaw4_LegalChecks.f k a b c bl wl pl ar st) ?_
  unfold masklaw4_LegalChecks.f
  refine Ev.bind rows_work (Ev.pos rfl (Ev.bind e1 (Ev.bind e2 ?_)))
  simp only [beq_self_eq_true]
  exact Ev.now _

end Go.Proofs.Ytgajgnemfccnhaa.Pure
