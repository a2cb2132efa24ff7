/- What the check of a floor answers, by the program and by the reference: the same, and what a valid floor is. No conditions. -/
import Derived.Test.YtgajgnemfccnhaaStmLegalChecks
import Derived.Test.YtgajgnemfccnhaaAid
set_option linter.unusedVariables false
namespace Go.Proofs.Ytgajgnemfccnhaa.LLegalChecks
open Go.RowKit Go.Proofs.YtgajgnemfccnhaaW.PrintWords Go.Proofs.Ytgajgnemfccnhaa.Opn Go.Proofs.Ytgajgnemfccnhaa.PL Go.Proofs.Ytgajgnemfccnhaa.SLegalChecks Go.Proofs.Ytgajgnemfccnhaa.Aid

abbrev Blk := S98
abbrev Wal := S100
abbrev Prt := S96

theorem within_eq (n a b : Int) : floor_within.f n a b = some (decide (a ≤ n ∧ n ≤ b)) := by
  unfold floor_within.f
  by_cases h : a ≤ n
  · rw [if_pos h]
    simp [h]
  · rw [if_neg h]
    simp [h]
theorem in_eq (n a b : Int) : maskref4_In.f n a b = some (decide (a ≤ n ∧ n ≤ b)) := within_eq n a b
theorem boxed_eq (x0 y0 x1 y1 w h : Int) : maskref4_boxed.f x0 y0 x1 y1 w h = some (decide (0 ≤ x0 ∧ x0 ≤ x1 ∧ x1 < w ∧ 0 ≤ y0 ∧ y0 ≤ y1 ∧ y1 < h)) := by
  unfold maskref4_boxed.f
  by_cases h1 : x0 ≥ 0
  · rw [if_pos h1]
    by_cases h2 : x0 ≤ x1
    · rw [if_pos h2]
      by_cases h3 : x1 < w
      · rw [if_pos h3]
        by_cases h4 : y0 ≥ 0
        · rw [if_pos h4]
          by_cases h5 : y0 ≤ y1
          · rw [if_pos h5]
            have h1' : 0 ≤ x0 := h1
            have h4' : 0 ≤ y0 := h4
            simp [h1', h2, h3, h4', h5]
          · rw [if_neg h5]
            simp [h5]
        · rw [if_neg h4]
          have h4' : ¬ 0 ≤ y0 := h4
          simp [h4']
      · rw [if_neg h3]
        simp [h3]
    · rw [if_neg h2]
      simp [h2]
  · rw [if_neg h1]
    have h1' : ¬ 0 ≤ x0 := h1
    simp [h1']

theorem names_same (s : ByteArray) (hs : GS s) : Both (fun k => floor_validName.f k s) (fun k => maskref4_Printed.f k s) := by
  have hs' : s.size ≤ 9223372036854775807 := by unfold GS at hs; omega
  unfold floor_validName.f maskref4_Printed.f
  have key := down (P := fun i => Both (fun k => floor_validName.l0 k s (s.size : Int) (i : Int)) (fun k => maskref4_Printed.l0 k s (i : Int))) s.size ?_ ?_ 0 (by omega)
  · exact key
  · refine Both.step (fun k => by rw [floor_validName.l0]) (fun k => by rw [maskref4_Printed.l0]) ?_
    exact Both.neg (by omega) (Both.now _)
  · intro i hi ih
    refine Both.step (fun k => by rw [floor_validName.l0]) (fun k => by rw [maskref4_Printed.l0]) ?_
    refine Both.pos (by omega) (Both.pos (by omega) (Both.posl (by omega) ?_))
    rw [ws hi hs']
    by_cases h0 : bt s i < 33
    · exact Both.pos h0 (Both.now _)
    · refine Both.neg h0 ?_
      by_cases h1 : bt s i > 126
      · exact Both.pos h1 (Both.now _)
      · exact Both.neg h1 ih

/-- A port lies within the tracks of any floor. -/
def inR (p : Prt) : Prop := 0 ≤ p.f2 ∧ p.f2 ≤ 200 ∧ 0 ≤ p.f3 ∧ p.f3 ≤ 200

theorem near_iff (a b c d : Int) (ha : 0 ≤ a) (ha' : a ≤ 200) (hb : 0 ≤ b) (hb' : b ≤ 200) (hc : 0 ≤ c) (hc' : c ≤ 200) (hd : 0 ≤ d) (hd' : d ≤ 200) :
    (mx (mx (mx (wrap64 (a - c)) (wrap64 (c - a))) (wrap64 (b - d))) (wrap64 (d - b)) < 2) ↔ ((-1 ≤ a - c ∧ a - c ≤ 1) ∧ (-1 ≤ b - d ∧ b - d ≤ 1)) := by
  rw [w64 (x := a - c) (by omega) (by omega), w64 (x := c - a) (by omega) (by omega), w64 (x := b - d) (by omega) (by omega), w64 (x := d - b) (by omega) (by omega)]
  unfold mx
  constructor
  · intro h
    split at h <;> split at h <;> split at h <;> omega
  · intro h
    split <;> split <;> split <;> omega

theorem beside_eq (a c : Int) (ha : 0 ≤ a) (ha' : a ≤ 200) (hc : 0 ≤ c) (hc' : c ≤ 200) : maskref4_beside.f a c = some (decide (-1 ≤ a - c ∧ a - c ≤ 1)) := by
  unfold maskref4_beside.f
  rw [w64 (x := a - c) (by omega) (by omega), in_eq]
  rfl

section
variable (a b c : Int) (bl : List Blk) (wl : List Wal) (pl : List Prt)

theorem walls_same (hw : wl.length ≤ 9223372036854775807) (n : ByteArray) (o : Bool) (x y : Int) : Both (fun k => floor_checkPort.l1 k wl (wl.length : Int) 0 n o x y) (fun k => maskref4_portFault.l1 k wl (wl.length : Int) 0 n o x y) := by
  have key := down (P := fun i => Both (fun k => floor_checkPort.l1 k wl (wl.length : Int) (i : Int) n o x y) (fun k => maskref4_portFault.l1 k wl (wl.length : Int) (i : Int) n o x y)) wl.length ?_ ?_ 0 (by omega)
  · exact key
  · refine Both.step (fun k => by rw [floor_checkPort.l1]) (fun k => by rw [maskref4_portFault.l1]) ?_
    exact Both.neg (by omega) (Both.now _)
  · intro i hi ih
    refine Both.step (fun k => by rw [floor_checkPort.l1]) (fun k => by rw [maskref4_portFault.l1]) ?_
    refine Both.pos (by omega) (Both.pos (by omega) (Both.pos (by omega) ?_))
    rw [ws hi hw]
    simp only [in_eq, within_eq, Option.bind_some]
    by_cases h0 : (rd_T100 wl i).f0 = 0
    · refine Both.pos h0 ?_
      by_cases h1 : (decide ((rd_T100 wl i).f1 ≤ x ∧ x ≤ (rd_T100 wl i).f3)) = true
      · refine Both.pos h1 ?_
        by_cases h2 : (decide ((rd_T100 wl i).f2 ≤ y ∧ y ≤ (rd_T100 wl i).f4)) = true
        · exact Both.pos h2 (Both.now _)
        · exact Both.neg h2 ih
      · exact Both.neg h1 ih
    · exact Both.neg h0 ih

theorem rd_take (i j : Nat) (h : j < i) : rd_T96 (pl.take i) (j : Int) = rd_T96 pl (j : Int) := by
  unfold rd_T96
  simp only [Int.toNat_natCast, List.getD_eq_getElem?_getD]
  rw [List.getElem?_take_of_lt h]

theorem ports_same (hw : wl.length ≤ 9223372036854775807) (hp : pl.length ≤ 9223372036854775807) (i : Nat) (hi : i ≤ pl.length) (n : ByteArray) (o : Bool) (x y : Int) (hx : 0 ≤ x) (hx' : x ≤ 200) (hy : 0 ≤ y) (hy' : y ≤ 200) (hb : ∀ j : Nat, j < i → inR (rd_T96 pl j)) :
    Both (fun k => floor_checkPort.l0 k (pl.take i) ((pl.take i).length : Int) 0 a b c bl wl pl n o x y) (fun k => maskref4_portFault.l0 k (pl.take i) ((pl.take i).length : Int) 0 a b c bl wl pl n o x y) := by
  have hl : (pl.take i).length = i := by rw [List.length_take]; omega
  have key := down (P := fun j => Both (fun k => floor_checkPort.l0 k (pl.take i) ((pl.take i).length : Int) (j : Int) a b c bl wl pl n o x y) (fun k => maskref4_portFault.l0 k (pl.take i) ((pl.take i).length : Int) (j : Int) a b c bl wl pl n o x y)) (pl.take i).length ?_ ?_ 0 (by omega)
  · exact key
  · refine Both.step (fun k => by rw [floor_checkPort.l0]) (fun k => by rw [maskref4_portFault.l0]) ?_
    exact Both.neg (by omega) (walls_same wl hw n o x y)
  · intro j hj ih
    refine Both.step (fun k => by rw [floor_checkPort.l0]) (fun k => by rw [maskref4_portFault.l0]) ?_
    refine Both.pos (by omega) (Both.pos (by omega) (Both.pos (by omega) ?_))
    have hj' : j < i := by omega
    rw [rd_take pl i j hj']
    obtain ⟨q1, q2, q3, q4⟩ := hb j hj'
    have j3 : ∀ f : Bool, Both (fun k => floor_checkPort.j3 k (pl.take i) ((pl.take i).length : Int) (j : Int) f a b c bl wl pl n o x y (rd_T96 pl j).f0 (rd_T96 pl j).f1 (rd_T96 pl j).f2 (rd_T96 pl j).f3)
        (fun k => maskref4_portFault.j3 k (pl.take i) ((pl.take i).length : Int) (j : Int) f a b c bl wl pl n o x y (rd_T96 pl j).f0 (rd_T96 pl j).f1 (rd_T96 pl j).f2 (rd_T96 pl j).f3) := by
      intro f
      refine Both.step (fun k => by rw [floor_checkPort.j3]) (fun k => by rw [maskref4_portFault.j3]) ?_
      cases f with
      | true => exact Both.pos rfl (Both.now _)
      | false =>
        refine Both.neg (by simp) ?_
        rw [ws hj (by omega), beside_eq x _ hx hx' q1 q2, beside_eq y _ hy hy' q3 q4]
        simp only [Option.bind_some, decide_eq_true_eq]
        have e := near_iff x y _ _ hx hx' hy hy' q1 q2 q3 q4
        by_cases h0 : -1 ≤ x - (rd_T96 pl j).f2 ∧ x - (rd_T96 pl j).f2 ≤ 1
        · refine Both.posr h0 ?_
          by_cases h1 : -1 ≤ y - (rd_T96 pl j).f3 ∧ y - (rd_T96 pl j).f3 ≤ 1
          · exact Both.posr h1 (Both.posl (e.2 ⟨h0, h1⟩) (Both.now _))
          · exact Both.negr h1 (Both.negl (fun h => h1 (e.1 h).2) ih)
        · exact Both.negr h0 (Both.negl (fun h => h0 (e.1 h).1) ih)
    by_cases hn : (rd_T96 pl j).f0.toList = n.toList
    · refine Both.posl hn (Both.posr hn.symm ?_)
      rw [show (o == (rd_T96 pl j).f1) = ((rd_T96 pl j).f1 == o) from Bool.beq_comm]
      exact j3 _
    · exact Both.negl hn (Both.negr (fun h => hn h.symm) (j3 _))

theorem port_same (hw : wl.length ≤ 9223372036854775807) (hp : pl.length ≤ 9223372036854775807) (ha : 1 ≤ a) (ha' : a ≤ 20) (hb : 1 ≤ b) (hb' : b ≤ 40) (i : Nat) (hi : i < pl.length) (hn : GS (rd_T96 pl i).f0) (hbef : ∀ j : Nat, j < i → inR (rd_T96 pl j)) :
    Two (fun r => r = 0 → inR (rd_T96 pl i)) (fun k => floor_checkPort.f k a b c bl wl pl (i : Int)) (fun k => maskref4_portFault.f k a b c bl wl pl (pl.take i) (rd_T96 pl i).f0 (rd_T96 pl i).f1 (rd_T96 pl i).f2 (rd_T96 pl i).f3) := by
  generalize hq : rd_T96 pl i = p at *
  unfold floor_checkPort.f maskref4_portFault.f floor_Size.f maskref4_Tracks.f
  refine Both.posl (by omega) (Both.posl (by omega) ?_)
  rw [hq]
  simp only [Option.bind_some]
  rw [w64 (x := 4 * b) (by omega) (by omega), w64 (x := 4 * a) (by omega) (by omega), w64 (x := 4 * b + 8) (by omega) (by omega), w64 (x := 4 * a + 8) (by omega) (by omega)]
  refine Both.bind (names_same p.f0 hn) (fun t _ => ?_)
  cases t with
  | false => exact Both.neg (by simp) (Two.now _ (by omega))
  | true =>
    refine Both.pos rfl ?_
    have j0 : ∀ f : Bool, Two (fun r => r = 0 → inR p) (fun k => floor_checkPort.j0 k (i : Int) (4 * b + 8) (4 * a + 8) f a b c bl wl pl p.f0 p.f1 p.f2 p.f3) (fun k => maskref4_portFault.j0 k (pl.take i) (4 * b + 8) (4 * a + 8) f a b c bl wl pl p.f0 p.f1 p.f2 p.f3) := by
      intro f
      refine Both.step (fun k => by rw [floor_checkPort.j0]) (fun k => by rw [maskref4_portFault.j0]) ?_
      cases f with
      | true => exact Both.pos rfl (Two.now _ (by omega))
      | false =>
        refine Both.neg (by simp) ?_
        simp only [in_eq, within_eq, Option.bind_some, decide_eq_true_eq]
        rw [w64 (x := 4 * b + 8 - 1) (by omega) (by omega), w64 (x := 4 * a + 8 - 1) (by omega) (by omega)]
        have jt : Ev (fun k => maskref4_portFault.j1 k (pl.take i) true a b c bl wl pl p.f0 p.f1 p.f2 p.f3) 2 := Ev.step (fun k => by rw [maskref4_portFault.j1]) (Ev.pos rfl (Ev.now 2))
        by_cases hx : 0 ≤ p.f2 ∧ p.f2 ≤ 4 * b + 8 - 1
        · refine Both.pos hx ?_
          by_cases hy : 0 ≤ p.f3 ∧ p.f3 ≤ 4 * a + 8 - 1
          · refine Both.pos hy ?_
            have hin : inR p := ⟨hx.1, by omega, hy.1, by omega⟩
            have on : Two (fun r => r = 0 → inR p) (fun k => floor_checkPort.j1 k (i : Int) a b c bl wl pl p.f0 p.f1 p.f2 p.f3) (fun k => maskref4_portFault.j1 k (pl.take i) false a b c bl wl pl p.f0 p.f1 p.f2 p.f3) := by
              refine Both.step (fun k => by rw [floor_checkPort.j1]) (fun k => by rw [maskref4_portFault.j1]) ?_
              refine Both.posl (by omega) (Both.posl (by omega) (Both.negr (by simp) ?_))
              simp only [Option.bind_some, Int.toNat_natCast]
              exact (ports_same a b c bl wl pl hw hp i (by omega) p.f0 p.f1 p.f2 p.f3 hx.1 (by omega) hy.1 (by omega) hbef).imp (fun _ _ _ => hin)
            by_cases h1 : p.f2 = 0
            · exact Both.posr h1 (Both.negl (by omega) on)
            · refine Both.negr h1 (Both.posl (by omega) ?_)
              by_cases h2 : p.f2 = 4 * b + 8 - 1
              · exact Both.posr h2 (Both.negl (by omega) on)
              · refine Both.negr h2 (Both.posl (by omega) ?_)
                by_cases h3 : p.f3 = 0
                · exact Both.posr h3 (Both.negl (by omega) on)
                · refine Both.negr h3 (Both.posl (by omega) ?_)
                  by_cases h4 : p.f3 = 4 * a + 8 - 1
                  · rw [show (p.f3 != 4 * a + 8 - 1) = false by simp [h4]]
                    exact Both.negl (by omega) on
                  · rw [show (p.f3 != 4 * a + 8 - 1) = true by simp [h4]]
                    exact Both.posl (by omega) (Two.of (Ev.now 2) jt (by omega))
          · exact Both.neg hy (Two.of (Ev.now 2) jt (by omega))
        · exact Both.neg hx (Two.of (Ev.now 2) jt (by omega))
    by_cases he : p.f0.toList = ([] : List UInt8)
    · refine Both.posl he ?_
      cases ho : p.f1 with
      | true =>
        refine Both.posr rfl ?_
        rw [show (p.f0.toList == ([] : List UInt8)) = true by simp [he]]
        have := j0 true
        rw [ho] at this
        exact this
      | false =>
        refine Both.negr (by simp) ?_
        have := j0 false
        rw [ho] at this
        exact this
    · refine Both.negl he ?_
      cases ho : p.f1 with
      | true =>
        refine Both.posr rfl ?_
        rw [show (p.f0.toList == ([] : List UInt8)) = false by simp [he]]
        have := j0 false
        rw [ho] at this
        exact this
      | false =>
        refine Both.negr (by simp) ?_
        have := j0 false
        rw [ho] at this
        exact this

/-- What a valid floor is, as far as it is wanted. -/
def okB (x : Blk) : Prop := 0 ≤ x.f0 ∧ x.f0 < a ∧ 0 ≤ x.f1 ∧ x.f1 < x.f2 ∧ x.f2 ≤ b
def Good : Prop := 1 ≤ a ∧ a ≤ 20 ∧ 1 ≤ b ∧ b ≤ 40 ∧ 2 ≤ c ∧ c ≤ 6 ∧ bl.length ≤ 32 ∧ wl.length ≤ 32 ∧ pl.length ≤ 200 ∧ ∀ x ∈ bl, okB a b x

theorem floor_same (hbl : bl.length ≤ 9223372036854775807) (hw : wl.length ≤ 9223372036854775807) (hp : pl.length ≤ 9223372036854775807) (hn : ∀ x ∈ pl, GS x.f0) :
    Two (fun r => r = 0 → Good a b c bl wl pl) (fun k => floor_Check.f k a b c bl wl pl) (fun k => maskref4_FloorFault.f k a b c bl wl pl) := by
  unfold floor_Check.f maskref4_FloorFault.f
  simp only [in_eq, within_eq, Option.bind_some, decide_eq_true_eq]
  have j0t : Two (fun r => r = 0 → Good a b c bl wl pl) (fun k => floor_Check.j0 k true a b c bl wl pl) (fun k => maskref4_FloorFault.j0 k true a b c bl wl pl) :=
    Both.step (fun k => by rw [floor_Check.j0]) (fun k => by rw [maskref4_FloorFault.j0]) (Both.pos rfl (Two.now _ (by omega)))
  by_cases ha : 1 ≤ a ∧ a ≤ 20
  · refine Both.pos ha ?_
    by_cases hb : 1 ≤ b ∧ b ≤ 40
    · refine Both.pos hb ?_
      by_cases hc : 2 ≤ c ∧ c ≤ 6
      · rw [show (!decide (2 ≤ c ∧ c ≤ 6)) = false by simp [hc]]
        refine Both.step (fun k => by rw [floor_Check.j0]) (fun k => by rw [maskref4_FloorFault.j0]) (Both.neg (by simp) ?_)
        have j1t : Two (fun r => r = 0 → Good a b c bl wl pl) (fun k => floor_Check.j1 k true a b c bl wl pl) (fun k => maskref4_FloorFault.j1 k true a b c bl wl pl) :=
          Both.step (fun k => by rw [floor_Check.j1]) (fun k => by rw [maskref4_FloorFault.j1]) (Both.pos rfl (Two.now _ (by omega)))
        by_cases h1 : (bl.length : Int) > 32
        · exact Both.pos h1 j1t
        · refine Both.neg h1 ?_
          by_cases h2 : (wl.length : Int) > 32
          · exact Both.pos h2 j1t
          · refine Both.neg h2 ?_
            by_cases h3 : (pl.length : Int) > 200
            · rw [show decide ((pl.length : Int) > 200) = true by simpa using h3]
              exact j1t
            · rw [show decide ((pl.length : Int) > 200) = false by simpa using h3]
              refine Both.step (fun k => by rw [floor_Check.j1]) (fun k => by rw [maskref4_FloorFault.j1]) (Both.neg (by simp) ?_)
              -- the ports
              have k2 : ∀ i, i ≤ pl.length → (∀ j : Nat, j < i → inR (rd_T96 pl j)) → Both (fun k => floor_Check.l2 k (pl.length : Int) (i : Int) a b c bl wl pl) (fun k => maskref4_FloorFault.l2 k pl (pl.length : Int) (i : Int) a b c bl wl pl) := by
                refine down (P := fun i => (∀ j : Nat, j < i → inR (rd_T96 pl j)) → Both (fun k => floor_Check.l2 k (pl.length : Int) (i : Int) a b c bl wl pl) (fun k => maskref4_FloorFault.l2 k pl (pl.length : Int) (i : Int) a b c bl wl pl)) _ ?_ ?_
                · intro _
                  refine Both.step (fun k => by rw [floor_Check.l2]) (fun k => by rw [maskref4_FloorFault.l2]) ?_
                  exact Both.neg (by omega) (Both.now _)
                · intro i hi ih hbef
                  refine Both.step (fun k => by rw [floor_Check.l2]) (fun k => by rw [maskref4_FloorFault.l2]) ?_
                  refine Both.pos (by omega) (Both.posr (by omega) (Both.posr (by omega) (Both.posr (by omega) ?_)))
                  rw [ws hi hp]
                  have hmem : rd_T96 pl i ∈ pl := by unfold rd_T96; exact getD_mem (by simpa using hi) _
                  refine Both.bind (port_same a b c bl wl pl hw hp ha.1 ha.2 hb.1 hb.2 i hi (hn _ hmem) hbef) (fun t ht => ?_)
                  by_cases h0 : t = 0
                  · refine Both.pos h0 (ih (fun j hj => ?_))
                    by_cases hji : j = i
                    · subst hji
                      exact ht h0
                    · exact hbef j (by omega)
                  · exact Both.neg h0 (Both.now _)
              -- the walls
              have k1 : ∀ i, i ≤ wl.length → Both (fun k => floor_Check.l1 k (4 * b + 8) (4 * a + 8) wl (wl.length : Int) (i : Int) a b c bl wl pl) (fun k => maskref4_FloorFault.l1 k (4 * b + 8) (4 * a + 8) wl (wl.length : Int) (i : Int) a b c bl wl pl) := by
                refine down _ ?_ ?_
                · refine Both.step (fun k => by rw [floor_Check.l1]) (fun k => by rw [maskref4_FloorFault.l1]) ?_
                  exact Both.neg (by omega) (k2 0 (by omega) (fun j hj => absurd hj (by omega)))
                · intro i hi ih
                  refine Both.step (fun k => by rw [floor_Check.l1]) (fun k => by rw [maskref4_FloorFault.l1]) ?_
                  refine Both.pos (by omega) (Both.pos (by omega) (Both.pos (by omega) ?_))
                  rw [ws hi hw]
                  simp only [in_eq, within_eq, boxed_eq, Option.bind_some, decide_eq_true_eq]
                  rw [w64 (x := 4 * b + 8 - 1) (by omega) (by omega), w64 (x := 4 * a + 8 - 1) (by omega) (by omega)]
                  generalize rd_T100 wl i = x
                  by_cases e0 : 0 ≤ x.f0 ∧ x.f0 ≤ wrap64 (c - 1)
                  · refine Both.pos e0 ?_
                    by_cases e1 : 0 ≤ x.f1 ∧ x.f1 ≤ x.f3 ∧ x.f3 < 4 * b + 8 ∧ 0 ≤ x.f2 ∧ x.f2 ≤ x.f4 ∧ x.f4 < 4 * a + 8
                    · refine Both.posr e1 (Both.posl (by omega) (Both.posl (by omega) (Both.posl (by omega) (Both.posl (by omega) ih))))
                    · refine Both.negr e1 ?_
                      by_cases q1 : 0 ≤ x.f1 ∧ x.f1 ≤ 4 * b + 8 - 1
                      · refine Both.posl q1 ?_
                        by_cases q2 : 0 ≤ x.f2 ∧ x.f2 ≤ 4 * a + 8 - 1
                        · refine Both.posl q2 ?_
                          by_cases q3 : x.f1 ≤ x.f3 ∧ x.f3 ≤ 4 * b + 8 - 1
                          · refine Both.posl q3 ?_
                            exact Both.negl (by omega) (Both.now _)
                          · exact Both.negl q3 (Both.now _)
                        · exact Both.negl q2 (Both.now _)
                      · exact Both.negl q1 (Both.now _)
                  · exact Both.neg e0 (Both.now _)
              -- the blocks
              have k0 : ∀ i, i ≤ bl.length → Two (fun r => r = 0 → ∀ x ∈ bl.drop i, okB a b x) (fun k => floor_Check.l0 k bl (bl.length : Int) (i : Int) a b c bl wl pl) (fun k => maskref4_FloorFault.l0 k bl (bl.length : Int) (i : Int) a b c bl wl pl) := by
                refine down _ ?_ ?_
                · refine Both.step (fun k => by rw [floor_Check.l0]) (fun k => by rw [maskref4_FloorFault.l0]) ?_
                  refine Both.neg (by omega) ?_
                  unfold floor_Size.f maskref4_Tracks.f
                  simp only [Option.bind_some]
                  rw [w64 (x := 4 * b) (by omega) (by omega), w64 (x := 4 * a) (by omega) (by omega), w64 (x := 4 * b + 8) (by omega) (by omega), w64 (x := 4 * a + 8) (by omega) (by omega)]
                  exact (k1 0 (by omega)).imp (fun _ _ _ => by simp)
                · intro i hi ih
                  refine Both.step (fun k => by rw [floor_Check.l0]) (fun k => by rw [maskref4_FloorFault.l0]) ?_
                  refine Both.pos (by omega) (Both.pos (by omega) (Both.pos (by omega) ?_))
                  rw [ws hi hbl]
                  simp only [in_eq, within_eq, Option.bind_some, decide_eq_true_eq]
                  rw [w64 (x := a - 1) (by omega) (by omega), w64 (x := b - 1) (by omega) (by omega)]
                  have hd : bl.drop i = rd_T98 bl i :: bl.drop (i + 1) := by unfold rd_T98; exact drop_cons_getD hi _
                  rw [hd]
                  generalize rd_T98 bl i = x at *
                  by_cases e0 : 0 ≤ x.f0 ∧ x.f0 ≤ a - 1
                  · refine Both.pos e0 ?_
                    by_cases e1 : 0 ≤ x.f1 ∧ x.f1 ≤ b - 1
                    · rw [w64 (x := x.f1 + 1) (by omega) (by omega)]
                      refine Both.posl e1 (Both.negr (by omega) ?_)
                      by_cases e2 : x.f1 + 1 ≤ x.f2 ∧ x.f2 ≤ b
                      · refine Both.posl e2 (Both.negr (by omega) (Both.negr (by omega) ?_))
                        refine ih.imp (fun r hr h0 y hy => ?_)
                        rcases List.mem_cons.1 hy with rfl | hy
                        · exact ⟨e0.1, by omega, e1.1, by omega, e2.2⟩
                        · exact hr h0 y hy
                      · refine Both.negl e2 ?_
                        by_cases q1 : x.f1 ≥ x.f2
                        · exact Both.posr q1 (Two.now _ (by omega))
                        · exact Both.negr q1 (Both.posr (by omega) (Two.now _ (by omega)))
                    · refine Both.negl e1 ?_
                      by_cases q0 : x.f1 < 0
                      · exact Both.posr q0 (Two.now _ (by omega))
                      · refine Both.negr q0 ?_
                        by_cases q1 : x.f1 ≥ x.f2
                        · exact Both.posr q1 (Two.now _ (by omega))
                        · exact Both.negr q1 (Both.posr (by omega) (Two.now _ (by omega)))
                  · exact Both.neg e0 (Two.now _ (by omega))
              exact (k0 0 (by omega)).imp (fun r hr h0 => ⟨ha.1, ha.2, hb.1, hb.2, hc.1, hc.2, by omega, by omega, by omega, by simpa using hr h0⟩)
      · rw [show (!decide (2 ≤ c ∧ c ≤ 6)) = true by simp [hc]]
        exact j0t
    · exact Both.neg hb j0t
  · exact Both.neg ha j0t
end

end Go.Proofs.Ytgajgnemfccnhaa.LLegalChecks
