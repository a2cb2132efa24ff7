/- What the bound of a second-form statement gives: the lengths of the slices that came in. No conditions. (one_le, length_le: out of the kit's page on such statements.) -/
import Derived.Test.YtlegjcagkmjfjaaDoorRows
import Derived.ChangeArms
namespace Go.Proofs.YtlegjcagkmjfjaaDoor.Blk

theorem one_le {H : Type} (d : DataW H) : 1 ≤ Rows.uptoBulk d := by
  cases d with
  | lit l => cases l <;> simp [Rows.uptoBulk]
  | nil => simp [Rows.uptoBulk]
  | ptr d => simp [Rows.uptoBulk]
  | slice elems spare => simp [Rows.uptoBulk]
  | agg parts => simp [Rows.uptoBulk]
  | iface t d => simp [Rows.uptoBulk]
  | map entries => simp [Rows.uptoBulk]
  | held h => simp [Rows.uptoBulk]
theorem length_le {H : Type} (l : List (DataW H)) : l.length ≤ Rows.uptoBulkAll l := by
  induction l with
  | nil => simp [Rows.uptoBulkAll]
  | cons x r ih => have := one_le x; simp only [Rows.uptoBulkAll, List.length_cons]; omega
theorem part_le {H : Type} {d : DataW H} {l : List (DataW H)} (h : d ∈ l) : Rows.uptoBulk d ≤ Rows.uptoBulkAll l := by
  induction l with
  | nil => cases h
  | cons x r ih =>
    simp only [Rows.uptoBulkAll]
    cases List.mem_cons.1 h with
    | inl e => subst e; omega
    | inr e => have := ih e; omega
variable {H : Type} {enc : TypeId × Value → H} {P : Program} {W : World} {base fuel : Nat} {spare : Nat → Bool} {held : Bool} {t e : TypeId} {dat : DataW H} {ps : List MemPlace}
theorem len_bulk {A : Option Addr} {n c : Nat} {cs : List Value} (hu : P.underlying t = some (.slice e)) (hc : cs = [.slice A n c]) (h : DataW.trod enc P W base spare held fuel t cs = some (dat, ps)) : n ≤ Rows.uptoBulk dat := by
  subst hc
  rcases DataW.trod_slice hu h with ⟨h1, _⟩ | ⟨a, len, cap, elems, rest, m, _, h1, h2, _, _, _, hl, _⟩
  · simp only [List.cons.injEq, Value.slice.injEq, and_true] at h1
    omega
  · simp only [List.cons.injEq, Value.slice.injEq, and_true] at h1
    obtain ⟨_, rfl, _⟩ := h1
    obtain ⟨rfl, _⟩ := Prod.mk.inj h2
    have := length_le (elems.map (·.1))
    simp only [Rows.uptoBulk, List.length_map] at this ⊢
    omega
theorem fld_bulk {fs : Array Field} {A : Option Addr} {n c : Nat} {cs : List Value} (hu : P.underlying t = some (.struct fs)) (h : DataW.trod enc P W base spare held fuel t cs = some (dat, ps)) (i : Nat) (f : Field) (hf : fs[i]? = some f) (hs : P.underlying f.type = some (.slice e)) (hc : (cs.drop f.offset).take (P.cellsOf f.type) = [.slice A n c]) : n ≤ Rows.uptoBulk dat := by
  obtain ⟨xs, m, _, hx, _, hxl, hget⟩ := DataW.trod_struct hu h
  obtain ⟨rfl, _⟩ := Prod.mk.inj hx
  have h1 := hget i f hf
  have hi : i < xs.length := by
    rw [hxl]
    exact (Array.getElem?_eq_some_iff.1 hf).1
  rw [List.getElem?_eq_getElem hi] at h1
  have h2 := len_bulk (dat := (xs[i]).1) (ps := (xs[i]).2) hs hc h1
  have h3 := part_le (List.mem_map_of_mem (f := (·.1)) (List.getElem_mem hi))
  simp only [Rows.uptoBulk]
  omega
theorem fld_trod {fs : Array Field} {cs : List Value} (hu : P.underlying t = some (.struct fs)) (h : DataW.trod enc P W base spare held fuel t cs = some (dat, ps)) (i : Nat) (f : Field) (hf : fs[i]? = some f) : ∃ fuel' dat' ps', DataW.trod enc P W base spare held fuel' f.type ((cs.drop f.offset).take (P.cellsOf f.type)) = some (dat', ps') ∧ Rows.uptoBulk dat' ≤ Rows.uptoBulk dat := by
  obtain ⟨xs, m, _, hx, _, hxl, hget⟩ := DataW.trod_struct hu h
  obtain ⟨rfl, _⟩ := Prod.mk.inj hx
  have h1 := hget i f hf
  have hi : i < xs.length := by
    rw [hxl]
    exact (Array.getElem?_eq_some_iff.1 hf).1
  rw [List.getElem?_eq_getElem hi] at h1
  refine ⟨_, (xs[i]).1, (xs[i]).2, h1, ?_⟩
  have h3 := part_le (List.mem_map_of_mem (f := (·.1)) (List.getElem_mem hi))
  simp only [Rows.uptoBulk]
  omega
end Go.Proofs.YtlegjcagkmjfjaaDoor.Blk
