/- Readings opened kind by kind: what the reading of a value of a type tells of its cells, its numbers and its sizes. No conditions. -/
import Derived.SizedLaws
import Derived.ChangeSlices
import Derived.ChangeArms
import Derived.DataReads
import Derived.WideShapes
import Derived.Test.YtpkpmdmmnhmnlaaDoorWWords
namespace Go.Proofs.YtpkpmdmmnhmnlaaDoor.Opn
open Go.RowKit Go.Proofs.YtpkpmdmmnhmnlaaDoorW.PrintWords Go.WideShapes

/-- What a datum weighs at a type is within the reach. -/
def Light {H : Type} (P : Program) (t : TypeId) (d : DataW H) : Prop := ∀ n ∈ d.weights P t, n ≤ reachBytes

/-- A type's reading opens as a kind, and what it reads is good. -/
structure Opens {α : Type} (P : Program) (t : TypeId) (d : Kd α) (good : α → Prop) : Prop where
  sz : P.cellsOf t = d.sz
  op : ∀ {H : Type} {enc : TypeId × Value → H} {W : World} {base : Nat} {spare : Nat → Bool} {held : Bool} {fuel : Nat} {cs : List Value} {dat : DataW H} {ps : List MemPlace},
    DataW.trod enc P W base spare held fuel t cs = some (dat, ps) → Light P t dat → ∃ x, d.K W x cs ∧ good x

/-- A number of its kind. -/
def GI (k : IntKind) (x : Int) : Prop := (Lit.int k x).wf = true
def GB (_ : Bool) : Prop := True
/-- A string within the reach. -/
def GS (s : ByteArray) : Prop := s.size ≤ 140737488351232
/-- A list whose elements are good, and that takes at most so many bytes. -/
def GL {α : Type} (B : Nat) (g : α → Prop) (xs : List α) : Prop := xs.length * B ≤ 140737488351232 ∧ xs.length ≤ 9223372036854775807 ∧ ∀ x ∈ xs, g x
def GP {α β : Type} (g : α → Prop) (h : β → Prop) (x : α × β) : Prop := g x.1 ∧ h x.2

theorem reach_eq : reachBytes = 140737488351232 := by decide

variable {P : Program} {t e : TypeId}

theorem Opens.int {k : IntKind} (hu : P.underlying t = some (.int k)) (hc : P.cellsOf t = 1) : Opens P t (Kd.int k) (GI k) where
  sz := hc
  op := fun h _ => by
    obtain ⟨n, rfl, _, hw⟩ := DataW.trod_int hu h
    exact ⟨n, rfl, hw⟩

theorem Opens.bool (hu : P.underlying t = some .bool) (hc : P.cellsOf t = 1) : Opens P t Kd.bool GB where
  sz := hc
  op := fun h _ => by
    obtain ⟨n, rfl, _⟩ := DataW.trod_bool hu h
    exact ⟨n, rfl, trivial⟩

theorem Opens.string (hu : P.underlying t = some .string) (hc : P.cellsOf t = 1) : Opens P t Kd.string GS where
  sz := hc
  op := fun h hl => by
    obtain ⟨s, rfl, hx, _⟩ := DataW.trod_string hu h
    obtain ⟨rfl, _⟩ := Prod.mk.inj hx
    refine ⟨s, rfl, ?_⟩
    have := hl s.data.toList.length (by simp [DataW.weights])
    rw [reach_eq] at this
    simpa [GS] using this

theorem listed {α : Type} {p : Nat → α → Prop} : ∀ n, (∀ i, i < n → ∃ x, p i x) → ∃ xs : List α, xs.length = n ∧ ∀ i x, xs[i]? = some x → p i x
  | 0, _ => ⟨[], rfl, fun i x h => by simp at h⟩
  | n + 1, h => by
    obtain ⟨xs, hl, hx⟩ := listed n (fun i hi => h i (by omega))
    obtain ⟨y, hy⟩ := h n (by omega)
    refine ⟨xs ++ [y], by simp [hl], fun i x hi => ?_⟩
    by_cases hin : i < xs.length
    · rw [List.getElem?_append_left hin] at hi
      exact hx i x hi
    · rw [List.getElem?_append_right (by omega)] at hi
      have h0 : i = xs.length := by
        by_cases h1 : i - xs.length = 0
        · omega
        · rw [List.getElem?_eq_none (by simp; omega)] at hi
          cases hi
      subst h0
      simp at hi
      subst hi
      rw [hl]
      exact hy

theorem weightsAll_mem {H : Type} {P : Program} {e : TypeId} : ∀ {ds : List (DataW H)} {d : DataW H}, d ∈ ds → ∀ n ∈ d.weights P e, n ∈ DataW.weightsAll P e ds
  | d0 :: ds, d, hd, n, hn => by
    simp only [DataW.weightsAll, List.mem_append]
    rcases List.mem_cons.1 hd with rfl | hd
    · exact .inl hn
    · exact .inr (weightsAll_mem hd n hn)

theorem add_add_ (a : Addr) (i j : Nat) : (a.add i).add j = a.add (i + j) := by
  unfold Addr.add
  rcases Nat.eq_zero_or_pos i with rfl | hi
  · simp
  · rcases Nat.eq_zero_or_pos j with rfl | hj
    · simp
    · rw [if_neg (by omega), if_neg (by omega), if_neg (by omega)]
      simp [Nat.add_assoc]

theorem Opens.slice {α : Type} {d : Kd α} {g : α → Prop} {B : Nat} (hu : P.underlying t = some (.slice e)) (hc : P.cellsOf t = 1) (hB : P.bytesOf e = B) (h : Opens P e d g) : Opens P t (Kd.slice e d) (GL B g) where
  sz := hc
  op := fun {H enc W base spare held fuel cs dat ps} ht hl => by
    rcases DataW.trod_slice hu ht with ⟨rfl, hx⟩ | ⟨a, len, cap, elems, rest, n, _, rfl, hx, hb, hlen, hm, hel, hget, _, _⟩
    · exact ⟨[], ⟨none, 0, rfl, Nat.le_refl _, rfl, by simp, fun h0 => absurd h0 (by simp)⟩, by simp, by simp, fun x hx => by simp at hx⟩
    · obtain ⟨rfl, _⟩ := Prod.mk.inj hx
      have hw : (elems.length + rest.length) * B ≤ reachBytes := by
        have := hl ((elems.length + rest.length) * B) (by simp [DataW.weights, hu, hB])
        exact this
      have key : ∀ i, i < len → ∃ x, (∃ c, c.length = d.sz ∧ d.K W x c ∧ ∀ j u, c[j]? = some u → W.cell? (a.add (i * d.sz + j)) = some u) ∧ g x := by
        intro i hi
        have h1 := hget i hi
        have hi' : i < elems.length := by omega
        rw [List.getElem?_eq_getElem hi'] at h1
        obtain ⟨c, hcells, htr⟩ := Option.bind_eq_some_iff.1 h1
        have hmem : elems[i].1 ∈ elems.map (·.1) := List.mem_map_of_mem (List.getElem_mem hi')
        obtain ⟨x, hK, hg⟩ := h.op (dat := elems[i].1) (ps := elems[i].2) htr (fun m hm => hl m (by
          simp only [DataW.weights, hu, List.mem_cons, List.mem_append]
          exact .inr (.inl (weightsAll_mem hmem m hm))))
        refine ⟨x, ⟨c, d.K_len hK, hK, fun j u hj => ?_⟩, hg⟩
        unfold World.cells? at hcells
        split at hcells
        · have hlenc := d.K_len hK
          have hjl : j < d.sz := by
            rw [← hlenc]
            exact (List.getElem?_eq_some_iff.1 hj).1
          have h2 := mapM_some_get hcells j j (by rw [h.sz]; simp [hjl])
          rw [hj, h.sz, add_add_] at h2
          exact h2
        · cases hcells
      obtain ⟨xs, hxl, hxs⟩ := listed len key
      refine ⟨xs, ⟨some a, cap, by rw [hxl], by omega, rfl, by rw [hxl]; unfold maxLen at hm; omega, fun _ => ⟨a, rfl, fun j p hj => (hxs j p hj).1⟩⟩, ?_, by rw [hxl]; unfold maxLen at hm; omega, fun x hx => ?_⟩
      · rw [hxl, ← hel, ← reach_eq]
        exact Nat.le_trans (Nat.mul_le_mul_right _ (by omega)) hw
      · obtain ⟨i, hi, rfl⟩ := List.getElem_of_mem hx
        exact (hxs i _ (List.getElem?_eq_getElem hi)).2

/-- Fields in line, from a place on. -/
structure OpensL {α : Type} (P : Program) (off : Nat) (fl : List Field) (d : Kd α) (good : α → Prop) : Prop where
  op : ∀ {H : Type} {enc : TypeId × Value → H} {W : World} {base : Nat} {spare : Nat → Bool} {held : Bool} {n : Nat} {cs : List Value} {xs : List (DataW H × List MemPlace)},
    xs.length = fl.length → (∀ (i : Nat) (f : Field), fl[i]? = some f → DataW.trod enc P W base spare held n f.type ((cs.drop f.offset).take (P.cellsOf f.type)) = xs[i]?) →
    (∀ m ∈ DataW.weightsEach P (fl.map Field.type) (xs.map (·.1)), m ≤ reachBytes) → ∃ x, d.K W x ((cs.drop off).take d.sz) ∧ good x

theorem OpensL.one {α : Type} {d : Kd α} {g : α → Prop} {f : Field} {off : Nat} (ho : f.offset = off) (h : Opens P f.type d g) : OpensL P off [f] d g where
  op := fun {H enc W base spare held n cs xs} hl hget hw => by
    match xs, hl with
    | [x], _ =>
      have h0 := hget 0 f rfl
      rw [h.sz, ho] at h0
      exact h.op (dat := x.1) (ps := x.2) h0 (fun m hm => hw m (by simp [DataW.weightsEach, hm]))

theorem OpensL.cons {α β : Type} {d0 : Kd α} {g0 : α → Prop} {d1 : Kd β} {g1 : β → Prop} {f : Field} {fl : List Field} {off : Nat} (ho : f.offset = off) (h : Opens P f.type d0 g0) (hs : OpensL P (off + d0.sz) fl d1 g1) :
    OpensL P off (f :: fl) (Kd.pair d0 d1) (GP g0 g1) where
  op := fun {H enc W base spare held n cs xs} hl hget hw => by
    match xs, hl with
    | x :: xs, hl =>
      have h0 := hget 0 f rfl
      rw [h.sz, ho] at h0
      obtain ⟨a, ka, ga⟩ := h.op (dat := x.1) (ps := x.2) h0 (fun m hm => hw m (by simp only [List.map_cons, DataW.weightsEach, List.mem_append]; exact .inl hm))
      obtain ⟨b, kb, gb⟩ := hs.op (enc := enc) (W := W) (base := base) (spare := spare) (held := held) (n := n) (cs := cs) (xs := xs) (by simpa using hl) (fun i f' hf => by simpa using hget (i + 1) f' (by simpa using hf)) (fun m hm => hw m (by simp only [List.map_cons, DataW.weightsEach, List.mem_append]; exact .inr hm))
      refine ⟨(a, b), ⟨_, _, ?_, ka, kb⟩, ga, gb⟩
      show List.take (d0.sz + d1.sz) _ = _
      rw [List.take_add, List.drop_drop]

theorem OpensL.struct {α β : Type} {d : Kd α} {g : α → Prop} {fs : Array Field} (f : β → α) (mk : α → β) (hf : ∀ a, f (mk a) = a) (hu : P.underlying t = some (.struct fs)) (hc : P.cellsOf t = d.sz) (h : OpensL P 0 fs.toList d g) :
    Opens P t (Kd.iso d f) (fun x => g (f x)) where
  sz := hc
  op := fun {H enc W base spare held fuel cs dat ps} ht hl => by
    obtain ⟨xs, n, _, hx, hlen, hxl, hget⟩ := DataW.trod_struct hu ht
    obtain ⟨rfl, _⟩ := Prod.mk.inj hx
    obtain ⟨x, hk, hg⟩ := h.op (xs := xs) (by simpa using hxl) (fun i f' hf' => hget i f' (by simpa using hf')) (fun m hm => hl m (by simpa [DataW.weights, hu] using hm))
    refine ⟨mk x, ?_, ?_⟩
    · show d.K W (f (mk x)) cs
      rw [hf]
      rw [List.drop_zero, List.take_of_length_le (by rw [hlen, hc]; exact Nat.le_refl _)] at hk
      exact hk
    · show g (f (mk x))
      rw [hf]
      exact hg

/-- An argument's own weights. -/
theorem light_of {H : Type} {ts : List TypeId} {ds : List (DataW H)} {j : Nat} {d : DataW H} (hsz : (DataW.weightsEach P ts ds).all (· ≤ reachBytes) = true) (ht : ts[j]? = some t) (hd : ds[j]? = some d) : Light P t d := fun n hn => by
  simpa using List.all_eq_true.1 hsz n (DataW.weights_mem_each ht hd n hn)

end Go.Proofs.YtpkpmdmmnhmnlaaDoor.Opn
