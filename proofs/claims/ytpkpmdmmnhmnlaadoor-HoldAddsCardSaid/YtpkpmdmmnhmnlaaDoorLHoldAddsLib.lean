/- What the check of a library of cells answers: some answer for every library, and what a valid cell is. No conditions. -/
import Derived.Test.YtpkpmdmmnhmnlaaDoorStmHoldAdds
import Derived.Test.YtpkpmdmmnhmnlaaDoorAid
-- NEEDS lib_Check lib_CheckCell lib_in lib_Name netlist_Mask
set_option linter.unusedVariables false
namespace Go.Proofs.YtpkpmdmmnhmnlaaDoor.LHoldAdds
open Go.RowKit Go.Proofs.YtpkpmdmmnhmnlaaDoorW.PrintWords Go.Proofs.YtpkpmdmmnhmnlaaDoor.Opn Go.Proofs.YtpkpmdmmnhmnlaaDoor.PT Go.Proofs.YtpkpmdmmnhmnlaaDoor.SHoldAdds Go.Proofs.YtpkpmdmmnhmnlaaDoor.Aid

/-- Some answer, of which something is known. -/
def Tot {α : Type} (Q : α → Prop) (g : Nat → Option α) : Prop := ∃ r, Ev g r ∧ Q r
section
variable {α β : Type} {Q : α → Prop} {R : β → Prop} {c : Prop} [Decidable c] {g f : Nat → Option α}
theorem Tot.now (r : α) (h : Q r) : Tot Q (fun _ => some r) := ⟨r, Ev.now r, h⟩
theorem Tot.ite (h : c → Tot Q g) (h' : ¬ c → Tot Q f) : Tot Q (fun k => if c then g k else f k) := by
  by_cases hc : c
  · obtain ⟨r, e, q⟩ := h hc
    exact ⟨r, Ev.pos hc e, q⟩
  · obtain ⟨r, e, q⟩ := h' hc
    exact ⟨r, Ev.neg hc e, q⟩
theorem Tot.pos (hc : c) (h : Tot Q g) : Tot Q (fun k => if c then g k else f k) := Tot.ite (fun _ => h) (fun h' => absurd hc h')
theorem Tot.neg (hc : ¬ c) (h : Tot Q f) : Tot Q (fun k => if c then g k else f k) := Tot.ite (fun h' => absurd h' hc) (fun _ => h)
theorem Tot.step (h : ∀ k, g (k + 1) = f k) (k : Tot Q f) : Tot Q g := by
  obtain ⟨r, e, q⟩ := k
  exact ⟨r, Ev.step h e, q⟩
theorem Tot.bind {g : Nat → Option β} {f : Nat → β → Option α} (h : Tot R g) (k : ∀ a, R a → Tot Q (fun n => f n a)) : Tot Q (fun n => (g n).bind (f n)) := by
  obtain ⟨a, e, r⟩ := h
  obtain ⟨b, e', q⟩ := k a r
  exact ⟨b, Ev.bind e e', q⟩
theorem Tot.val {a : Option β} {x : β} {f : Nat → β → Option α} (ha : a = some x) (k : Tot Q (fun n => f n x)) : Tot Q (fun n => a.bind (f n)) := by
  obtain ⟨r, e, q⟩ := k
  exact ⟨r, Ev.val ha e, q⟩
theorem Tot.imp {Q' : α → Prop} (h : Tot Q g) (k : ∀ r, Q r → Q' r) : Tot Q' g := by
  obtain ⟨r, e, q⟩ := h
  exact ⟨r, e, k r q⟩
end

theorem rd_mem {l : List Int} {i : Nat} (h : i < l.length) : rd l (i : Int) ∈ l := by
  unfold rd
  rw [Int.toNat_natCast]
  exact getD_mem h 0
theorem mem_rd {l : List Int} {x : Int} (h : x ∈ l) : ∃ i : Nat, i < l.length ∧ rd l (i : Int) = x := by
  obtain ⟨i, hi, e⟩ := List.getElem_of_mem h
  refine ⟨i, hi, ?_⟩
  unfold rd
  rw [Int.toNat_natCast, List.getD_eq_getElem?_getD, List.getElem?_eq_getElem hi]
  exact e

theorem in_tot (m : Int) (l : List Int) (hl : l.length ≤ 9223372036854775807) : Tot (fun b => b = true → ∀ x ∈ l, 0 ≤ x ∧ x ≤ m) (fun k => lib_in.f k m l) := by
  unfold lib_in.f
  have key := down (P := fun i => Tot (fun b => b = true → ∀ j : Nat, i ≤ j → j < l.length → 0 ≤ rd l (j : Int) ∧ rd l (j : Int) ≤ m) (fun k => lib_in.l0 k m l (l.length : Int) (i : Int))) l.length ?_ ?_ 0 (by omega)
  · refine key.imp (fun b h hb x hx => ?_)
    obtain ⟨j, hj, rfl⟩ := mem_rd hx
    exact h hb j (Nat.zero_le _) hj
  · exact Tot.step (fun k => by rw [lib_in.l0]) (Tot.neg (by omega) (Tot.now _ (fun _ j h1 h2 => by omega)))
  · intro i hi ih
    refine Tot.step (fun k => by rw [lib_in.l0]) (Tot.pos (by omega) (Tot.pos (by omega) (Tot.pos (by omega) (Tot.ite (fun _ => Tot.now _ (fun h => by cases h)) (fun h1 => Tot.ite (fun _ => Tot.now _ (fun h => by cases h)) (fun h2 => ?_))))))
    rw [ws hi hl]
    refine ih.imp (fun b h hb j j1 j2 => ?_)
    by_cases e : j = i
    · subst e; omega
    · exact h hb j (by omega) j2

section
variable (s : ByteArray) (fl : Bool) (ins tb ar : Int) (cp mn mx : List Int) (dr st hd : Int)
/-- A valid cell's parts. -/
def GSh : Prop := (fl = true → 1 ≤ ins ∧ ins ≤ 2 ∧ (cp.length : Int) = ins + 1 ∧ mn.length = 1 ∧ mx.length = 1) ∧ (fl = false → 0 ≤ ins ∧ ins ≤ 6 ∧ (cp.length : Int) = ins ∧ (mn.length : Int) = ins ∧ (mx.length : Int) = ins)
def GN1 : Prop := 1 ≤ ar ∧ ar ≤ 64 ∧ (∀ x ∈ cp, 0 ≤ x ∧ x ≤ 1000) ∧ 0 ≤ dr ∧ dr ≤ 1000
def GN2 : Prop := (∀ x ∈ mn, 0 ≤ x ∧ x ≤ 10000) ∧ (∀ x ∈ mx, 0 ≤ x ∧ x ≤ 10000) ∧ 0 ≤ st ∧ st ≤ 10000 ∧ 0 ≤ hd ∧ hd ≤ 10000
def GC : Prop := GSh fl ins cp mn mx ∧ GN1 ar cp dr ∧ GN2 mn mx st hd

theorem gsh_len (h : GSh fl ins cp mn mx) : mn.length = mx.length ∧ mn.length ≤ 6 ∧ cp.length ≤ 6 := by
  obtain ⟨h1, h2⟩ := h
  cases fl with
  | true => have := h1 rfl; omega
  | false => have := h2 rfl; omega

theorem cc_l0 (hl : mn.length = mx.length ∧ mn.length ≤ 6 ∧ cp.length ≤ 6) : Tot (fun _ => True) (fun k => lib_CheckCell.l0 k (mn.length : Int) 0 s fl ins tb ar cp mn mx dr st hd) := by
  refine down (P := fun i => Tot (fun _ => True) (fun k => lib_CheckCell.l0 k (mn.length : Int) (i : Int) s fl ins tb ar cp mn mx dr st hd)) mn.length ?_ ?_ 0 (by omega)
  · exact Tot.step (fun k => by rw [lib_CheckCell.l0]) (Tot.neg (by omega) (Tot.now _ trivial))
  · intro i hi ih
    refine Tot.step (fun k => by rw [lib_CheckCell.l0]) (Tot.pos (by omega) (Tot.pos (by omega) (Tot.pos (by omega) (Tot.pos (by omega) (Tot.ite (fun _ => Tot.now _ trivial) (fun _ => ?_))))))
    rw [ws (n := mn.length) hi (by omega)]
    exact ih
theorem cc_j5 (h : GC fl ins ar cp mn mx dr st hd) (x : Bool) : Tot (fun r => r = 0 → GC fl ins ar cp mn mx dr st hd) (fun k => lib_CheckCell.j5 k x s fl ins tb ar cp mn mx dr st hd) := by
  have j6 : Tot (fun r => r = 0 → GC fl ins ar cp mn mx dr st hd) (fun k => lib_CheckCell.j6 k s fl ins tb ar cp mn mx dr st hd) :=
    Tot.step (fun k => by rw [lib_CheckCell.j6]) ((cc_l0 s fl ins tb ar cp mn mx dr st hd (gsh_len _ _ _ _ _ h.1)).imp (fun _ _ _ => h))
  refine Tot.step (fun k => by rw [lib_CheckCell.j5]) (Tot.ite (fun _ => Tot.now _ (fun _ => h)) (fun _ => Tot.ite (fun _ => j6) (fun _ => Tot.ite (fun _ => Tot.ite (fun _ => j6) (fun _ => Tot.now _ (fun _ => h))) (fun _ => Tot.now _ (fun _ => h)))))
theorem cc_j5t : Tot (fun r => r = 0 → GC fl ins ar cp mn mx dr st hd) (fun k => lib_CheckCell.j5 k true s fl ins tb ar cp mn mx dr st hd) :=
  Tot.step (fun k => by rw [lib_CheckCell.j5]) (Tot.pos rfl (Tot.now _ (by omega)))
theorem cc_j4 (h : GSh fl ins cp mn mx) (h1 : GN1 ar cp dr) : Tot (fun r => r = 0 → GC fl ins ar cp mn mx dr st hd) (fun k => lib_CheckCell.j4 k false s fl ins tb ar cp mn mx dr st hd) := by
  have hl := gsh_len _ _ _ _ _ h
  refine Tot.step (fun k => by rw [lib_CheckCell.j4]) (Tot.neg (by simp) (Tot.bind (in_tot 10000 mn (by omega)) (fun b1 q1 => Tot.ite (fun e1 => Tot.bind (in_tot 10000 mx (by omega)) (fun b2 q2 => Tot.ite (fun e2 => Tot.bind (in_tot 10000 [st, hd] (by simp)) (fun b3 q3 => ?_)) (fun _ => cc_j5t s fl ins tb ar cp mn mx dr st hd))) (fun _ => cc_j5t s fl ins tb ar cp mn mx dr st hd))))
  cases b3 with
  | true =>
    have z1 := q3 rfl st (by simp)
    have z2 := q3 rfl hd (by simp)
    exact cc_j5 s fl ins tb ar cp mn mx dr st hd ⟨h, h1, q1 e1, q2 e2, z1.1, z1.2, z2.1, z2.2⟩ _
  | false => exact cc_j5t s fl ins tb ar cp mn mx dr st hd
theorem cc_j4t : Tot (fun r => r = 0 → GC fl ins ar cp mn mx dr st hd) (fun k => lib_CheckCell.j4 k true s fl ins tb ar cp mn mx dr st hd) :=
  Tot.step (fun k => by rw [lib_CheckCell.j4]) (Tot.pos rfl (Tot.now _ (by omega)))
theorem cc_j3 (h : GSh fl ins cp mn mx) (x : Bool) : Tot (fun r => r = 0 → GC fl ins ar cp mn mx dr st hd) (fun k => lib_CheckCell.j3 k x s fl ins tb ar cp mn mx dr st hd) := by
  have hl := gsh_len _ _ _ _ _ h
  have t := cc_j4t s fl ins tb ar cp mn mx dr st hd
  refine Tot.step (fun k => by rw [lib_CheckCell.j3]) (Tot.ite (fun _ => Tot.now _ (by omega)) (fun _ => Tot.bind (in_tot 64 [ar] (by simp)) (fun b1 q1 => Tot.ite (fun e1 => Tot.ite (fun _ => t) (fun e0 => Tot.bind (in_tot 1000 cp (by omega)) (fun b2 q2 => Tot.ite (fun e2 => Tot.bind (in_tot 1000 [dr] (by simp)) (fun b3 q3 => ?_)) (fun _ => t)))) (fun _ => t))))
  cases b3 with
  | true =>
    have z1 := q1 e1 ar (by simp)
    have z2 := q3 rfl dr (by simp)
    exact cc_j4 s fl ins tb ar cp mn mx dr st hd h ⟨by omega, z1.2, q2 e2, z2.1, z2.2⟩
  | false => exact t
theorem cc_j2t : Tot (fun r => r = 0 → GC fl ins ar cp mn mx dr st hd) (fun k => lib_CheckCell.j2 k true s fl ins tb ar cp mn mx dr st hd) :=
  Tot.step (fun k => by rw [lib_CheckCell.j2]) (Tot.pos rfl (Tot.now _ (by omega)))
theorem cc_j2 (h : GSh fl ins cp mn mx) : Tot (fun r => r = 0 → GC fl ins ar cp mn mx dr st hd) (fun k => lib_CheckCell.j2 k false s fl ins tb ar cp mn mx dr st hd) := by
  have t := cc_j3 s fl ins tb ar cp mn mx dr st hd h
  refine Tot.step (fun k => by rw [lib_CheckCell.j2]) (Tot.neg (by simp) (Tot.ite (fun _ => Tot.ite (fun _ => ?_) (fun _ => t _)) (fun _ => ?_)))
  · exact Tot.val (a := netlist_Mask.f ins) rfl (t _)
  · exact Tot.val (a := netlist_Mask.f ins) rfl (t _)
theorem cc_j1 (caps ends : Int) (hin : fl = true ∧ caps = ins + 1 ∧ ends = 1 ∧ 1 ≤ ins ∧ ins ≤ 2 ∨ fl = false ∧ caps = ins ∧ ends = ins ∧ 0 ≤ ins ∧ ins ≤ 6) : Tot (fun r => r = 0 → GC fl ins ar cp mn mx dr st hd) (fun k => lib_CheckCell.j1 k caps ends false s fl ins tb ar cp mn mx dr st hd) := by
  have t := cc_j2t s fl ins tb ar cp mn mx dr st hd
  refine Tot.step (fun k => by rw [lib_CheckCell.j1]) (Tot.neg (by simp) (Tot.ite (fun h1 => Tot.ite (fun h2 => ?_) (fun _ => t)) (fun _ => t)))
  by_cases h3 : (mx.length : Int) = ends
  · rw [show ((mx.length : Int) != ends) = false by simpa using h3]
    refine cc_j2 s fl ins tb ar cp mn mx dr st hd ⟨fun e => ?_, fun e => ?_⟩
    · rcases hin with ⟨_, h4, h5, h6, h7⟩ | ⟨h4, _⟩
      · omega
      · rw [e] at h4; cases h4
    · rcases hin with ⟨h4, _⟩ | ⟨_, h4, h5, h6, h7⟩
      · rw [e] at h4; cases h4
      · omega
  · rw [show ((mx.length : Int) != ends) = true by simpa using h3]
    exact t
theorem cc_j1t (caps ends : Int) : Tot (fun r => r = 0 → GC fl ins ar cp mn mx dr st hd) (fun k => lib_CheckCell.j1 k caps ends true s fl ins tb ar cp mn mx dr st hd) :=
  Tot.step (fun k => by rw [lib_CheckCell.j1]) (Tot.pos rfl (Tot.now _ (by omega)))
theorem cell_tot : Tot (fun r => r = 0 → GC fl ins ar cp mn mx dr st hd) (fun k => lib_CheckCell.f k s fl ins tb ar cp mn mx dr st hd) := by
  unfold lib_CheckCell.f
  refine Tot.val (a := lib_Name.f s) rfl (Tot.ite (fun _ => ?_) (fun _ => Tot.now _ (by omega)))
  cases fl with
  | true =>
    refine Tot.pos rfl (Tot.step (fun k => by rw [lib_CheckCell.j0]) (Tot.ite (fun _ => cc_j1t _ _ _ _ _ _ _ _ _ _ _ _ _) (fun h1 => Tot.ite (fun _ => cc_j1t _ _ _ _ _ _ _ _ _ _ _ _ _) (fun h2 => Tot.pos rfl ?_))))
    by_cases h3 : ins > 2
    · rw [decide_eq_true h3]; exact cc_j1t _ _ _ _ _ _ _ _ _ _ _ _ _
    · rw [decide_eq_false h3]
      exact cc_j1 _ _ _ _ _ _ _ _ _ _ _ _ _ (.inl ⟨rfl, w64 (by omega) (by omega), rfl, by omega, by omega⟩)
  | false =>
    refine Tot.neg (by simp) (Tot.step (fun k => by rw [lib_CheckCell.j0]) (Tot.ite (fun _ => cc_j1t _ _ _ _ _ _ _ _ _ _ _ _ _) (fun h1 => Tot.ite (fun _ => cc_j1t _ _ _ _ _ _ _ _ _ _ _ _ _) (fun h2 => Tot.neg (by simp) ?_))))
    exact cc_j1 _ _ _ _ _ _ _ _ _ _ _ _ _ (.inr ⟨rfl, rfl, rfl, by omega, by omega⟩)
end

abbrev Cel := S48
def GCell (x : Cel) : Prop := GC x.f1 x.f2 x.f4 x.f5 x.f6 x.f7 x.f8 x.f9 x.f10
theorem lib_tot (l : List Cel) : Tot (fun e => e = 0 → l.length ≤ 64 ∧ ∀ i : Nat, i < l.length → GCell (rd_T48 l (i : Int))) (fun k => lib_Check.f k l) := by
  unfold lib_Check.f
  refine Tot.ite (fun _ => Tot.now _ (by omega)) (fun h => ?_)
  have key := down (P := fun i => Tot (fun e => e = 0 → ∀ j : Nat, i ≤ j → j < l.length → GCell (rd_T48 l (j : Int))) (fun k => lib_Check.l0 k l (i : Int))) l.length ?_ ?_ 0 (by omega)
  · exact key.imp (fun e he h0 => ⟨by omega, fun i hi => he h0 i (Nat.zero_le _) hi⟩)
  · exact Tot.step (fun k => by rw [lib_Check.l0]) (Tot.neg (by omega) (Tot.now _ (fun _ j h1 h2 => by omega)))
  · intro i hi ih
    refine Tot.step (fun k => by rw [lib_Check.l0]) (Tot.pos (by omega) (Tot.bind (cell_tot _ _ _ _ _ _ _ _ _ _ _) (fun e q => Tot.ite (fun e0 => Tot.ite (fun _ => Tot.now _ (by omega)) (fun _ => ?_)) (fun e0 => Tot.now _ (fun h => absurd h e0)))))
    rw [show (i : Int) + 1 = ((i + 1 : Nat) : Int) by omega]
    refine ih.imp (fun e' q' h0 j j1 j2 => ?_)
    by_cases e : j = i
    · subst e; exact q e0
    · exact q' h0 j (by omega) j2

end Go.Proofs.YtpkpmdmmnhmnlaaDoor.LHoldAdds
