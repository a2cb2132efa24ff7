/- What the closures of clocks.write answer, and how a builder lives on behind them. -/
import Derived.Test.YtodgaaggmlgenaaDoorPCx0
import Derived.Test.YtodgaaggmlgenaaDoorShf
import Derived.Lib.AppendIntMem
import Derived.Lib.ItoaLen
import Derived.Sort.Grow
set_option linter.unusedSectionVars false
namespace Go.Proofs.YtodgaaggmlgenaaDoor.PC
open Go.Sort Go.RowKit Go.Proofs.YtodgaaggmlgenaaDoorW.PrintWords Go.Proofs.YtodgaaggmlgenaaDoorW.PrintLast Go.Proofs.YtodgaaggmlgenaaDoorW.PrintMore
set_option linter.unusedVariables false
set_option linter.unusedSimpArgs false

theorem bldAt_below {T e : TypeId} {B b : Nat} {p : Value} {bs : List Value} {w w' : World} (h : Lib.BuilderAtF T e B b p bs w) (k : Below w.heap.size w w') : Lib.BuilderAtF T e B b p bs w' := by
  have hlt := h.lt
  obtain ⟨hB, v, hb, hown, hne⟩ := h
  refine ⟨hB, v, blk_below hb k, hown.kept (row := none) ⟨k.os, k.tape, k.output, k.size, fun i hi _ => k.block i hi⟩ ?_, hne⟩
  cases hv : v.ownBlock <;> simp
theorem bld_below {T e : TypeId} {B b : Nat} {bs : List Value} {w w' : World} (h : Lib.IsBuilderF T e B b bs w) (k : Below w.heap.size w w') : Lib.IsBuilderF T e B b bs w' :=
  h.elim (fun x => .inl (bldAt_below x k)) (fun x => .inr (bldAt_below x k))

theorem bld_drew {T e : TypeId} {B b : Nat} {bs : List Value} {w : World} (h : Lib.IsBuilderF T e B b bs w) : Lib.IsBuilderF T e B b bs w.drew :=
  h.elim (fun x => .inl x.drew) (fun x => .inr x.drew)
theorem bld_at {T e : TypeId} {B b : Nat} {l : List UInt8} {s : ByteArray} {w : World} {p : Value} (hp : p = .pointer (some ⟨b, 0, none⟩)) (h : Lib.BuilderAtF T e B b p (Lib.byteCells l ++ Lib.strCells s) w) : Lib.IsBuilderF T e B b (Lib.byteCells (l ++ s.data.toList)) w := by
  subst hp
  rw [Lib.strCells_eq, ← Lib.byteCells_append] at h
  exact Or.inr h
theorem cells2 {w : World} {g T : Nat} {a b : Value} (h : w.heap[g]? = some (.cells #[a, b] T (0, 0))) : w.cell? ⟨g, 0, none⟩ = some a ∧ w.cell? ⟨g, 1, none⟩ = some b :=
  ⟨by rw [Lib.cell_of_heap h]; rfl, by rw [Lib.cell_of_heap h]; rfl⟩
theorem cells3 {w : World} {g T : Nat} {a b c : Value} (h : w.heap[g]? = some (.cells #[a, b, c] T (0, 0))) : w.cell? ⟨g, 0, none⟩ = some a ∧ w.cell? ⟨g, 1, none⟩ = some b ∧ w.cell? ⟨g, 2, none⟩ = some c :=
  ⟨by rw [Lib.cell_of_heap h]; rfl, by rw [Lib.cell_of_heap h]; rfl, by rw [Lib.cell_of_heap h]; rfl⟩

def TB (B : Nat) (w : World) : Prop := Lib.TabBelow Tryd.prog B w "internal/strconv.uint64pow10" .u64 Lib.pow10Tab
theorem TB_on {B : Nat} {w w' : World} (h : TB B w) (k : Below B w w') : TB B w' := Lib.TabBelow.on h k

/-- A number's digits. -/
def itB (n : Int) : ByteArray := ⟨(Lib.itoa n).toArray⟩
def numOk (n : Int) : Prop := 0 ≤ n ∧ n < 1000000000
def NumT (B : Nat) (w : World) (n : Int) : Prop := (0 ≤ n ∧ n < 100) ∨ (0 ≤ n ∧ n < 1000000000 ∧ TB B w)

theorem below_grow (w : World) (k : Nat) (os : Array Obj) : Below w.heap.size w (grow (w.drewN k) os) :=
  ⟨rfl, rfl, rfl, by simp [grow, World.drewN], fun i hi => heap_grow_old (w.drewN k) os hi⟩

set_option maxHeartbeats 1000000 in
set_option maxRecDepth 100000 in
theorem num_calls (B : Nat) (n : Int) (w : World) (h : NumT B w n) :
    Calls Tryd.prog 33 #[.int .i64 n] w fun e w' => e = .returned (.string (itB n)) ∧ Below w.heap.size w w' := by
  have HB := Aside0.mk (Below.refl w.heap.size w)
  go_enter Tryd.func33, Tryd.ntmps33
  go_wp2_with fail
  rcases h with ⟨h0, h1⟩ | ⟨h0, h1, ht⟩
  · obtain ⟨i, rfl⟩ : ∃ i : Nat, n = (i : Int) := ⟨n.toNat, by omega⟩
    refine (Tryd.strconv_Itoa_small i (by omega) _).mono ?_
    rintro e w' ⟨rfl, rfl⟩
    go_wp2
    go_ret
    exact ⟨by rw [itB, Lib.itoa_nonneg]; rfl, HB.out⟩
  · refine (Tryd.strconv_Itoa n (by omega) (by omega) _ ht.here).mono ?_
    rintro e w' ⟨rfl, k, os, rfl⟩
    have HG := Aside0.mk (below_grow w k os)
    generalize grow (w.drewN k) os = w1 at *
    go_wp2
    go_ret
    exact ⟨rfl, HG.out⟩

def whomB (s : ByteArray) : ByteArray := if s.toList = ([] : List UInt8) then ⟨#[42]⟩ else (⟨#[61]⟩ : ByteArray) ++ s

set_option maxHeartbeats 1000000 in
set_option maxRecDepth 100000 in
theorem all_calls (s : ByteArray) (w : World) (hs : s.size ≤ 1000000) :
    Calls Tryd.prog 36 #[.string s] w fun e w' => e = .returned (.string (whomB s)) ∧ Below w.heap.size w w' := by
  have HB := Aside0.mk (Below.refl w.heap.size w)
  have c3b2 : (9223372036854775807 < 1 + s.size) = False := eq_false (by omega)
  by_cases c : s.toList = ([] : List UInt8)
  · have c2b0 : (s.toList == ([] : List UInt8)) = true := beq_iff_eq.mpr c
    have hw : whomB s = ⟨#[42]⟩ := if_pos c
    go_enter Tryd.func36, Tryd.ntmps36
    go_wp2
    go_ret
    exact ⟨by rw [hw]; rfl, HB.out⟩
  · have c2b0 : (s.toList == ([] : List UInt8)) = false := beq_eq_false_iff_ne.mpr c
    have hw : whomB s = (⟨#[61]⟩ : ByteArray) ++ s := if_neg c
    go_enter Tryd.func36, Tryd.ntmps36
    go_wp2
    go_ret
    exact ⟨by rw [hw]; rfl, HB.out⟩
end Go.Proofs.YtodgaaggmlgenaaDoor.PC
