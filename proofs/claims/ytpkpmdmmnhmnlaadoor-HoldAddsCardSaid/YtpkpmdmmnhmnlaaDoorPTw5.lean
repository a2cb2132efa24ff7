/- What the closures of clocks.write answer, and how a builder lives on behind them. -/
/- What clocks.write answers: the text, line by line. -/
/- What the two closures of clocks.Check find, and slices.ContainsFunc over them. -/
/- What clocks.Check answers, as a plain function. -/
/- What clocks.Check answers. -/
import Derived.Test.YtpkpmdmmnhmnlaaDoorPTx0
import Derived.Test.YtpkpmdmmnhmnlaaDoorShf
import Derived.Lib.AppendIntMem
import Derived.Lib.ItoaLen
import Derived.Sort.Grow
import Derived.Test.YtpkpmdmmnhmnlaaDoorPTx17
set_option linter.unusedSectionVars false
namespace Go.Proofs.YtpkpmdmmnhmnlaaDoor.PT
open Go.Sort Go.RowKit Go.Proofs.YtpkpmdmmnhmnlaaDoorW.PrintWords Go.Proofs.YtpkpmdmmnhmnlaaDoorW.PrintLast Go.Proofs.YtpkpmdmmnhmnlaaDoorW.PrintMore
set_option linter.unusedVariables false
set_option linter.unusedSimpArgs false

theorem bldAt_below {T e : TypeId} {B b : Nat} {p : Value} {bs : List Value} {w w' : World} (h : Lib.BuilderAtF T e B b p bs w) (k : Below w.heap.size w w') : Lib.BuilderAtF T e B b p bs w' := by
  have hlt := h.lt
  obtain ⟨hB, v, hb, hown, hne⟩ := h
  refine ⟨hB, v, blk_below hb k, hown.kept (row := none) ⟨k.os, k.tape, k.output, k.size, fun i hi _ => k.block i hi⟩ ?_, hne⟩
  cases hv : v.ownBlock <;> simp
theorem bld_below {T e : TypeId} {B b : Nat} {bs : List Value} {w w' : World} (h : Lib.IsBuilderF T e B b bs w) (k : Below w.heap.size w w') : Lib.IsBuilderF T e B b bs w' :=
  h.elim (fun x => .inl (bldAt_below x k)) (fun x => .inr (bldAt_below x k))

theorem bld_drew {T e : TypeId} {B b : Nat} {bs : List Value} {w : World} (h : Lib.IsBuilderF T e B b bs w) : Lib.IsBuilderF T e B b bs w.drew :=
  h.elim (fun x => .inl x.drew) (fun x => .inr x.drew)
theorem bld_at {T e : TypeId} {B b : Nat} {l : List UInt8} {s : ByteArray} {w : World} {p : Value} (hp : p = .pointer (some ⟨b, 0, none⟩)) (h : Lib.BuilderAtF T e B b p (Lib.byteCells l ++ Lib.strCells s) w) : Lib.IsBuilderF T e B b (Lib.byteCells (l ++ s.data.toList)) w := by
  subst hp
  rw [Lib.strCells_eq, ← Lib.byteCells_append] at h
  exact Or.inr h
theorem cells2 {w : World} {g T : Nat} {a b : Value} (h : w.heap[g]? = some (.cells #[a, b] T (0, 0))) : w.cell? ⟨g, 0, none⟩ = some a ∧ w.cell? ⟨g, 1, none⟩ = some b :=
  ⟨by rw [Lib.cell_of_heap h]; rfl, by rw [Lib.cell_of_heap h]; rfl⟩
theorem cells3 {w : World} {g T : Nat} {a b c : Value} (h : w.heap[g]? = some (.cells #[a, b, c] T (0, 0))) : w.cell? ⟨g, 0, none⟩ = some a ∧ w.cell? ⟨g, 1, none⟩ = some b ∧ w.cell? ⟨g, 2, none⟩ = some c :=
  ⟨by rw [Lib.cell_of_heap h]; rfl, by rw [Lib.cell_of_heap h]; rfl, by rw [Lib.cell_of_heap h]; rfl⟩

def TB (B : Nat) (w : World) : Prop := Lib.TabBelow Tryd.prog B w "internal/strconv.uint64pow10" .u64 Lib.pow10Tab
theorem TB_on {B : Nat} {w w' : World} (h : TB B w) (k : Below B w w') : TB B w' := Lib.TabBelow.on h k

/-- A number's digits. -/
def itB (n : Int) : ByteArray := ⟨(Lib.itoa n).toArray⟩
def numOk (n : Int) : Prop := 0 ≤ n ∧ n < 1000000000
def NumT (B : Nat) (w : World) (n : Int) : Prop := (0 ≤ n ∧ n < 100) ∨ (0 ≤ n ∧ n < 1000000000 ∧ TB B w)

theorem below_grow (w : World) (k : Nat) (os : Array Obj) : Below w.heap.size w (grow (w.drewN k) os) :=
  ⟨rfl, rfl, rfl, by simp [grow, World.drewN], fun i hi => heap_grow_old (w.drewN k) os hi⟩

set_option maxHeartbeats 1000000 in
set_option maxRecDepth 100000 in
theorem num_calls (B : Nat) (n : Int) (w : World) (h : NumT B w n) :
    Calls Tryd.prog 80 #[.int .i64 n] w fun e w' => e = .returned (.string (itB n)) ∧ Below w.heap.size w w' := by
  have HB := Aside0.mk (Below.refl w.heap.size w)
  go_enter Tryd.func80, Tryd.ntmps80
  go_wp2_with fail
  rcases h with ⟨h0, h1⟩ | ⟨h0, h1, ht⟩
  · obtain ⟨i, rfl⟩ : ∃ i : Nat, n = (i : Int) := ⟨n.toNat, by omega⟩
    refine (Tryd.strconv_Itoa_small i (by omega) _).mono ?_
    rintro e w' ⟨rfl, rfl⟩
    go_wp2
    go_ret
    exact ⟨by rw [itB, Lib.itoa_nonneg]; rfl, HB.out⟩
  · refine (Tryd.strconv_Itoa n (by omega) (by omega) _ ht.here).mono ?_
    rintro e w' ⟨rfl, k, os, rfl⟩
    have HG := Aside0.mk (below_grow w k os)
    generalize grow (w.drewN k) os = w1 at *
    go_wp2
    go_ret
    exact ⟨rfl, HG.out⟩

def whomB (s : ByteArray) : ByteArray := if s.toList = ([] : List UInt8) then ⟨#[42]⟩ else (⟨#[61]⟩ : ByteArray) ++ s

set_option maxHeartbeats 1000000 in
set_option maxRecDepth 100000 in
theorem all_calls (s : ByteArray) (w : World) (hs : s.size ≤ 1000000) :
    Calls Tryd.prog 83 #[.string s] w fun e w' => e = .returned (.string (whomB s)) ∧ Below w.heap.size w w' := by
  have HB := Aside0.mk (Below.refl w.heap.size w)
  have c3b2 : (9223372036854775807 < 1 + s.size) = False := eq_false (by omega)
  by_cases c : s.toList = ([] : List UInt8)
  · have c2b0 : (s.toList == ([] : List UInt8)) = true := beq_iff_eq.mpr c
    have hw : whomB s = ⟨#[42]⟩ := if_pos c
    go_enter Tryd.func83, Tryd.ntmps83
    go_wp2
    go_ret
    exact ⟨by rw [hw]; rfl, HB.out⟩
  · have c2b0 : (s.toList == ([] : List UInt8)) = false := beq_eq_false_iff_ne.mpr c
    have hw : whomB s = (⟨#[61]⟩ : ByteArray) ++ s := if_neg c
    go_enter Tryd.func83, Tryd.ntmps83
    go_wp2
    go_ret
    exact ⟨by rw [hw]; rfl, HB.out⟩
end Go.Proofs.YtpkpmdmmnhmnlaaDoor.PT
namespace Go.Proofs.YtpkpmdmmnhmnlaaDoor.PT
open Go.Sort Go.RowKit Go.Proofs.YtpkpmdmmnhmnlaaDoorW.PrintWords Go.Proofs.YtpkpmdmmnhmnlaaDoorW.PrintLast Go.Proofs.YtpkpmdmmnhmnlaaDoorW.PrintMore
set_option linter.unusedVariables false
set_option linter.unusedSimpArgs false

def perB (n : Int) : ByteArray := ((⟨#[112, 101, 114, 105, 111, 100, 32]⟩ : ByteArray) ++ itB n) ++ ⟨#[10]⟩
def inB (x : S112) : ByteArray := ((((((⟨#[105, 110, 112, 117, 116, 32]⟩ : ByteArray) ++ x.f0) ++ ⟨#[32]⟩) ++ itB x.f1.f0) ++ ⟨#[32]⟩) ++ itB x.f1.f1) ++ ⟨#[10]⟩
def outB (x : S115) : ByteArray := ((((⟨#[111, 117, 116, 112, 117, 116, 32]⟩ : ByteArray) ++ x.f0) ++ ⟨#[32]⟩) ++ itB x.f1) ++ ⟨#[10]⟩
def pathB (x : S117) : ByteArray := if x.f2 = 0 then ((((⟨#[102, 97, 108, 115, 101, 32]⟩ : ByteArray) ++ whomB x.f0) ++ ⟨#[32]⟩) ++ whomB x.f1) ++ ⟨#[10]⟩
  else ((((((⟨#[109, 117, 108, 116, 105, 32]⟩ : ByteArray) ++ itB x.f2) ++ ⟨#[32]⟩) ++ whomB x.f0) ++ ⟨#[32]⟩) ++ whomB x.f1) ++ ⟨#[10]⟩
def catL {α : Type} (f : α → ByteArray) (l : List α) : List UInt8 := l.flatMap fun x => (f x).data.toList
def wrL (p : Int) (i : List S112) (o : List S115) (q : List S117) : List UInt8 := (((perB p).data.toList ++ catL inB i) ++ catL outB o) ++ catL pathB q

def okN (lim n : Int) : Prop := 0 ≤ n ∧ n < lim
def okI (lim : Int) (l : List S112) : Prop := l.length ≤ 128 ∧ ∀ x ∈ l, x.f0.size ≤ 128 ∧ okN lim x.f1.f0 ∧ okN lim x.f1.f1
def okO (lim : Int) (l : List S115) : Prop := l.length ≤ 128 ∧ ∀ x ∈ l, x.f0.size ≤ 128 ∧ okN lim x.f1
def okP (lim : Int) (l : List S117) : Prop := l.length ≤ 64 ∧ ∀ x ∈ l, x.f0.size ≤ 128 ∧ x.f1.size ≤ 128 ∧ okN lim x.f2
def okL (B : Nat) (w : World) (lim : Int) : Prop := lim ≤ 100 ∨ (lim ≤ 1000000000 ∧ TB B w)
theorem numT_of {B : Nat} {w w' : World} {lim n : Int} (h : okL B w lim) (hb : Below B w w') (hn : okN lim n) : NumT B w' n := by
  unfold okN at hn
  rcases h with h | ⟨h, ht⟩
  · exact .inl ⟨by omega, by omega⟩
  · exact .inr ⟨by omega, by omega, TB_on ht hb⟩
theorem itB_size (n : Int) (h0 : 0 ≤ n) (h1 : n < 1000000000) : (itB n).size ≤ 21 := Lib.itoa_length_le n (by omega) (by omega)
theorem okL_lt {B : Nat} {w : World} {lim n : Int} (h : okL B w lim) (hn : okN lim n) : 0 ≤ n ∧ n < 1000000000 := by
  unfold okN at hn
  rcases h with h | ⟨h, _⟩ <;> omega
theorem perSz (n : Int) (h0 : 0 ≤ n) (h1 : n < 1000000000) : (perB n).size ≤ 29 := by
  have := itB_size n h0 h1
  unfold perB
  rw [ByteArray.size_append, ByteArray.size_append]
  show 7 + (itB n).size + 1 ≤ 29
  omega
theorem rd_mem {α : Type} (l : List α) (z : α) (i : Int) (h0 : 0 ≤ i) (h1 : i < l.length) : l.getD i.toNat z ∈ l := by
  have hn : i.toNat < l.length := by omega
  rw [List.getD_eq_getElem?_getD, List.getElem?_eq_getElem hn]
  exact List.getElem_mem hn
theorem whomB_size (s : ByteArray) (h : s.size ≤ 128) : (whomB s).size ≤ 129 := by
  unfold whomB
  split
  · show 1 ≤ 129; omega
  · rw [ByteArray.size_append]; show 1 + s.size ≤ 129; omega

theorem baLen (b : ByteArray) : b.data.toList.length = b.size := Array.length_toList
theorem inSz {lim : Int} {B : Nat} {w : World} (hl : okL B w lim) (x : S112) (h : x.f0.size ≤ 128 ∧ okN lim x.f1.f0 ∧ okN lim x.f1.f1) : (inB x).size ≤ 300 := by
  have a := okL_lt hl h.2.1
  have b := okL_lt hl h.2.2
  have c := itB_size _ a.1 a.2
  have d := itB_size _ b.1 b.2
  have e := h.1
  unfold inB
  simp only [ByteArray.size_append]
  show 6 + x.f0.size + 1 + (itB x.f1.f0).size + 1 + (itB x.f1.f1).size + 1 ≤ 300
  omega
theorem outSz {lim : Int} {B : Nat} {w : World} (hl : okL B w lim) (x : S115) (h : x.f0.size ≤ 128 ∧ okN lim x.f1) : (outB x).size ≤ 300 := by
  have a := okL_lt hl h.2
  have c := itB_size _ a.1 a.2
  have e := h.1
  unfold outB
  simp only [ByteArray.size_append]
  show 7 + x.f0.size + 1 + (itB x.f1).size + 1 ≤ 300
  omega
theorem pathSz {lim : Int} {B : Nat} {w : World} (hl : okL B w lim) (x : S117) (h : x.f0.size ≤ 128 ∧ x.f1.size ≤ 128 ∧ okN lim x.f2) : (pathB x).size ≤ 300 := by
  have a := okL_lt hl h.2.2
  have c := itB_size _ a.1 a.2
  have d := whomB_size _ h.1
  have e := whomB_size _ h.2.1
  unfold pathB
  split
  · simp only [ByteArray.size_append]
    show 6 + (whomB x.f0).size + 1 + (whomB x.f1).size + 1 ≤ 300
    omega
  · simp only [ByteArray.size_append]
    show 6 + (itB x.f2).size + 1 + (whomB x.f0).size + 1 + (whomB x.f1).size + 1 ≤ 300
    omega
theorem cat_len {α : Type} (f : α → ByteArray) : ∀ (l : List α), (∀ x ∈ l, (f x).size ≤ 300) → (catL f l).length ≤ l.length * 300
  | [], _ => by simp [catL]
  | x :: l, h => by
    have ih := cat_len f l (fun y hy => h y (List.mem_cons_of_mem _ hy))
    have hx := h x List.mem_cons_self
    have e := baLen (f x)
    unfold catL at ih ⊢
    rw [List.flatMap_cons, List.length_append, e, List.length_cons]
    omega
theorem cat_take {α : Type} (f : α → ByteArray) (l : List α) (n : Nat) (h : ∀ x ∈ l, (f x).size ≤ 300) : (catL f (l.take n)).length ≤ l.length * 300 := by
  have := cat_len f (l.take n) (fun x hx => h x (List.mem_of_mem_take hx))
  have h2 : (l.take n).length ≤ l.length := List.length_take_le' n l
  exact Nat.le_trans this (Nat.mul_le_mul_right 300 h2)
theorem cat_next {α : Type} (f : α → ByteArray) (l : List α) (z : α) (i : Int) (h0 : 0 ≤ i) (h1 : i < l.length) : catL f (l.take (i + 1).toNat) = catL f (l.take i.toNat) ++ (f (l.getD i.toNat z)).data.toList := by
  have hn : i.toNat < l.length := by omega
  have e : (i + 1).toNat = i.toNat + 1 := by omega
  unfold catL
  rw [e, List.take_succ_eq_append_getElem hn, List.flatMap_append, List.getD_eq_getElem?_getD, List.getElem?_eq_getElem hn]
  simp
theorem len2 {p : Int} {l1 : List S112} {q : List S115} {n2 : Nat} (h0 : (perB p).size ≤ 29) (h1 : (catL inB l1).length ≤ l1.length * 300) (k1 : l1.length ≤ 128) (h2 : (catL outB q).length ≤ n2 * 300) (k2 : n2 ≤ 128) :
    (((perB p).data.toList ++ catL inB l1) ++ catL outB q).length ≤ 100000 := by
  rw [List.length_append, List.length_append, baLen]
  omega
theorem len3 {p : Int} {l1 : List S112} {l2 : List S115} {q : List S117} {n3 : Nat} (h0 : (perB p).size ≤ 29) (h1 : (catL inB l1).length ≤ l1.length * 300) (k1 : l1.length ≤ 128) (h2 : (catL outB l2).length ≤ l2.length * 300) (k2 : l2.length ≤ 128) (h3 : (catL pathB q).length ≤ n3 * 300) (k3 : n3 ≤ 64) :
    ((((perB p).data.toList ++ catL inB l1) ++ catL outB l2) ++ catL pathB q).length ≤ 100000 := by
  rw [List.length_append, List.length_append, List.length_append, baLen]
  omega
theorem ne_b {T e : TypeId} {B b g : Nat} {bs : List Value} {w : World} (h : Lib.IsBuilderF T e B b bs w) (hg : w.heap.size ≤ g) : some g ≠ some b := by
  have hb : b < w.heap.size := h.elim (fun x => x.lt) (fun x => x.lt)
  intro he
  have := Option.some.inj he
  omega

set_option maxHeartbeats 4000000 in
set_option maxRecDepth 100000 in
theorem write_calls (lim p : Int) (A1 : Option Addr) (c1 : Nat) (l1 : List S112) (A2 : Option Addr) (c2 : Nat) (l2 : List S115) (A3 : Option Addr) (c3 : Nat) (l3 : List S117) (w : World)
    (hr1 : Kd.C k112 w A1 l1.length l1) (hc1 : l1.length ≤ c1) (hr2 : Kd.C k115 w A2 l2.length l2) (hc2 : l2.length ≤ c2) (hr3 : Kd.C k117 w A3 l3.length l3) (hc3 : l3.length ≤ c3)
    (hL : okL w.heap.size w lim) (hp : okN lim p) (h1 : okI lim l1) (h2 : okO lim l2) (h3 : okP lim l3) :
    Calls Tryd.prog 76 #[.agg #[.int .i64 p, .slice A1 l1.length c1, .slice A2 l2.length c2, .slice A3 l3.length c3]] w fun e w' => e = .returned (.string ⟨(wrL p l1 l2 l3).toArray⟩) ∧ Below w.heap.size w w' := by
  have hu26 := Tryd.underlying72
  have HR1 := Aside0.mk hr1
  have HR2 := Aside0.mk hr2
  have HR3 := Aside0.mk hr3
  have HL := Aside0.mk hL
  have HP := Aside0.mk hp
  have H1 := Aside0.mk h1
  have H2 := Aside0.mk h2
  have H3 := Aside0.mk h3
  clear hr1 hr2 hr3 hL hp h1 h2 h3
  have k1 : l1.length ≤ 128 := H1.out.1
  have k2 : l2.length ≤ 128 := H2.out.1
  have k3 : l3.length ≤ 64 := H3.out.1
  have HB := Aside0.mk (Below.refl w.heap.size w)
  have NP := Aside0.mk (okL_lt HL.out HP.out)
  have IP := Aside0.mk (itB_size p NP.out.1 NP.out.2)
  have e1 : (9223372036854775807 < 7 + (itB p).size) = False := eq_false (by have := IP.out; omega)
  have e2 : (9223372036854775807 < 7 + (itB p).size + 1) = False := eq_false (by have := IP.out; omega)
  have HW1 := Aside0.mk (below_alloc (below_alloc HB.out (.cells #[.int .i64 p, .slice A1 l1.length c1, .slice A2 l2.length c2, .slice A3 l3.length c3] 72)) (.cells #[.pointer none, .slice none 0 0] 137))
  have BX1 := Aside0.mk (blk_alloc (blk_new w (.cells #[.int .i64 p, .slice A1 l1.length c1, .slice A2 l2.length c2, .slice A3 l3.length c3] 72)) (.cells #[.pointer none, .slice none 0 0] 137))
  have BD1 := Aside0.mk (Lib.IsBuilderF.of (Lib.fresh_isBuilder 137 5 (w.alloc (.cells #[.int .i64 p, .slice A1 l1.length c1, .slice A2 l2.length c2, .slice A3 l3.length c3] 72))))
  have hsz : (w.alloc (.cells #[.int .i64 p, .slice A1 l1.length c1, .slice A2 l2.length c2, .slice A3 l3.length c3] 72)).heap.size = w.heap.size + 1 := by simp
  rw [hsz] at BD1
  clear hsz
  go_enter Tryd.func76, Tryd.ntmps76
  go_wp2_with fail
  refine (num_calls w.heap.size p _ (numT_of HL.out HW1.out HP.out)).mono ?_
  rintro e w1 ⟨rfl, hw1⟩
  have HW2 := Aside0.mk (below_step HW1.out hw1)
  have BX2 := Aside0.mk (blk_below BX1.out hw1)
  have BD2 := Aside0.mk (bld_below BD1.out hw1)
  clear HW1 BX1 BD1 hw1
  go_wp2_with fail
  refine (Tryd.Builder_WriteString_k (w.heap.size + 1) (w.heap.size + 1) _ _ _ BD2.out ?hlen (blk_lt BX2.out)).mono ?_
  case hlen => have := (perSz p NP.out.1 NP.out.2); unfold perB at this; simp only [List.length_nil]; omega
  rintro e w2 ⟨rfl, hb2, hw2, _⟩
  have HW3 := Aside0.mk (HW2.out.trans (hw2.mono (Nat.le_succ _)))
  have BX3 := Aside0.mk ((hw2.block w.heap.size (Nat.lt_succ_self _)).trans BX2.out)
  have BD3 : Aside0 (Lib.IsBuilderF 137 5 (w.heap.size + 1) (w.heap.size + 1) (Lib.byteCells (perB p).data.toList) w2) := ⟨by rw [List.nil_append, Lib.strCells_eq] at hb2; exact Or.inr hb2⟩
  clear HW2 BX2 BD2 hb2 hw2
  have d0 : w2.cell? ⟨w.heap.size, 1, none⟩ = some (.slice A1 l1.length c1) := by rw [Lib.cell_of_heap BX3.out]; rfl
  go_wp2_with fail
  go_loopw [22] (fun v wr => ∃ i : Int, 0 ≤ i ∧ i ≤ l1.length ∧ v = .int .i64 i ∧ Aside0 (Below w.heap.size w wr) ∧ Aside0 (wr.heap[w.heap.size]? = some (.cells #[.int .i64 p, .slice A1 l1.length c1, .slice A2 l2.length c2, .slice A3 l3.length c3] 72 (0, 0))) ∧ Aside0 (Lib.IsBuilderF 137 5 (w.heap.size + 1) (w.heap.size + 1) (Lib.byteCells ((perB p).data.toList ++ catL inB (l1.take i.toNat))) wr)) (fun v _ => (l1.length - (intOf v).toNat))
  case atStart => exact ⟨0, by omega, by omega, rfl, HW3, BX3, ⟨by simpa [catL] using BD3.out⟩⟩
  case round =>
    clear HW3 BX3 BD3 d0
    obtain ⟨i, h0, h1, rfl, HW4, BX4, BD4⟩ := hrel
    by_cases hlt : i < l1.length
    · obtain ⟨ad, rfl, d0, d1, d2⟩ := at_T112 (Kd.C_below HR1.out HW4.out) i h0 hlt
      have e1 : decide (i < (l1.length : Int)) = true := decide_eq_true hlt
      have hx := Aside0.mk (H1.out.2 (rd_T112 l1 i) (rd_mem l1 z112 i h0 hlt))
      have hn := Aside0.mk (cat_next inB l1 z112 i h0 hlt)
      have hz := Aside0.mk (inSz HL.out _ hx.out)
      have hl := Aside0.mk (cat_take inB l1 i.toNat (fun y hy => inSz HL.out y (H1.out.2 y hy)))
      have hlen : ((perB p).data.toList ++ catL inB (l1.take i.toNat)).length ≤ 100000 := by
        have a := perSz p NP.out.1 NP.out.2
        have e := baLen (perB p)
        have b := hl.out
        have c := H1.out.1
        rw [List.length_append, e]
        omega
      have HLEN := Aside0.mk hlen
      clear hl hlen
      change Aside0 (_ = _ ++ (inB (rd_T112 l1 i)).data.toList) at hn
      have NB := Aside0.mk (ne_b BD4.out (Nat.le_refl _))
      generalize rd_T112 l1 i = x at *
      have nlo := okL_lt HL.out hx.out.2.1
      have nhi := okL_lt HL.out hx.out.2.2
      have s0 := hx.out.1
      have slo := itB_size x.f1.f0 nlo.1 nlo.2
      have shi := itB_size x.f1.f1 nhi.1 nhi.2
      have q1 : (9223372036854775807 < 6 + x.f0.size) = False := eq_false (by omega)
      have q2 : (9223372036854775807 < 6 + x.f0.size + 1) = False := eq_false (by omega)
      have q3 : (9223372036854775807 < 6 + x.f0.size + 1 + (itB x.f1.f0).size) = False := eq_false (by omega)
      have q4 : (9223372036854775807 < 6 + x.f0.size + 1 + (itB x.f1.f0).size + 1) = False := eq_false (by omega)
      have q5 : (9223372036854775807 < 6 + x.f0.size + 1 + (itB x.f1.f0).size + 1 + (itB x.f1.f1).size) = False := eq_false (by omega)
      have q6 : (9223372036854775807 < 6 + x.f0.size + 1 + (itB x.f1.f0).size + 1 + (itB x.f1.f1).size + 1) = False := eq_false (by omega)
      have SZ := Aside0.mk (And.intro s0 (And.intro slo shi))
      clear nlo nhi s0 slo shi
      have X0 := Aside0.mk (blk_drew (blk_new wr (.cells #[.string x.f0, .int .i64 x.f1.f0, .int .i64 x.f1.f1] 112)))
      have HW5 := Aside0.mk (below_drew1 (below_alloc HW4.out (.cells #[.string x.f0, .int .i64 x.f1.f0, .int .i64 x.f1.f1] 112)))
      have BX5 := Aside0.mk (blk_drew (blk_alloc BX4.out (.cells #[.string x.f0, .int .i64 x.f1.f0, .int .i64 x.f1.f1] 112)))
      have BD5 := Aside0.mk (bld_drew (BD4.out.alloc (.cells #[.string x.f0, .int .i64 x.f1.f0, .int .i64 x.f1.f1] 112)))
      clear HW4 BX4 BD4
      go_wp2_with fail
      go_region_held3 (fun w' => w'.cell? ⟨wr.heap.size, 0, none⟩ = some (.string x.f0) ∧ w'.cell? ⟨wr.heap.size, 1, none⟩ = some (.int .i64 x.f1.f0) ∧ w'.cell? ⟨wr.heap.size, 2, none⟩ = some (.int .i64 x.f1.f1))
        (first | exact cells3 XC.out | exact cells3 XB.out | exact cells3 XA.out | exact cells3 X0.out)
        (first
          | (go_at_call 80; have q := HWA; refine (num_calls w.heap.size x.f1.f1 _ (numT_of HL.out q.out hx.out.2.2)).mono ?_; rintro e w2 ⟨rfl, hw⟩; have HWB := Aside0.mk (below_step HWA.out hw); have XB := Aside0.mk (blk_below XA.out hw); have BXB := Aside0.mk (blk_below BXA.out hw); have BDB := Aside0.mk (bld_below BDA.out hw))
          | (go_at_call 80; refine (num_calls w.heap.size x.f1.f0 _ (numT_of HL.out HW5.out hx.out.2.1)).mono ?_; rintro e w1 ⟨rfl, hw⟩; have HWA := Aside0.mk (below_step HW5.out hw); have XA := Aside0.mk (blk_below X0.out hw); have BXA := Aside0.mk (blk_below BX5.out hw); have BDA := Aside0.mk (bld_below BD5.out hw))
          | (go_at_call 82; refine (Tryd.Builder_WriteString_k (w.heap.size + 1) (w.heap.size + 1) _ (inB x) _ BDB.out (by rw [Lib.byteCells_length]; have := HLEN.out; have := hz.out; omega) (blk_lt BXB.out)).mono ?_; rintro e w3 ⟨rfl, hb, hw, hk⟩; have HWC := Aside0.mk (HWB.out.trans (hw.mono (Nat.le_succ _))); have BXC := Aside0.mk ((hw.block w.heap.size (Nat.lt_succ_self _)).trans BXB.out); have BDC := Aside0.mk (bld_at rfl hb); have XC := Aside0.mk (hk _ _ XB.out NB.out (fun c fz h => by simp at h))))
      go_wp2
      go_roundw
      case rel => exact ⟨i + 1, by omega, by omega, by go_num, HWC, BXC, ⟨by rw [hn.out, ← List.append_assoc]; exact BDC.out⟩⟩
      case measure => simp [intOf]; omega
    · have e1 : decide (i < (l1.length : Int)) = false := decide_eq_false hlt
      have hi : l1.take i.toNat = l1 := List.take_of_length_le (by omega)
      rw [hi] at BD4
      clear hi
      have d0 : wr.cell? ⟨w.heap.size, 2, none⟩ = some (.slice A2 l2.length c2) := by rw [Lib.cell_of_heap BX4.out]; rfl
      go_wp2_with fail
      go_loopw [49] (fun v wr => ∃ i : Int, 0 ≤ i ∧ i ≤ l2.length ∧ v = .int .i64 i ∧ Aside0 (Below w.heap.size w wr) ∧ Aside0 (wr.heap[w.heap.size]? = some (.cells #[.int .i64 p, .slice A1 l1.length c1, .slice A2 l2.length c2, .slice A3 l3.length c3] 72 (0, 0))) ∧ Aside0 (Lib.IsBuilderF 137 5 (w.heap.size + 1) (w.heap.size + 1) (Lib.byteCells (((perB p).data.toList ++ catL inB l1) ++ catL outB (l2.take i.toNat))) wr)) (fun v _ => (l2.length - (intOf v).toNat))
      case atStart => exact ⟨0, by omega, by omega, rfl, HW4, BX4, ⟨by simpa [catL] using BD4.out⟩⟩
      case round =>
        clear HW4 BX4 BD4 d0 e1 hlt h0 h1
        obtain ⟨i, h0, h1, rfl, HW4, BX4, BD4⟩ := hrel
        by_cases hlt : i < l2.length
        · obtain ⟨ad, rfl, d0, d1⟩ := at_T115 (Kd.C_below HR2.out HW4.out) i h0 hlt
          have e1 : decide (i < (l2.length : Int)) = true := decide_eq_true hlt
          have hx := Aside0.mk (H2.out.2 (rd_T115 l2 i) (rd_mem l2 z115 i h0 hlt))
          have hn := Aside0.mk (cat_next outB l2 z115 i h0 hlt)
          have hz := Aside0.mk (outSz HL.out _ hx.out)
          have HLEN := Aside0.mk (len2 (perSz p NP.out.1 NP.out.2) (cat_len inB l1 (fun y hy => inSz HL.out y (H1.out.2 y hy))) k1 (cat_take outB l2 i.toNat (fun y hy => outSz HL.out y (H2.out.2 y hy))) k2)
          change Aside0 (_ = _ ++ (outB (rd_T115 l2 i)).data.toList) at hn
          have NB := Aside0.mk (ne_b BD4.out (Nat.le_refl _))
          generalize rd_T115 l2 i = x at *
          have nlo := okL_lt HL.out hx.out.2
          have s0 := hx.out.1
          have slo := itB_size x.f1 nlo.1 nlo.2
          have q1 : (9223372036854775807 < 7 + x.f0.size) = False := eq_false (by omega)
          have q2 : (9223372036854775807 < 7 + x.f0.size + 1) = False := eq_false (by omega)
          have q3 : (9223372036854775807 < 7 + x.f0.size + 1 + (itB x.f1).size) = False := eq_false (by omega)
          have q4 : (9223372036854775807 < 7 + x.f0.size + 1 + (itB x.f1).size + 1) = False := eq_false (by omega)
          clear nlo s0 slo
          have X0 := Aside0.mk (blk_drew (blk_new wr (.cells #[.string x.f0, .int .i64 x.f1] 115)))
          have HW5 := Aside0.mk (below_drew1 (below_alloc HW4.out (.cells #[.string x.f0, .int .i64 x.f1] 115)))
          have BX5 := Aside0.mk (blk_drew (blk_alloc BX4.out (.cells #[.string x.f0, .int .i64 x.f1] 115)))
          have BD5 := Aside0.mk (bld_drew (BD4.out.alloc (.cells #[.string x.f0, .int .i64 x.f1] 115)))
          clear HW4 BX4 BD4
          go_wp2_with fail
          go_region_held3 (fun w' => w'.cell? ⟨wr.heap.size, 0, none⟩ = some (.string x.f0) ∧ w'.cell? ⟨wr.heap.size, 1, none⟩ = some (.int .i64 x.f1))
            (first | exact cells2 XC.out | exact cells2 XA.out | exact cells2 X0.out)
            (first
              | (go_at_call 80; refine (num_calls w.heap.size x.f1 _ (numT_of HL.out HW5.out hx.out.2)).mono ?_; rintro e w1 ⟨rfl, hw⟩; have HWA := Aside0.mk (below_step HW5.out hw); have XA := Aside0.mk (blk_below X0.out hw); have BXA := Aside0.mk (blk_below BX5.out hw); have BDA := Aside0.mk (bld_below BD5.out hw))
              | (go_at_call 82; refine (Tryd.Builder_WriteString_k (w.heap.size + 1) (w.heap.size + 1) _ (outB x) _ BDA.out (by rw [Lib.byteCells_length]; have := HLEN.out; have := hz.out; omega) (blk_lt BXA.out)).mono ?_; rintro e w3 ⟨rfl, hb, hw, hk⟩; have HWC := Aside0.mk (HWA.out.trans (hw.mono (Nat.le_succ _))); have BXC := Aside0.mk ((hw.block w.heap.size (Nat.lt_succ_self _)).trans BXA.out); have BDC := Aside0.mk (bld_at rfl hb); have XC := Aside0.mk (hk _ _ XA.out NB.out (fun c fz h => by simp at h))))
          go_wp2
          go_roundw
          case rel => exact ⟨i + 1, by omega, by omega, by go_num, HWC, BXC, ⟨by rw [hn.out, ← List.append_assoc]; exact BDC.out⟩⟩
          case measure => simp [intOf]; omega
        · have e1 : decide (i < (l2.length : Int)) = false := decide_eq_false hlt
          have hi : l2.take i.toNat = l2 := List.take_of_length_le (by omega)
          rw [hi] at BD4
          clear hi
          have d0 : wr.cell? ⟨w.heap.size, 3, none⟩ = some (.slice A3 l3.length c3) := by rw [Lib.cell_of_heap BX4.out]; rfl
          go_wp2_with fail
          go_loopw [68] (fun v wr => ∃ i : Int, 0 ≤ i ∧ i ≤ l3.length ∧ v = .int .i64 i ∧ Aside0 (Below w.heap.size w wr) ∧ Aside0 (wr.heap[w.heap.size]? = some (.cells #[.int .i64 p, .slice A1 l1.length c1, .slice A2 l2.length c2, .slice A3 l3.length c3] 72 (0, 0))) ∧ Aside0 (Lib.IsBuilderF 137 5 (w.heap.size + 1) (w.heap.size + 1) (Lib.byteCells ((((perB p).data.toList ++ catL inB l1) ++ catL outB l2) ++ catL pathB (l3.take i.toNat))) wr)) (fun v _ => (l3.length - (intOf v).toNat))
          case atStart => exact ⟨0, by omega, by omega, rfl, HW4, BX4, ⟨by simpa [catL] using BD4.out⟩⟩
          case round =>
            clear HW4 BX4 BD4 d0 e1 hlt h0 h1
            obtain ⟨i, h0, h1, rfl, HW4, BX4, BD4⟩ := hrel
            by_cases hlt : i < l3.length
            · obtain ⟨ad, rfl, d0, d1, d2⟩ := at_T117 (Kd.C_below HR3.out HW4.out) i h0 hlt
              have e1 : decide (i < (l3.length : Int)) = true := decide_eq_true hlt
              have hx := Aside0.mk (H3.out.2 (rd_T117 l3 i) (rd_mem l3 z117 i h0 hlt))
              have hn := Aside0.mk (cat_next pathB l3 z117 i h0 hlt)
              have hz := Aside0.mk (pathSz HL.out _ hx.out)
              have HLEN := Aside0.mk (len3 (perSz p NP.out.1 NP.out.2) (cat_len inB l1 (fun y hy => inSz HL.out y (H1.out.2 y hy))) k1 (cat_len outB l2 (fun y hy => outSz HL.out y (H2.out.2 y hy))) k2 (cat_take pathB l3 i.toNat (fun y hy => pathSz HL.out y (H3.out.2 y hy))) k3)
              change Aside0 (_ = _ ++ (pathB (rd_T117 l3 i)).data.toList) at hn
              have NB := Aside0.mk (ne_b BD4.out (Nat.le_refl _))
              generalize rd_T117 l3 i = x at *
              have nlo := okL_lt HL.out hx.out.2.2
              have s0 := whomB_size _ hx.out.1
              have s1 := whomB_size _ hx.out.2.1
              have slo := itB_size x.f2 nlo.1 nlo.2
              have W0 := Aside0.mk (show x.f0.size ≤ 1000000 by have := hx.out.1; omega)
              have W1 := Aside0.mk (show x.f1.size ≤ 1000000 by have := hx.out.2.1; omega)
              have X0 := Aside0.mk (blk_drew (blk_new wr (.cells #[.string x.f0, .string x.f1, .int .i64 x.f2] 117)))
              have HW5 := Aside0.mk (below_drew1 (below_alloc HW4.out (.cells #[.string x.f0, .string x.f1, .int .i64 x.f2] 117)))
              have BX5 := Aside0.mk (blk_drew (blk_alloc BX4.out (.cells #[.string x.f0, .string x.f1, .int .i64 x.f2] 117)))
              have BD5 := Aside0.mk (bld_drew (BD4.out.alloc (.cells #[.string x.f0, .string x.f1, .int .i64 x.f2] 117)))
              clear HW4 BX4 BD4
              by_cases h2z : x.f2 = 0
              · have e2 : (x.f2 == 0) = true := beq_iff_eq.mpr h2z
                have PB := Aside0.mk (show pathB x = _ from if_pos h2z)
                clear h2z
                have q1 : (9223372036854775807 < 6 + (whomB x.f0).size) = False := eq_false (by omega)
                have q2 : (9223372036854775807 < 6 + (whomB x.f0).size + 1) = False := eq_false (by omega)
                have q3 : (9223372036854775807 < 6 + (whomB x.f0).size + 1 + (whomB x.f1).size) = False := eq_false (by omega)
                have q4 : (9223372036854775807 < 6 + (whomB x.f0).size + 1 + (whomB x.f1).size + 1) = False := eq_false (by omega)
                rw [PB.out] at hn hz
                clear nlo s0 s1 slo
                go_wp2_with fail
                go_region_held3 (fun w' => w'.cell? ⟨wr.heap.size, 0, none⟩ = some (.string x.f0) ∧ w'.cell? ⟨wr.heap.size, 1, none⟩ = some (.string x.f1) ∧ w'.cell? ⟨wr.heap.size, 2, none⟩ = some (.int .i64 x.f2))
                  (first | exact cells3 XC.out | exact cells3 XB.out | exact cells3 XA.out | exact cells3 X0.out)
                  (first
                    | (go_at_call 83; have q := HWA; refine (all_calls x.f1 _ W1.out).mono ?_; rintro e w2 ⟨rfl, hw⟩; have HWB := Aside0.mk (below_step HWA.out hw); have XB := Aside0.mk (blk_below XA.out hw); have BXB := Aside0.mk (blk_below BXA.out hw); have BDB := Aside0.mk (bld_below BDA.out hw))
                    | (go_at_call 83; refine (all_calls x.f0 _ W0.out).mono ?_; rintro e w1 ⟨rfl, hw⟩; have HWA := Aside0.mk (below_step HW5.out hw); have XA := Aside0.mk (blk_below X0.out hw); have BXA := Aside0.mk (blk_below BX5.out hw); have BDA := Aside0.mk (bld_below BD5.out hw))
                    | (go_at_call 82; refine (Tryd.Builder_WriteString_k (w.heap.size + 1) (w.heap.size + 1) _ _ _ BDB.out (by rw [Lib.byteCells_length]; have := HLEN.out; have := hz.out; omega) (blk_lt BXB.out)).mono ?_; rintro e w3 ⟨rfl, hb, hw, hk⟩; have HWC := Aside0.mk (HWB.out.trans (hw.mono (Nat.le_succ _))); have BXC := Aside0.mk ((hw.block w.heap.size (Nat.lt_succ_self _)).trans BXB.out); have BDC := Aside0.mk (bld_at rfl hb); have XC := Aside0.mk (hk _ _ XB.out NB.out (fun c fz h => by simp at h))))
                go_wp2
                go_roundw
                case rel => exact ⟨i + 1, by omega, by omega, by go_num, HWC, BXC, ⟨by rw [hn.out, ← List.append_assoc]; exact BDC.out⟩⟩
                case measure => simp [intOf]; omega
              · have e2 : (x.f2 == 0) = false := beq_eq_false_iff_ne.mpr h2z
                have PB := Aside0.mk (show pathB x = _ from if_neg h2z)
                clear h2z
                have q1 : (9223372036854775807 < 6 + (itB x.f2).size) = False := eq_false (by omega)
                have q2 : (9223372036854775807 < 6 + (itB x.f2).size + 1) = False := eq_false (by omega)
                have q3 : (9223372036854775807 < 6 + (itB x.f2).size + 1 + (whomB x.f0).size) = False := eq_false (by omega)
                have q4 : (9223372036854775807 < 6 + (itB x.f2).size + 1 + (whomB x.f0).size + 1) = False := eq_false (by omega)
                have q5 : (9223372036854775807 < 6 + (itB x.f2).size + 1 + (whomB x.f0).size + 1 + (whomB x.f1).size) = False := eq_false (by omega)
                have q6 : (9223372036854775807 < 6 + (itB x.f2).size + 1 + (whomB x.f0).size + 1 + (whomB x.f1).size + 1) = False := eq_false (by omega)
                rw [PB.out] at hn hz
                clear nlo s0 s1 slo
                go_wp2_with fail
                go_region_held3 (fun w' => w'.cell? ⟨wr.heap.size, 0, none⟩ = some (.string x.f0) ∧ w'.cell? ⟨wr.heap.size, 1, none⟩ = some (.string x.f1) ∧ w'.cell? ⟨wr.heap.size, 2, none⟩ = some (.int .i64 x.f2))
                  (first | exact cells3 XC.out | exact cells3 XB.out | exact cells3 XA.out | exact cells3 XN.out | exact cells3 X0.out)
                  (first
                    | (go_at_call 80; refine (num_calls w.heap.size x.f2 _ (numT_of HL.out HW5.out hx.out.2.2)).mono ?_; rintro e w0 ⟨rfl, hw⟩; have HWN := Aside0.mk (below_step HW5.out hw); have XN := Aside0.mk (blk_below X0.out hw); have BXN := Aside0.mk (blk_below BX5.out hw); have BDN := Aside0.mk (bld_below BD5.out hw))
                    | (go_at_call 83; have q := HWA; refine (all_calls x.f1 _ W1.out).mono ?_; rintro e w2 ⟨rfl, hw⟩; have HWB := Aside0.mk (below_step HWA.out hw); have XB := Aside0.mk (blk_below XA.out hw); have BXB := Aside0.mk (blk_below BXA.out hw); have BDB := Aside0.mk (bld_below BDA.out hw))
                    | (go_at_call 83; refine (all_calls x.f0 _ W0.out).mono ?_; rintro e w1 ⟨rfl, hw⟩; have HWA := Aside0.mk (below_step HWN.out hw); have XA := Aside0.mk (blk_below XN.out hw); have BXA := Aside0.mk (blk_below BXN.out hw); have BDA := Aside0.mk (bld_below BDN.out hw))
                    | (go_at_call 82; refine (Tryd.Builder_WriteString_k (w.heap.size + 1) (w.heap.size + 1) _ _ _ BDB.out (by rw [Lib.byteCells_length]; have := HLEN.out; have := hz.out; omega) (blk_lt BXB.out)).mono ?_; rintro e w3 ⟨rfl, hb, hw, hk⟩; have HWC := Aside0.mk (HWB.out.trans (hw.mono (Nat.le_succ _))); have BXC := Aside0.mk ((hw.block w.heap.size (Nat.lt_succ_self _)).trans BXB.out); have BDC := Aside0.mk (bld_at rfl hb); have XC := Aside0.mk (hk _ _ XB.out NB.out (fun c fz h => by simp at h))))
                go_wp2
                go_roundw
                case rel => exact ⟨i + 1, by omega, by omega, by go_num, HWC, BXC, ⟨by rw [hn.out, ← List.append_assoc]; exact BDC.out⟩⟩
                case measure => simp [intOf]; omega
            · have e1 : decide (i < (l3.length : Int)) = false := decide_eq_false hlt
              have hi : l3.take i.toNat = l3 := List.take_of_length_le (by omega)
              rw [hi] at BD4
              clear hi
              go_wp2_with fail
              refine (Tryd.Builder_String_any_k (w.heap.size + 1) (w.heap.size + 1) _ _ BD4.out (blk_lt BX4.out)).mono ?_
              rintro e w3 ⟨rfl, _, hw, _⟩
              have HWC := Aside0.mk (HW4.out.trans (hw.mono (Nat.le_succ _)))
              clear hw
              go_wp2
              go_ret
              exact ⟨by unfold wrL; simp only [List.append_assoc]; rfl, HWC.out⟩
end Go.Proofs.YtpkpmdmmnhmnlaaDoor.PT
namespace Go.Proofs.YtpkpmdmmnhmnlaaDoor.PT
open Go.Sort Go.RowKit Go.Proofs.YtpkpmdmmnhmnlaaDoorW.PrintWords Go.Proofs.YtpkpmdmmnhmnlaaDoorW.PrintLast Go.Proofs.YtpkpmdmmnhmnlaaDoorW.PrintMore
set_option linter.unusedVariables false
set_option linter.unusedSimpArgs false
abbrev In112 := S112
def nmq112 (nm : ByteArray) (d : S112) : Bool := d.f0.toList == nm.toList
set_option maxHeartbeats 1000000 in
set_option maxRecDepth 100000 in
theorem clo112 (x : S112) (g : Nat) (nm : ByteArray) (w : World) (hg : w.cell? ⟨g, 0, none⟩ = some (.string nm)) (hl : g < w.heap.size) :
    Calls Tryd.prog 73 #[.agg #[.string x.f0, .int .i64 x.f1.f0, .int .i64 x.f1.f1], .pointer (some ⟨g, 0, none⟩)] w fun e w' => e = .returned (.bool (nmq112 nm x)) ∧ Below w.heap.size w w' := by
  have HB := Aside0.mk (below_alloc (Below.refl w.heap.size w) (.cells #[.string x.f0, .int .i64 x.f1.f0, .int .i64 x.f1.f1] 112))
  go_enter Tryd.func73, Tryd.ntmps73
  go_wp2
  go_ret
  exact ⟨rfl, HB.out⟩
set_option maxHeartbeats 1000000 in
set_option maxRecDepth 100000 in
theorem idx112 (A0 : Option Addr) (c0 : Nat) (l : List S112) (g : Nat) (nm : ByteArray) (w : World) (hr : Kd.C k112 w A0 l.length l) (hg : w.cell? ⟨g, 0, none⟩ = some (.string nm)) (hl : g < w.heap.size) :
    Calls Tryd.prog 78 #[.slice A0 l.length c0, .func (.func 73) #[] #[.pointer (some ⟨g, 0, none⟩)]] w fun e w' => (∃ i : Int, e = .returned (.int .i64 i) ∧ decide (0 ≤ i) = l.any (nmq112 nm)) ∧ Below w.heap.size w w' := by
  have h63 : l.length ≤ 9223372036854775807 := hr.2.1
  have HR := Aside0.mk hr
  have HG := Aside0.mk hg
  clear hr hg
  go_enter Tryd.func78, Tryd.ntmps78
  go_wp2
  go_loopw [8] (fun v wr => ∃ i : Int, 0 ≤ i ∧ i ≤ l.length ∧ v = .int .i64 i ∧ Aside0 (Below w.heap.size w wr) ∧ Aside0 (l.any (nmq112 nm) = (l.drop i.toNat).any (nmq112 nm))) (fun v _ => (l.length - (intOf v).toNat))
  case atStart => exact ⟨0, by omega, by omega, rfl, ⟨Below.refl _ _⟩, ⟨by simp⟩⟩
  case round =>
    obtain ⟨i, h0, h1, rfl, hb, ha⟩ := hrel
    by_cases hlt : i < l.length
    · obtain ⟨ad, rfl, d0, d1, d2⟩ := at_T112 (Kd.C_below HR.out hb.out) i h0 hlt
      have HG1 := Aside0.mk ((hb.out.cell (p := ⟨g, 0, none⟩) hl).trans HG.out)
      have HL1 := Aside0.mk (show g < wr.heap.size from Nat.lt_of_lt_of_le hl hb.out.size)
      go_wp2_with fail
      refine (clo112 (rd_T112 l i) g nm _ HG1.out HL1.out).mono ?_
      rintro e w1 ⟨rfl, hw1⟩
      clear d0 d1 d2
      have hb1 := Aside0.mk (below_step hb.out hw1)
      clear hw1 hb HG1 HL1
      have hdrop : l.drop i.toNat = rd_T112 l i :: l.drop (i.toNat + 1) := by
        unfold rd_T112
        have hn : i.toNat < l.length := by omega
        rw [List.getD_eq_getElem?_getD, List.getElem?_eq_getElem hn]
        exact List.drop_eq_getElem_cons hn
      have hany : l.any (nmq112 nm) = (nmq112 nm (rd_T112 l i) || (l.drop (i.toNat + 1)).any (nmq112 nm)) := by rw [ha.out, hdrop, List.any_cons]
      clear hdrop ha
      cases hbv : nmq112 nm (rd_T112 l i) with
      | true =>
        have hA := Aside0.mk (show l.any (nmq112 nm) = true by rw [hany, hbv]; rfl)
        clear hany hbv
        go_wp2
        go_ret
        exact ⟨⟨i, rfl, by rw [hA.out]; exact decide_eq_true h0⟩, hb1.out⟩
      | false =>
        have hA := Aside0.mk (show l.any (nmq112 nm) = (l.drop (i + 1).toNat).any (nmq112 nm) by rw [hany, hbv, Bool.false_or, show (i + 1).toNat = i.toNat + 1 by omega])
        clear hany hbv
        go_wp2
        go_roundw
        case rel => exact ⟨i + 1, by omega, by omega, by go_num, hb1, hA⟩
        case measure => simp [intOf]; omega
    · have hend : i.toNat = l.length := by omega
      have hA := Aside0.mk (show l.any (nmq112 nm) = false by rw [ha.out, hend, List.drop_length]; rfl)
      clear ha hend
      go_wp2
      go_ret
      exact ⟨⟨-1, rfl, by rw [hA.out]; rfl⟩, hb.out⟩
set_option maxHeartbeats 1000000 in
set_option maxRecDepth 100000 in
theorem has112 (A0 : Option Addr) (c0 : Nat) (l : List S112) (g : Nat) (nm : ByteArray) (w : World) (hr : Kd.C k112 w A0 l.length l) (hg : w.cell? ⟨g, 0, none⟩ = some (.string nm)) (hl : g < w.heap.size) :
    Calls Tryd.prog 72 #[.slice A0 l.length c0, .func (.func 73) #[] #[.pointer (some ⟨g, 0, none⟩)]] w fun e w' => e = .returned (.bool (l.any (nmq112 nm))) ∧ Below w.heap.size w w' := by
  go_enter Tryd.func72, Tryd.ntmps72
  go_wp2_with fail
  refine (idx112 A0 c0 l g nm w hr hg hl).mono ?_
  rintro e w1 ⟨⟨i, rfl, hi⟩, hb⟩
  have H := Aside0.mk hi
  clear hi
  go_wp2
  go_ret
  exact ⟨by first | (rw [H.out]; rfl) | (rw [← H.out]; rfl), hb⟩
abbrev In115 := S115
def nmq115 (nm : ByteArray) (d : S115) : Bool := d.f0.toList == nm.toList
set_option maxHeartbeats 1000000 in
set_option maxRecDepth 100000 in
theorem clo115 (x : S115) (g : Nat) (nm : ByteArray) (w : World) (hg : w.cell? ⟨g, 0, none⟩ = some (.string nm)) (hl : g < w.heap.size) :
    Calls Tryd.prog 75 #[.agg #[.string x.f0, .int .i64 x.f1], .pointer (some ⟨g, 0, none⟩)] w fun e w' => e = .returned (.bool (nmq115 nm x)) ∧ Below w.heap.size w w' := by
  have HB := Aside0.mk (below_alloc (Below.refl w.heap.size w) (.cells #[.string x.f0, .int .i64 x.f1] 115))
  go_enter Tryd.func75, Tryd.ntmps75
  go_wp2
  go_ret
  exact ⟨rfl, HB.out⟩
set_option maxHeartbeats 1000000 in
set_option maxRecDepth 100000 in
theorem idx115 (A0 : Option Addr) (c0 : Nat) (l : List S115) (g : Nat) (nm : ByteArray) (w : World) (hr : Kd.C k115 w A0 l.length l) (hg : w.cell? ⟨g, 0, none⟩ = some (.string nm)) (hl : g < w.heap.size) :
    Calls Tryd.prog 79 #[.slice A0 l.length c0, .func (.func 75) #[] #[.pointer (some ⟨g, 0, none⟩)]] w fun e w' => (∃ i : Int, e = .returned (.int .i64 i) ∧ decide (0 ≤ i) = l.any (nmq115 nm)) ∧ Below w.heap.size w w' := by
  have h63 : l.length ≤ 9223372036854775807 := hr.2.1
  have HR := Aside0.mk hr
  have HG := Aside0.mk hg
  clear hr hg
  go_enter Tryd.func79, Tryd.ntmps79
  go_wp2
  go_loopw [8] (fun v wr => ∃ i : Int, 0 ≤ i ∧ i ≤ l.length ∧ v = .int .i64 i ∧ Aside0 (Below w.heap.size w wr) ∧ Aside0 (l.any (nmq115 nm) = (l.drop i.toNat).any (nmq115 nm))) (fun v _ => (l.length - (intOf v).toNat))
  case atStart => exact ⟨0, by omega, by omega, rfl, ⟨Below.refl _ _⟩, ⟨by simp⟩⟩
  case round =>
    obtain ⟨i, h0, h1, rfl, hb, ha⟩ := hrel
    by_cases hlt : i < l.length
    · obtain ⟨ad, rfl, d0, d1⟩ := at_T115 (Kd.C_below HR.out hb.out) i h0 hlt
      have HG1 := Aside0.mk ((hb.out.cell (p := ⟨g, 0, none⟩) hl).trans HG.out)
      have HL1 := Aside0.mk (show g < wr.heap.size from Nat.lt_of_lt_of_le hl hb.out.size)
      go_wp2_with fail
      refine (clo115 (rd_T115 l i) g nm _ HG1.out HL1.out).mono ?_
      rintro e w1 ⟨rfl, hw1⟩
      clear d0 d1
      have hb1 := Aside0.mk (below_step hb.out hw1)
      clear hw1 hb HG1 HL1
      have hdrop : l.drop i.toNat = rd_T115 l i :: l.drop (i.toNat + 1) := by
        unfold rd_T115
        have hn : i.toNat < l.length := by omega
        rw [List.getD_eq_getElem?_getD, List.getElem?_eq_getElem hn]
        exact List.drop_eq_getElem_cons hn
      have hany : l.any (nmq115 nm) = (nmq115 nm (rd_T115 l i) || (l.drop (i.toNat + 1)).any (nmq115 nm)) := by rw [ha.out, hdrop, List.any_cons]
      clear hdrop ha
      cases hbv : nmq115 nm (rd_T115 l i) with
      | true =>
        have hA := Aside0.mk (show l.any (nmq115 nm) = true by rw [hany, hbv]; rfl)
        clear hany hbv
        go_wp2
        go_ret
        exact ⟨⟨i, rfl, by rw [hA.out]; exact decide_eq_true h0⟩, hb1.out⟩
      | false =>
        have hA := Aside0.mk (show l.any (nmq115 nm) = (l.drop (i + 1).toNat).any (nmq115 nm) by rw [hany, hbv, Bool.false_or, show (i + 1).toNat = i.toNat + 1 by omega])
        clear hany hbv
        go_wp2
        go_roundw
        case rel => exact ⟨i + 1, by omega, by omega, by go_num, hb1, hA⟩
        case measure => simp [intOf]; omega
    · have hend : i.toNat = l.length := by omega
      have hA := Aside0.mk (show l.any (nmq115 nm) = false by rw [ha.out, hend, List.drop_length]; rfl)
      clear ha hend
      go_wp2
      go_ret
      exact ⟨⟨-1, rfl, by rw [hA.out]; rfl⟩, hb.out⟩
set_option maxHeartbeats 1000000 in
set_option maxRecDepth 100000 in
theorem has115 (A0 : Option Addr) (c0 : Nat) (l : List S115) (g : Nat) (nm : ByteArray) (w : World) (hr : Kd.C k115 w A0 l.length l) (hg : w.cell? ⟨g, 0, none⟩ = some (.string nm)) (hl : g < w.heap.size) :
    Calls Tryd.prog 74 #[.slice A0 l.length c0, .func (.func 75) #[] #[.pointer (some ⟨g, 0, none⟩)]] w fun e w' => e = .returned (.bool (l.any (nmq115 nm))) ∧ Below w.heap.size w w' := by
  go_enter Tryd.func74, Tryd.ntmps74
  go_wp2_with fail
  refine (idx115 A0 c0 l g nm w hr hg hl).mono ?_
  rintro e w1 ⟨⟨i, rfl, hi⟩, hb⟩
  have H := Aside0.mk hi
  clear hi
  go_wp2
  go_ret
  exact ⟨by first | (rw [H.out]; rfl) | (rw [← H.out]; rfl), hb⟩
end Go.Proofs.YtpkpmdmmnhmnlaaDoor.PT
namespace Go.Proofs.YtpkpmdmmnhmnlaaDoor.PT
open Go.Sort Go.RowKit Go.Proofs.YtpkpmdmmnhmnlaaDoorW.PrintWords Go.Proofs.YtpkpmdmmnhmnlaaDoorW.PrintLast Go.Proofs.YtpkpmdmmnhmnlaaDoorW.PrintMore
set_option linter.unusedVariables false
set_option linter.unusedSimpArgs false

theorem ba_loop (b : ByteArray) : ∀ (n i : Nat) (r : List UInt8), n = b.size - i → ByteArray.toList.loop b i r = r.reverse ++ b.data.toList.drop i
  | 0, i, r, h => by
    unfold ByteArray.toList.loop
    rw [if_neg (by omega), List.drop_eq_nil_of_le (by rw [Array.length_toList]; show b.size ≤ i; omega), List.append_nil]
  | n + 1, i, r, h => by
    unfold ByteArray.toList.loop
    have hi : i < b.size := by omega
    have hi2 : i < b.data.toList.length := by rw [Array.length_toList]; exact hi
    rw [if_pos hi, ba_loop b n (i + 1) _ (by omega), List.drop_eq_getElem_cons hi2]
    simp [ByteArray.get!, getElem!_pos, hi]
theorem ba_toList (b : ByteArray) : b.toList = b.data.toList := by
  unfold ByteArray.toList
  rw [ba_loop b _ 0 [] rfl]; simp
theorem ba_nil (b : ByteArray) : b.toList = [] ↔ b.size = 0 := by
  rw [ba_toList]
  constructor
  · intro h
    have := congrArg List.length h
    rw [Array.length_toList] at this
    exact this
  · intro h
    apply List.eq_nil_of_length_eq_zero
    rw [Array.length_toList]
    exact h

theorem w64' {x : Int} (h0 : -9223372036854775808 ≤ x) (h1 : x ≤ 9223372036854775807) : wrap64 x = x := by
  unfold wrap64
  omega
def chB (c : Int) : Bool := decide (33 ≤ c) && decide (c ≤ 126)
def nmB (s : ByteArray) : Bool := (List.range s.size).all (fun j => chB (bt s (j : Int))) && decide (0 < s.size) && decide (s.size ≤ 128)

theorem nm_go (s : ByteArray) (hs : s.size ≤ 4611686018427387904) : ∀ (n i : Nat), n + i = s.size → clocks_name.l0 (n + 1) s (s.size : Int) (i : Int) = some ((List.range' i n).all (fun j => chB (bt s (j : Int))) && decide (0 < s.size) && decide (s.size ≤ 128))
  | 0, i, h => by
    simp only [clocks_name.l0]
    rw [if_neg (by omega)]
    by_cases h0 : s.size = 0
    · rw [if_pos ((ba_nil s).mpr h0)]; simp [h0]
    · rw [if_neg (fun e => h0 ((ba_nil s).mp e))]
      have e1 : decide (0 < s.size) = true := decide_eq_true (by omega)
      have e2 : decide ((s.size : Int) ≤ 128) = decide (s.size ≤ 128) := decide_eq_decide.mpr (by omega)
      rw [e1, e2]; simp
  | n + 1, i, h => by
    have e : wrap64 ((i : Int) + 1) = ((i + 1 : Nat) : Int) := by
      rw [w64' (by omega) (by omega)]; omega
    have ih := nm_go s hs n (i + 1) (by omega)
    rw [clocks_name.l0, if_pos (by omega), if_pos (by omega), if_pos (by omega), e, ih, List.range'_succ, List.all_cons]
    by_cases c1 : bt s (i : Int) < 33
    · rw [if_pos c1]
      have : chB (bt s (i : Int)) = false := by unfold chB; rw [decide_eq_false (by omega)]; rfl
      rw [this]; rfl
    · rw [if_neg c1]
      by_cases c2 : bt s (i : Int) > 126
      · rw [if_pos c2]
        have : chB (bt s (i : Int)) = false := by unfold chB; rw [decide_eq_false (p := bt s (i : Int) ≤ 126) (by omega)]; simp
        rw [this]; rfl
      · rw [if_neg c2]
        have : chB (bt s (i : Int)) = true := by unfold chB; rw [decide_eq_true (by omega), decide_eq_true (by omega)]; rfl
        rw [this]; rfl
theorem nm_tot (s : ByteArray) (hs : s.size ≤ 4611686018427387904) : clocks_name.f (s.size + 1) s = some (nmB s) := by
  have := nm_go s hs s.size 0 (by omega)
  unfold clocks_name.f nmB
  rw [List.range_eq_range']
  exact this
theorem nm_size {s : ByteArray} (h : nmB s = true) : s.size ≤ 128 := by
  unfold nmB at h
  simp only [Bool.and_eq_true, decide_eq_true_eq] at h
  exact h.2
set_option maxRecDepth 10000 in
theorem nm_call (s : ByteArray) (hs : s.size ≤ 140737488355328) (w : World) : Calls Tryd.prog 71 #[.string s] w fun e w' => e = .returned (.bool (nmB s)) ∧ Below w.heap.size w w' := by
  refine (clocks_name.calls (s.size + 1) s (nmB s) w (nm_tot s (by omega))).mono ?_
  rintro e w' ⟨rfl, h⟩
  exact ⟨rfl, h.below⟩

/-- The first thing that is wrong, among n, from i on; 0: nothing. -/
def firstErr (f : Nat → Int) : Nat → Nat → Int
  | 0, _ => 0
  | n + 1, i => if f i = 0 then firstErr f n (i + 1) else f i
theorem firstErr_zero {f : Nat → Int} : ∀ (n i : Nat), (∀ j, i ≤ j → j < i + n → f j = 0) → firstErr f n i = 0
  | 0, _, _ => rfl
  | n + 1, i, h => by
    rw [firstErr, if_pos (h i (by omega) (by omega))]
    exact firstErr_zero n (i + 1) (fun j h1 h2 => h j (by omega) (by omega))
theorem firstErr_at {f : Nat → Int} : ∀ (n i m : Nat), i ≤ m → m < i + n → (∀ j, i ≤ j → j < m → f j = 0) → f m ≠ 0 → firstErr f n i = f m
  | 0, i, m, h1, h2, _, _ => by omega
  | n + 1, i, m, h1, h2, h, hm => by
    rw [firstErr]
    by_cases e : i = m
    · subst e; rw [if_neg hm]
    · rw [if_pos (h i (by omega) (by omega))]
      exact firstErr_at n (i + 1) m (by omega) (by omega) (fun j a b => h j (by omega) b) hm
theorem firstErr_all {f : Nat → Int} : ∀ (n i : Nat), firstErr f n i = 0 → ∀ j, i ≤ j → j < i + n → f j = 0
  | 0, i, _, j, h1, h2 => by omega
  | n + 1, i, h, j, h1, h2 => by
    rw [firstErr] at h
    by_cases e : f i = 0
    · rw [if_pos e] at h
      by_cases ej : j = i
      · subst ej; exact e
      · exact firstErr_all n (i + 1) h j (by omega) (by omega)
    · rw [if_neg e] at h; exact absurd h e

def badI (x : S112) : Bool := decide (x.f1.f0 < 0) || decide (x.f1.f1 < x.f1.f0) || decide (16777216 < x.f1.f1)
def badO (x : S115) : Bool := decide (x.f1 < 1) || decide (16777216 < x.f1)
def badP (x : S117) : Bool := (!(x.f0.size == 0) && !(nmB x.f0)) || (!(x.f1.size == 0) && !(nmB x.f1))
def badC (x : S117) : Bool := decide (x.f2 < 0) || decide (16 < x.f2) || (x.f2 == 1)
def errI (l : List S112) (i : Nat) : Int := if nmB (l.getD i z112).f0 = false then 9 else if badI (l.getD i z112) = true then 2 else if (l.take i).any (nmq112 (l.getD i z112).f0) = true then 6 else 0
def errO (l : List S115) (i : Nat) : Int := if nmB (l.getD i z115).f0 = false then 9 else if badO (l.getD i z115) = true then 2 else if (l.take i).any (nmq115 (l.getD i z115).f0) = true then 6 else 0
def errP (l : List S117) (i : Nat) : Int := if badP (l.getD i z117) = true then 9 else if badC (l.getD i z117) = true then 2 else 0
def CheckV (p : Int) (l1 : List S112) (l2 : List S115) (l3 : List S117) : Int :=
  if p < 1 ∨ 67108864 < p then 2 else if 128 < l1.length ∨ 128 < l2.length ∨ 64 < l3.length then 3
  else if firstErr (errI l1) l1.length 0 = 0 then (if firstErr (errO l2) l2.length 0 = 0 then firstErr (errP l3) l3.length 0 else firstErr (errO l2) l2.length 0) else firstErr (errI l1) l1.length 0

def Small (p : Int) (l1 : List S112) (l2 : List S115) (l3 : List S117) : Prop := p < 100 ∧ (∀ x ∈ l1, x.f1.f0 < 100 ∧ x.f1.f1 < 100) ∧ (∀ x ∈ l2, x.f1 < 100) ∧ ∀ x ∈ l3, x.f2 < 100
def StrOk (l1 : List S112) (l2 : List S115) (l3 : List S117) : Prop := (∀ x ∈ l1, x.f0.size ≤ 140737488355328) ∧ (∀ x ∈ l2, x.f0.size ≤ 140737488355328) ∧ ∀ x ∈ l3, x.f0.size ≤ 140737488355328 ∧ x.f1.size ≤ 140737488355328
def TabS (w : World) (p : Int) (l1 : List S112) (l2 : List S115) (l3 : List S117) : Prop := TB w.heap.size w ∨ Small p l1 l2 l3

theorem mem_at {α : Type} {l : List α} {x : α} (z : α) (h : x ∈ l) : ∃ i, i < l.length ∧ l.getD i z = x := by
  obtain ⟨i, hi, e⟩ := List.getElem_of_mem h
  exact ⟨i, hi, by rw [List.getD_eq_getElem?_getD, List.getElem?_eq_getElem hi]; exact e⟩
theorem errI_ok {l : List S112} {i : Nat} (h : errI l i = 0) : nmB (l.getD i z112).f0 = true ∧ badI (l.getD i z112) = false := by
  unfold errI at h
  split at h
  · omega
  · split at h
    · omega
    · rename_i q1 q2
      exact ⟨(Bool.not_eq_false _).mp q1, (Bool.not_eq_true _).mp q2⟩
theorem errO_ok {l : List S115} {i : Nat} (h : errO l i = 0) : nmB (l.getD i z115).f0 = true ∧ badO (l.getD i z115) = false := by
  unfold errO at h
  split at h
  · omega
  · split at h
    · omega
    · rename_i q1 q2
      exact ⟨(Bool.not_eq_false _).mp q1, (Bool.not_eq_true _).mp q2⟩
theorem errP_ok {l : List S117} {i : Nat} (h : errP l i = 0) : badP (l.getD i z117) = false ∧ badC (l.getD i z117) = false := by
  unfold errP at h
  split at h
  · omega
  · split at h
    · omega
    · rename_i q1 q2
      exact ⟨(Bool.not_eq_true _).mp q1, (Bool.not_eq_true _).mp q2⟩
/-- Limits in which nothing is wrong can be written. -/
theorem fits {w : World} {p : Int} {l1 : List S112} {l2 : List S115} {l3 : List S117} (hT : TabS w p l1 l2 l3) (hp : 1 ≤ p ∧ p ≤ 67108864) (n1 : l1.length ≤ 128) (n2 : l2.length ≤ 128) (n3 : l3.length ≤ 64)
    (h1 : ∀ j, j < l1.length → errI l1 j = 0) (h2 : ∀ j, j < l2.length → errO l2 j = 0) (h3 : ∀ j, j < l3.length → errP l3 j = 0) :
    ∃ lim, okL w.heap.size w lim ∧ okN lim p ∧ okI lim l1 ∧ okO lim l2 ∧ okP lim l3 := by
  have b1 : ∀ x ∈ l1, x.f0.size ≤ 128 ∧ 0 ≤ x.f1.f0 ∧ x.f1.f0 ≤ x.f1.f1 ∧ x.f1.f1 ≤ 16777216 := by
    intro x hx
    obtain ⟨i, hi, rfl⟩ := mem_at z112 hx
    have a := errI_ok (h1 i hi)
    have c := a.2
    unfold badI at c
    simp only [Bool.or_eq_false_iff, decide_eq_false_iff_not] at c
    exact ⟨nm_size a.1, by omega, by omega, by omega⟩
  have b2 : ∀ x ∈ l2, x.f0.size ≤ 128 ∧ 1 ≤ x.f1 ∧ x.f1 ≤ 16777216 := by
    intro x hx
    obtain ⟨i, hi, rfl⟩ := mem_at z115 hx
    have a := errO_ok (h2 i hi)
    have c := a.2
    unfold badO at c
    simp only [Bool.or_eq_false_iff, decide_eq_false_iff_not] at c
    exact ⟨nm_size a.1, by omega, by omega⟩
  have b3 : ∀ x ∈ l3, x.f0.size ≤ 128 ∧ x.f1.size ≤ 128 ∧ 0 ≤ x.f2 ∧ x.f2 ≤ 16 := by
    intro x hx
    obtain ⟨i, hi, rfl⟩ := mem_at z117 hx
    have a := errP_ok (h3 i hi)
    have c := a.2
    unfold badC at c
    simp only [Bool.or_eq_false_iff, decide_eq_false_iff_not] at c
    have d := a.1
    unfold badP at d
    simp only [Bool.or_eq_false_iff, Bool.and_eq_false_iff, Bool.not_eq_false', beq_iff_eq] at d
    refine ⟨?_, ?_, by omega, by omega⟩
    · rcases d.1 with e | e
      · omega
      · exact nm_size e
    · rcases d.2 with e | e
      · omega
      · exact nm_size e
  rcases hT with ht | ⟨s0, s1, s2, s3⟩
  · refine ⟨1000000000, .inr ⟨by omega, ht⟩, ⟨by omega, by omega⟩, ⟨n1, fun x hx => ?_⟩, ⟨n2, fun x hx => ?_⟩, ⟨n3, fun x hx => ?_⟩⟩
    · have := b1 x hx; exact ⟨this.1, ⟨by omega, by omega⟩, ⟨by omega, by omega⟩⟩
    · have := b2 x hx; exact ⟨this.1, ⟨by omega, by omega⟩⟩
    · have := b3 x hx; exact ⟨this.1, this.2.1, ⟨by omega, by omega⟩⟩
  · refine ⟨100, .inl (by omega), ⟨by omega, by omega⟩, ⟨n1, fun x hx => ?_⟩, ⟨n2, fun x hx => ?_⟩, ⟨n3, fun x hx => ?_⟩⟩
    · have := b1 x hx; have q := s1 x hx; exact ⟨this.1, ⟨by omega, by omega⟩, ⟨by omega, by omega⟩⟩
    · have := b2 x hx; have q := s2 x hx; exact ⟨this.1, ⟨by omega, by omega⟩⟩
    · have := b3 x hx; have q := s3 x hx; exact ⟨this.1, this.2.1, ⟨by omega, by omega⟩⟩
theorem wr_len {B : Nat} {w : World} {lim p : Int} {l1 : List S112} {l2 : List S115} {l3 : List S117} (hL : okL B w lim) (hp : okN lim p) (h1 : okI lim l1) (h2 : okO lim l2) (h3 : okP lim l3) : (wrL p l1 l2 l3).length ≤ 100000 := by
  have np := okL_lt hL hp
  unfold wrL
  exact len3 (perSz p np.1 np.2) (cat_len inB l1 (fun y hy => inSz hL y (h1.2 y hy))) h1.1 (cat_len outB l2 (fun y hy => outSz hL y (h2.2 y hy))) h2.1 (cat_len pathB l3 (fun y hy => pathSz hL y (h3.2 y hy))) h3.1
end Go.Proofs.YtpkpmdmmnhmnlaaDoor.PT
namespace Go.Proofs.YtpkpmdmmnhmnlaaDoor.PT
open Go.Sort Go.RowKit Go.Proofs.YtpkpmdmmnhmnlaaDoorW.PrintWords Go.Proofs.YtpkpmdmmnhmnlaaDoorW.PrintLast Go.Proofs.YtpkpmdmmnhmnlaaDoorW.PrintMore
set_option linter.unusedVariables false
set_option linter.unusedSimpArgs false

section
variable {p : Int} {l1 : List S112} {l2 : List S115} {l3 : List S117}
theorem cv1 (hp : ¬ (p < 1 ∨ 67108864 < p)) (hl : ¬ (128 < l1.length ∨ 128 < l2.length ∨ 64 < l3.length)) {i : Int} (h0 : 0 ≤ i) (h1 : i < l1.length) (hz : ∀ j : Nat, (j : Int) < i → errI l1 j = 0) (ne : errI l1 i.toNat ≠ 0) : CheckV p l1 l2 l3 = errI l1 i.toNat := by
  have e : firstErr (errI l1) l1.length 0 = errI l1 i.toNat := firstErr_at _ 0 i.toNat (by omega) (by omega) (fun j _ hj => hz j (by omega)) ne
  unfold CheckV
  rw [if_neg hp, if_neg hl, e, if_neg ne]
theorem cv2 (hp : ¬ (p < 1 ∨ 67108864 < p)) (hl : ¬ (128 < l1.length ∨ 128 < l2.length ∨ 64 < l3.length)) (z1 : ∀ j : Nat, j < l1.length → errI l1 j = 0) {i : Int} (h0 : 0 ≤ i) (h1 : i < l2.length) (hz : ∀ j : Nat, (j : Int) < i → errO l2 j = 0) (ne : errO l2 i.toNat ≠ 0) : CheckV p l1 l2 l3 = errO l2 i.toNat := by
  have e : firstErr (errO l2) l2.length 0 = errO l2 i.toNat := firstErr_at _ 0 i.toNat (by omega) (by omega) (fun j _ hj => hz j (by omega)) ne
  have e1 : firstErr (errI l1) l1.length 0 = 0 := firstErr_zero _ 0 (fun j _ hj => z1 j (by omega))
  unfold CheckV
  rw [if_neg hp, if_neg hl, if_pos e1, e, if_neg ne]
theorem cv3 (hp : ¬ (p < 1 ∨ 67108864 < p)) (hl : ¬ (128 < l1.length ∨ 128 < l2.length ∨ 64 < l3.length)) (z1 : ∀ j : Nat, j < l1.length → errI l1 j = 0) (z2 : ∀ j : Nat, j < l2.length → errO l2 j = 0) {i : Int} (h0 : 0 ≤ i) (h1 : i < l3.length) (hz : ∀ j : Nat, (j : Int) < i → errP l3 j = 0) (ne : errP l3 i.toNat ≠ 0) : CheckV p l1 l2 l3 = errP l3 i.toNat := by
  have e : firstErr (errP l3) l3.length 0 = errP l3 i.toNat := firstErr_at _ 0 i.toNat (by omega) (by omega) (fun j _ hj => hz j (by omega)) ne
  have e1 : firstErr (errI l1) l1.length 0 = 0 := firstErr_zero _ 0 (fun j _ hj => z1 j (by omega))
  have e2 : firstErr (errO l2) l2.length 0 = 0 := firstErr_zero _ 0 (fun j _ hj => z2 j (by omega))
  unfold CheckV
  rw [if_neg hp, if_neg hl, if_pos e1, if_pos e2, e]
theorem cv4 (hp : ¬ (p < 1 ∨ 67108864 < p)) (hl : ¬ (128 < l1.length ∨ 128 < l2.length ∨ 64 < l3.length)) (z1 : ∀ j : Nat, j < l1.length → errI l1 j = 0) (z2 : ∀ j : Nat, j < l2.length → errO l2 j = 0) (z3 : ∀ j : Nat, j < l3.length → errP l3 j = 0) : CheckV p l1 l2 l3 = 0 := by
  have e : firstErr (errP l3) l3.length 0 = 0 := firstErr_zero _ 0 (fun j _ hj => z3 j (by omega))
  have e1 : firstErr (errI l1) l1.length 0 = 0 := firstErr_zero _ 0 (fun j _ hj => z1 j (by omega))
  have e2 : firstErr (errO l2) l2.length 0 = 0 := firstErr_zero _ 0 (fun j _ hj => z2 j (by omega))
  unfold CheckV
  rw [if_neg hp, if_neg hl, if_pos e1, if_pos e2, e]
end
theorem next0 {f : Nat → Int} {i : Int} (h0 : 0 ≤ i) (hz : ∀ j : Nat, (j : Int) < i → f j = 0) (h : f i.toNat = 0) : ∀ j : Nat, (j : Int) < i + 1 → f j = 0 := by
  intro j hj
  by_cases e : (j : Int) < i
  · exact hz j e
  · have : j = i.toNat := by omega
    rw [this]; exact h
theorem all0 {f : Nat → Int} {i : Int} {n : Nat} (h1 : i ≤ n) (hge : ¬ i < n) (hz : ∀ j : Nat, (j : Int) < i → f j = 0) : ∀ j : Nat, j < n → f j = 0 := fun j hj => hz j (by omega)

theorem okL_step {w w' : World} {lim : Int} (h : okL w.heap.size w lim) (hb : Below w.heap.size w w') : okL w'.heap.size w' lim := by
  rcases h with h | ⟨h, ht⟩
  · exact .inl h
  · exact .inr ⟨h, fun w2 h2 => ht w2 (hb.trans (h2.mono hb.size))⟩

set_option maxHeartbeats 4000000 in
set_option maxRecDepth 100000 in
theorem check_calls (p : Int) (A1 : Option Addr) (c1 : Nat) (l1 : List S112) (A2 : Option Addr) (c2 : Nat) (l2 : List S115) (A3 : Option Addr) (c3 : Nat) (l3 : List S117) (w : World)
    (hr1 : Kd.C k112 w A1 l1.length l1) (hc1 : l1.length ≤ c1) (hr2 : Kd.C k115 w A2 l2.length l2) (hc2 : l2.length ≤ c2) (hr3 : Kd.C k117 w A3 l3.length l3) (hc3 : l3.length ≤ c3)
    (hS : StrOk l1 l2 l3) (hT : TabS w p l1 l2 l3) :
    Calls Tryd.prog 63 #[.agg #[.int .i64 p, .slice A1 l1.length c1, .slice A2 l2.length c2, .slice A3 l3.length c3]] w fun e w' => e = .returned (.int .i64 (CheckV p l1 l2 l3)) ∧ Below w.heap.size w w' := by
  have hu26 := Tryd.underlying72
  have hmf : ∀ (fn : Fn) (first cap : Array Value) (w : World), (Instr.makeFunc fn first cap).run Tryd.prog w = .ok (.func fn first cap) w := fun _ _ _ _ => rfl
  have HR1 := Aside0.mk hr1
  have HR2 := Aside0.mk hr2
  have HR3 := Aside0.mk hr3
  have HM1 := Aside0.mk hc1
  have HM2 := Aside0.mk hc2
  have HM3 := Aside0.mk hc3
  have HS := Aside0.mk hS
  have HT := Aside0.mk hT
  clear hr1 hr2 hr3 hS hT hc1 hc2 hc3
  have HB0 := Aside0.mk (below_alloc (Below.refl w.heap.size w) (.cells #[.int .i64 p, .slice A1 l1.length c1, .slice A2 l2.length c2, .slice A3 l3.length c3] 72))
  have BX0 := Aside0.mk (blk_new w (.cells #[.int .i64 p, .slice A1 l1.length c1, .slice A2 l2.length c2, .slice A3 l3.length c3] 72))
  by_cases p1 : p < 1
  · have CV := Aside0.mk (show CheckV p l1 l2 l3 = 2 from if_pos (.inl p1))
    have d1 : decide (p < 1) = true := decide_eq_true p1
    clear p1
    go_enter Tryd.func63, Tryd.ntmps63
    go_wp2
    go_ret
    exact ⟨by rw [CV.out]; rfl, HB0.out⟩
  have d1 : decide (p < 1) = false := decide_eq_false p1
  by_cases p2 : 67108864 < p
  · have CV := Aside0.mk (show CheckV p l1 l2 l3 = 2 from if_pos (.inr p2))
    have d2 : decide (67108864 < p) = true := decide_eq_true p2
    clear p1 p2
    go_enter Tryd.func63, Tryd.ntmps63
    go_wp2
    go_ret
    exact ⟨by rw [CV.out]; rfl, HB0.out⟩
  have d2 : decide (67108864 < p) = false := decide_eq_false p2
  have NP := Aside0.mk (show ¬ (p < 1 ∨ 67108864 < p) by omega)
  clear p1 p2
  by_cases n1 : 128 < l1.length
  · have CV := Aside0.mk (show CheckV p l1 l2 l3 = 3 by unfold CheckV; rw [if_neg NP.out, if_pos (.inl n1)])
    have d3 : decide (128 < (l1.length : Int)) = true := decide_eq_true (by omega)
    clear n1
    go_enter Tryd.func63, Tryd.ntmps63
    go_wp2
    go_ret
    exact ⟨by rw [CV.out]; rfl, HB0.out⟩
  have d3 : decide (128 < (l1.length : Int)) = false := decide_eq_false (by omega)
  by_cases n2 : 128 < l2.length
  · have CV := Aside0.mk (show CheckV p l1 l2 l3 = 3 by unfold CheckV; rw [if_neg NP.out, if_pos (.inr (.inl n2))])
    have d4 : decide (128 < (l2.length : Int)) = true := decide_eq_true (by omega)
    clear n1 n2
    go_enter Tryd.func63, Tryd.ntmps63
    go_wp2
    go_ret
    exact ⟨by rw [CV.out]; rfl, HB0.out⟩
  have d4 : decide (128 < (l2.length : Int)) = false := decide_eq_false (by omega)
  by_cases n3 : 64 < l3.length
  · have CV := Aside0.mk (show CheckV p l1 l2 l3 = 3 by unfold CheckV; rw [if_neg NP.out, if_pos (.inr (.inr n3))])
    have d5 : decide (64 < (l3.length : Int)) = true := decide_eq_true (by omega)
    clear n1 n2 n3
    go_enter Tryd.func63, Tryd.ntmps63
    go_wp2
    go_ret
    exact ⟨by rw [CV.out]; rfl, HB0.out⟩
  have d5 : decide (64 < (l3.length : Int)) = false := decide_eq_false (by omega)
  have NL := Aside0.mk (show ¬ (128 < l1.length ∨ 128 < l2.length ∨ 64 < l3.length) by omega)
  have k1 : l1.length ≤ 128 := by omega
  have k2 : l2.length ≤ 128 := by omega
  have k3 : l3.length ≤ 64 := by omega
  clear n1 n2 n3
  go_enter Tryd.func63, Tryd.ntmps63
  go_wp2
  go_loopw [36] (fun v wr => ∃ i : Int, 0 ≤ i ∧ i ≤ l1.length ∧ v = .int .i64 i ∧ Aside0 (Below w.heap.size w wr) ∧ Aside0 (wr.heap[w.heap.size]? = some (.cells #[.int .i64 p, .slice A1 l1.length c1, .slice A2 l2.length c2, .slice A3 l3.length c3] 72 (0, 0))) ∧ Aside0 (∀ j : Nat, (j : Int) < i → errI l1 j = 0)) (fun v _ => (l1.length - (intOf v).toNat))
  case atStart => exact ⟨0, by omega, by omega, rfl, HB0, BX0, ⟨fun j hj => by omega⟩⟩
  case round =>
    clear HB0 BX0
    obtain ⟨i, h0, h1, rfl, HB, BX, HZ⟩ := hrel
    by_cases hlt : i < l1.length
    · obtain ⟨ad, rfl, d0, d1, d2⟩ := at_T112 (Kd.C_below HR1.out HB.out) i h0 hlt
      have e1 : decide (i < (l1.length : Int)) = true := decide_eq_true hlt
      have EI := Aside0.mk (show errI l1 i.toNat = if nmB (rd_T112 l1 i).f0 = false then 9 else if badI (rd_T112 l1 i) = true then 2 else if (l1.take i.toNat).any (nmq112 (rd_T112 l1 i).f0) = true then 6 else 0 from rfl)
      have SX := Aside0.mk (HS.out.1 (rd_T112 l1 i) (rd_mem l1 z112 i h0 hlt))
      have CV := Aside0.mk (fun ne : errI l1 i.toNat ≠ 0 => cv1 NP.out NL.out h0 hlt HZ.out ne)
      generalize rd_T112 l1 i = x at *
      have BK := Aside0.mk (blk_new wr (.cells #[.string x.f0, .int .i64 x.f1.f0, .int .i64 x.f1.f1] 112))
      have HB1 := Aside0.mk (below_alloc HB.out (.cells #[.string x.f0, .int .i64 x.f1.f0, .int .i64 x.f1.f1] 112))
      have BX1 := Aside0.mk (blk_alloc BX.out (.cells #[.string x.f0, .int .i64 x.f1.f0, .int .i64 x.f1.f1] 112))
      clear HB BX
      go_wp2_with fail
      refine (nm_call x.f0 SX.out _).mono ?_
      rintro ev w2 ⟨rfl, hw2⟩
      have HB2 := Aside0.mk (below_step HB1.out hw2)
      have BK2 := Aside0.mk (blk_below BK.out hw2)
      have BX2 := Aside0.mk (blk_below BX1.out hw2)
      clear HB1 BK BX1 hw2 d0 d1 d2
      have d0 := cells3 BK2.out
      have b1 : w2.cell? ⟨w.heap.size, 1, none⟩ = some (.slice (some ad) l1.length c1) := by rw [Lib.cell_of_heap BX2.out]; rfl
      obtain ⟨d0, d1, d2⟩ := d0
      cases hnm : nmB x.f0 with
      | false =>
        have EV := Aside0.mk (EI.out.trans (if_pos hnm))
        have CW := Aside0.mk ((CV.out (by rw [EV.out]; decide)).trans EV.out)
        clear hnm EI CV EV
        go_wp2
        go_ret
        exact ⟨by rw [CW.out]; rfl, HB2.out⟩
      | true =>
        have EI2 := Aside0.mk (EI.out.trans (if_neg (by rw [hnm]; decide)))
        clear hnm EI
        by_cases q : x.f1.f0 < 0
        · have EV := Aside0.mk (EI2.out.trans (if_pos (by unfold badI; rw [decide_eq_true q]; rfl)))
          have CW := Aside0.mk ((CV.out (by rw [EV.out]; decide)).trans EV.out)
          have dq : decide (x.f1.f0 < 0) = true := decide_eq_true q
          clear q EI2 CV EV
          go_wp2
          go_ret
          exact ⟨by rw [CW.out]; rfl, HB2.out⟩
        have t1 : decide (x.f1.f0 < 0) = false := decide_eq_false q
        clear q
        by_cases q : x.f1.f1 < x.f1.f0
        · have EV := Aside0.mk (EI2.out.trans (if_pos (by unfold badI; rw [decide_eq_true q, Bool.or_true]; rfl)))
          have CW := Aside0.mk ((CV.out (by rw [EV.out]; decide)).trans EV.out)
          have dq : decide (x.f1.f1 < x.f1.f0) = true := decide_eq_true q
          clear q EI2 CV EV
          go_wp2
          go_ret
          exact ⟨by rw [CW.out]; rfl, HB2.out⟩
        have t2 : decide (x.f1.f1 < x.f1.f0) = false := decide_eq_false q
        clear q
        by_cases q : 16777216 < x.f1.f1
        · have EV := Aside0.mk (EI2.out.trans (if_pos (by unfold badI; rw [decide_eq_true q, Bool.or_true])))
          have CW := Aside0.mk ((CV.out (by rw [EV.out]; decide)).trans EV.out)
          have dq : decide (16777216 < x.f1.f1) = true := decide_eq_true q
          clear q EI2 CV EV
          go_wp2
          go_ret
          exact ⟨by rw [CW.out]; rfl, HB2.out⟩
        have t3 : decide (16777216 < x.f1.f1) = false := decide_eq_false q
        clear q
        have EI3 := Aside0.mk (EI2.out.trans (if_neg (by unfold badI; rw [t1, t2, t3]; decide)))
        clear EI2
        have e2 : (0 ≤ i) = True := eq_true h0
        have e3 : (i ≤ (c1 : Int)) = True := eq_true (by have := HM1.out; omega)
        have hln : (l1.take i.toNat).length = i.toNat := by rw [List.length_take]; omega
        have CC := has112 (some ad) c1 (l1.take i.toNat) wr.heap.size x.f0 w2 (Kd.C_take (Kd.C_below HR1.out HB2.out) (by omega)) (cells3 BK2.out).1 (blk_lt BK2.out)
        rw [hln] at CC
        have HCC := Aside0.mk CC
        clear CC hln
        go_wp2_with fail
        refine HCC.out.mono ?_
        rintro ev w3 ⟨rfl, hw3⟩
        have HB3 := Aside0.mk (below_step HB2.out hw3)
        have BX3 := Aside0.mk (blk_below BX2.out hw3)
        clear hw3 HCC HB2 BX2 BK2 d0 d1 d2 b1
        cases htw : (l1.take i.toNat).any (nmq112 x.f0) with
        | true =>
          have EV := Aside0.mk (EI3.out.trans (if_pos htw))
          have CW := Aside0.mk ((CV.out (by rw [EV.out]; decide)).trans EV.out)
          clear htw EI3 CV EV
          go_wp2
          go_ret
          exact ⟨by rw [CW.out]; rfl, HB3.out⟩
        | false =>
          have EV := Aside0.mk (EI3.out.trans (if_neg (by rw [htw]; decide)))
          have HZ2 := Aside0.mk (next0 h0 HZ.out EV.out)
          clear htw EI3 CV EV HZ
          go_wp2
          go_roundw
          case rel => exact ⟨i + 1, by omega, by omega, by go_num, HB3, BX3, HZ2⟩
          case measure => simp [intOf]; omega
    · have e1 : decide (i < (l1.length : Int)) = false := decide_eq_false hlt
      have Z1 := Aside0.mk (all0 h1 hlt HZ.out)
      have HB0 := HB
      have BX0 := BX
      have b2 : wr.cell? ⟨w.heap.size, 2, none⟩ = some (.slice A2 l2.length c2) := by rw [Lib.cell_of_heap BX0.out]; rfl
      clear HZ HB BX hlt h0 h1
      go_wp2_with fail
      go_loopw [77] (fun v wr => ∃ i : Int, 0 ≤ i ∧ i ≤ l2.length ∧ v = .int .i64 i ∧ Aside0 (Below w.heap.size w wr) ∧ Aside0 (wr.heap[w.heap.size]? = some (.cells #[.int .i64 p, .slice A1 l1.length c1, .slice A2 l2.length c2, .slice A3 l3.length c3] 72 (0, 0))) ∧ Aside0 (∀ j : Nat, (j : Int) < i → errO l2 j = 0)) (fun v _ => (l2.length - (intOf v).toNat))
      case atStart => exact ⟨0, by omega, by omega, rfl, HB0, BX0, ⟨fun j hj => by omega⟩⟩
      case round =>
        clear HB0 BX0 b2 e1
        obtain ⟨i, h0, h1, rfl, HB, BX, HZ⟩ := hrel
        by_cases hlt : i < l2.length
        · obtain ⟨ad, rfl, d0, d1⟩ := at_T115 (Kd.C_below HR2.out HB.out) i h0 hlt
          have e1 : decide (i < (l2.length : Int)) = true := decide_eq_true hlt
          have EI := Aside0.mk (show errO l2 i.toNat = if nmB (rd_T115 l2 i).f0 = false then 9 else if badO (rd_T115 l2 i) = true then 2 else if (l2.take i.toNat).any (nmq115 (rd_T115 l2 i).f0) = true then 6 else 0 from rfl)
          have SX := Aside0.mk (HS.out.2.1 (rd_T115 l2 i) (rd_mem l2 z115 i h0 hlt))
          have CV := Aside0.mk (fun ne : errO l2 i.toNat ≠ 0 => cv2 NP.out NL.out Z1.out h0 hlt HZ.out ne)
          generalize rd_T115 l2 i = x at *
          have BK := Aside0.mk (blk_new wr (.cells #[.string x.f0, .int .i64 x.f1] 115))
          have HB1 := Aside0.mk (below_alloc HB.out (.cells #[.string x.f0, .int .i64 x.f1] 115))
          have BX1 := Aside0.mk (blk_alloc BX.out (.cells #[.string x.f0, .int .i64 x.f1] 115))
          clear HB BX
          go_wp2_with fail
          refine (nm_call x.f0 SX.out _).mono ?_
          rintro ev w2 ⟨rfl, hw2⟩
          have HB2 := Aside0.mk (below_step HB1.out hw2)
          have BK2 := Aside0.mk (blk_below BK.out hw2)
          have BX2 := Aside0.mk (blk_below BX1.out hw2)
          clear HB1 BK BX1 hw2 d0 d1
          have d0 := cells2 BK2.out
          have b1 : w2.cell? ⟨w.heap.size, 2, none⟩ = some (.slice (some ad) l2.length c2) := by rw [Lib.cell_of_heap BX2.out]; rfl
          obtain ⟨d0, d1⟩ := d0
          cases hnm : nmB x.f0 with
          | false =>
            have EV := Aside0.mk (EI.out.trans (if_pos hnm))
            have CW := Aside0.mk ((CV.out (by rw [EV.out]; decide)).trans EV.out)
            clear hnm EI CV EV
            go_wp2
            go_ret
            exact ⟨by rw [CW.out]; rfl, HB2.out⟩
          | true =>
            have EI2 := Aside0.mk (EI.out.trans (if_neg (by rw [hnm]; decide)))
            clear hnm EI
            by_cases q : x.f1 < 1
            · have EV := Aside0.mk (EI2.out.trans (if_pos (by unfold badO; rw [decide_eq_true q]; rfl)))
              have CW := Aside0.mk ((CV.out (by rw [EV.out]; decide)).trans EV.out)
              have dq : decide (x.f1 < 1) = true := decide_eq_true q
              clear q EI2 CV EV
              go_wp2
              go_ret
              exact ⟨by rw [CW.out]; rfl, HB2.out⟩
            have t1 : decide (x.f1 < 1) = false := decide_eq_false q
            clear q
            by_cases q : 16777216 < x.f1
            · have EV := Aside0.mk (EI2.out.trans (if_pos (by unfold badO; rw [decide_eq_true q, Bool.or_true])))
              have CW := Aside0.mk ((CV.out (by rw [EV.out]; decide)).trans EV.out)
              have dq : decide (16777216 < x.f1) = true := decide_eq_true q
              clear q EI2 CV EV
              go_wp2
              go_ret
              exact ⟨by rw [CW.out]; rfl, HB2.out⟩
            have t2 : decide (16777216 < x.f1) = false := decide_eq_false q
            clear q
            have EI3 := Aside0.mk (EI2.out.trans (if_neg (by unfold badO; rw [t1, t2]; decide)))
            clear EI2
            have e2 : (0 ≤ i) = True := eq_true h0
            have e3 : (i ≤ (c2 : Int)) = True := eq_true (by have := HM2.out; omega)
            have hln : (l2.take i.toNat).length = i.toNat := by rw [List.length_take]; omega
            have CC := has115 (some ad) c2 (l2.take i.toNat) wr.heap.size x.f0 w2 (Kd.C_take (Kd.C_below HR2.out HB2.out) (by omega)) (cells2 BK2.out).1 (blk_lt BK2.out)
            rw [hln] at CC
            have HCC := Aside0.mk CC
            clear CC hln
            go_wp2_with fail
            refine HCC.out.mono ?_
            rintro ev w3 ⟨rfl, hw3⟩
            have HB3 := Aside0.mk (below_step HB2.out hw3)
            have BX3 := Aside0.mk (blk_below BX2.out hw3)
            clear hw3 HCC HB2 BX2 BK2 d0 d1 b1
            cases htw : (l2.take i.toNat).any (nmq115 x.f0) with
            | true =>
              have EV := Aside0.mk (EI3.out.trans (if_pos htw))
              have CW := Aside0.mk ((CV.out (by rw [EV.out]; decide)).trans EV.out)
              clear htw EI3 CV EV
              go_wp2
              go_ret
              exact ⟨by rw [CW.out]; rfl, HB3.out⟩
            | false =>
              have EV := Aside0.mk (EI3.out.trans (if_neg (by rw [htw]; decide)))
              have HZ2 := Aside0.mk (next0 h0 HZ.out EV.out)
              clear htw EI3 CV EV HZ
              go_wp2
              go_roundw
              case rel => exact ⟨i + 1, by omega, by omega, by go_num, HB3, BX3, HZ2⟩
              case measure => simp [intOf]; omega
        · have e1 : decide (i < (l2.length : Int)) = false := decide_eq_false hlt
          have Z2 := Aside0.mk (all0 h1 hlt HZ.out)
          have HB0 := HB
          have BX0 := BX
          have b3 : wr.cell? ⟨w.heap.size, 3, none⟩ = some (.slice A3 l3.length c3) := by rw [Lib.cell_of_heap BX0.out]; rfl
          clear HZ HB BX hlt h0 h1
          go_wp2_with fail
          go_loopw [107] (fun v wr => ∃ i : Int, 0 ≤ i ∧ i ≤ l3.length ∧ v = .int .i64 i ∧ Aside0 (Below w.heap.size w wr) ∧ Aside0 (wr.heap[w.heap.size]? = some (.cells #[.int .i64 p, .slice A1 l1.length c1, .slice A2 l2.length c2, .slice A3 l3.length c3] 72 (0, 0))) ∧ Aside0 (∀ j : Nat, (j : Int) < i → errP l3 j = 0)) (fun v _ => (l3.length - (intOf v).toNat))
          case atStart => exact ⟨0, by omega, by omega, rfl, HB0, BX0, ⟨fun j hj => by omega⟩⟩
          case round =>
            clear HB0 BX0 b3 e1
            obtain ⟨i, h0, h1, rfl, HB, BX, HZ⟩ := hrel
            by_cases hlt : i < l3.length
            · obtain ⟨ad, rfl, d0, d1, d2⟩ := at_T117 (Kd.C_below HR3.out HB.out) i h0 hlt
              have e1 : decide (i < (l3.length : Int)) = true := decide_eq_true hlt
              have EI := Aside0.mk (show errP l3 i.toNat = if badP (rd_T117 l3 i) = true then 9 else if badC (rd_T117 l3 i) = true then 2 else 0 from rfl)
              have SX := Aside0.mk (HS.out.2.2 (rd_T117 l3 i) (rd_mem l3 z117 i h0 hlt))
              have CV := Aside0.mk (fun ne : errP l3 i.toNat ≠ 0 => cv3 NP.out NL.out Z1.out Z2.out h0 hlt HZ.out ne)
              generalize rd_T117 l3 i = x at *
              have BK1 := Aside0.mk (blk_new wr (.cells #[.string x.f0, .string x.f1, .int .i64 x.f2] 117))
              have HB1 := Aside0.mk (below_alloc HB.out (.cells #[.string x.f0, .string x.f1, .int .i64 x.f2] 117))
              have BX1 := Aside0.mk (blk_alloc BX.out (.cells #[.string x.f0, .string x.f1, .int .i64 x.f2] 117))
              clear HB BX
              by_cases q : x.f0.size = 0
              · have qa0 : (x.f0.toList == ([] : List UInt8)) = true := beq_iff_eq.mpr ((ba_nil _).mpr q)
                have qb0 : (x.f0.toList != ([] : List UInt8)) = false := bne_eq_false_iff_eq.mpr ((ba_nil _).mpr q)
                have PA := Aside0.mk (show (!(x.f0.size == 0) && !(nmB x.f0)) = false by rw [beq_iff_eq.mpr q]; rfl)
                clear q
                by_cases q : x.f1.size = 0
                · have qa : (x.f1.toList == ([] : List UInt8)) = true := beq_iff_eq.mpr ((ba_nil _).mpr q)
                  have qb : (x.f1.toList != ([] : List UInt8)) = false := bne_eq_false_iff_eq.mpr ((ba_nil _).mpr q)
                  have PBV : badP x = false := by unfold badP; rw [PA.out, beq_iff_eq.mpr q]; rfl
                  clear q PA
                  have PB := Aside0.mk PBV
                  have EI2 := Aside0.mk (EI.out.trans (if_neg (by rw [PB.out]; decide)))
                  clear PBV PB EI
                  by_cases q : x.f2 < 0
                  · have EV := Aside0.mk (EI2.out.trans (if_pos (by unfold badC; rw [decide_eq_true q]; rfl)))
                    have CW := Aside0.mk ((CV.out (by rw [EV.out]; decide)).trans EV.out)
                    have dq : decide (x.f2 < 0) = true := decide_eq_true q
                    clear q EI2 CV EV
                    go_wp2
                    go_ret
                    exact ⟨by rw [CW.out]; rfl, HB1.out⟩
                  have t1 : decide (x.f2 < 0) = false := decide_eq_false q
                  clear q
                  by_cases q : 16 < x.f2
                  · have EV := Aside0.mk (EI2.out.trans (if_pos (by unfold badC; rw [decide_eq_true q, Bool.or_true]; rfl)))
                    have CW := Aside0.mk ((CV.out (by rw [EV.out]; decide)).trans EV.out)
                    have dq : decide (16 < x.f2) = true := decide_eq_true q
                    clear q EI2 CV EV
                    go_wp2
                    go_ret
                    exact ⟨by rw [CW.out]; rfl, HB1.out⟩
                  have t2 : decide (16 < x.f2) = false := decide_eq_false q
                  clear q
                  by_cases q : x.f2 = 1
                  · have EV := Aside0.mk (EI2.out.trans (if_pos (by unfold badC; rw [beq_iff_eq.mpr q, Bool.or_true])))
                    have CW := Aside0.mk ((CV.out (by rw [EV.out]; decide)).trans EV.out)
                    have dq : (x.f2 == 1) = true := beq_iff_eq.mpr q
                    clear q EI2 CV EV
                    go_wp2
                    go_ret
                    exact ⟨by rw [CW.out]; rfl, HB1.out⟩
                  have t3 : (x.f2 == 1) = false := beq_eq_false_iff_ne.mpr q
                  clear q
                  have EV := Aside0.mk (EI2.out.trans (if_neg (by unfold badC; rw [t1, t2, t3]; decide)))
                  have HZ2 := Aside0.mk (next0 h0 HZ.out EV.out)
                  clear EI2 CV EV HZ
                  go_wp2
                  go_roundw
                  case rel => exact ⟨i + 1, by omega, by omega, by go_num, HB1, BX1, HZ2⟩
                  case measure => simp [intOf]; omega
                have qa : (x.f1.toList == ([] : List UInt8)) = false := beq_eq_false_iff_ne.mpr (fun e => q ((ba_nil _).mp e))
                have qb : (x.f1.toList != ([] : List UInt8)) = true := bne_iff_ne.mpr (fun e => q ((ba_nil _).mp e))
                have qz := Aside0.mk (beq_eq_false_iff_ne.mpr q)
                clear q
                go_wp2_with fail
                refine (nm_call x.f1 SX.out.2 _).mono ?_
                rintro ev w2 ⟨rfl, hw⟩
                have HB2 := Aside0.mk (below_step HB1.out hw)
                have BK2 := Aside0.mk (blk_below BK1.out hw)
                have BX2 := Aside0.mk (blk_below BX1.out hw)
                clear hw d0 d1 d2
                obtain ⟨d0, d1, d2⟩ := cells3 BK2.out
                cases hnm : nmB x.f1 with
                | false =>
                  have EV := Aside0.mk (EI.out.trans (if_pos (by unfold badP; rw [qz.out, hnm, PA.out]; rfl)))
                  have CW := Aside0.mk ((CV.out (by rw [EV.out]; decide)).trans EV.out)
                  clear hnm EI CV EV PA
                  go_wp2
                  go_ret
                  exact ⟨by rw [CW.out]; rfl, HB2.out⟩
                | true =>
                  have PBV : badP x = false := by unfold badP; rw [PA.out, hnm, Bool.not_true, Bool.and_false]; rfl
                  clear hnm PA
                  have PB := Aside0.mk PBV
                  have EI2 := Aside0.mk (EI.out.trans (if_neg (by rw [PB.out]; decide)))
                  clear PBV PB EI
                  by_cases q : x.f2 < 0
                  · have EV := Aside0.mk (EI2.out.trans (if_pos (by unfold badC; rw [decide_eq_true q]; rfl)))
                    have CW := Aside0.mk ((CV.out (by rw [EV.out]; decide)).trans EV.out)
                    have dq : decide (x.f2 < 0) = true := decide_eq_true q
                    clear q EI2 CV EV
                    go_wp2
                    go_ret
                    exact ⟨by rw [CW.out]; rfl, HB2.out⟩
                  have t1 : decide (x.f2 < 0) = false := decide_eq_false q
                  clear q
                  by_cases q : 16 < x.f2
                  · have EV := Aside0.mk (EI2.out.trans (if_pos (by unfold badC; rw [decide_eq_true q, Bool.or_true]; rfl)))
                    have CW := Aside0.mk ((CV.out (by rw [EV.out]; decide)).trans EV.out)
                    have dq : decide (16 < x.f2) = true := decide_eq_true q
                    clear q EI2 CV EV
                    go_wp2
                    go_ret
                    exact ⟨by rw [CW.out]; rfl, HB2.out⟩
                  have t2 : decide (16 < x.f2) = false := decide_eq_false q
                  clear q
                  by_cases q : x.f2 = 1
                  · have EV := Aside0.mk (EI2.out.trans (if_pos (by unfold badC; rw [beq_iff_eq.mpr q, Bool.or_true])))
                    have CW := Aside0.mk ((CV.out (by rw [EV.out]; decide)).trans EV.out)
                    have dq : (x.f2 == 1) = true := beq_iff_eq.mpr q
                    clear q EI2 CV EV
                    go_wp2
                    go_ret
                    exact ⟨by rw [CW.out]; rfl, HB2.out⟩
                  have t3 : (x.f2 == 1) = false := beq_eq_false_iff_ne.mpr q
                  clear q
                  have EV := Aside0.mk (EI2.out.trans (if_neg (by unfold badC; rw [t1, t2, t3]; decide)))
                  have HZ2 := Aside0.mk (next0 h0 HZ.out EV.out)
                  clear EI2 CV EV HZ
                  go_wp2
                  go_roundw
                  case rel => exact ⟨i + 1, by omega, by omega, by go_num, HB2, BX2, HZ2⟩
                  case measure => simp [intOf]; omega
              · have qa0 : (x.f0.toList == ([] : List UInt8)) = false := beq_eq_false_iff_ne.mpr (fun e => q ((ba_nil _).mp e))
                have qb0 : (x.f0.toList != ([] : List UInt8)) = true := bne_iff_ne.mpr (fun e => q ((ba_nil _).mp e))
                have qz := Aside0.mk (beq_eq_false_iff_ne.mpr q)
                clear q
                go_wp2_with fail
                refine (nm_call x.f0 SX.out.1 _).mono ?_
                rintro ev w2 ⟨rfl, hw⟩
                have HB2 := Aside0.mk (below_step HB1.out hw)
                have BK2 := Aside0.mk (blk_below BK1.out hw)
                have BX2 := Aside0.mk (blk_below BX1.out hw)
                clear hw d0 d1 d2
                obtain ⟨d0, d1, d2⟩ := cells3 BK2.out
                cases hnm : nmB x.f0 with
                | false =>
                  have EV := Aside0.mk (EI.out.trans (if_pos (by unfold badP; rw [qz.out, hnm]; rfl)))
                  have CW := Aside0.mk ((CV.out (by rw [EV.out]; decide)).trans EV.out)
                  clear hnm EI CV EV
                  go_wp2
                  go_ret
                  exact ⟨by rw [CW.out]; rfl, HB2.out⟩
                | true =>
                  have PA := Aside0.mk (show (!(x.f0.size == 0) && !(nmB x.f0)) = false by rw [hnm, Bool.not_true, Bool.and_false])
                  clear hnm
                  by_cases q : x.f1.size = 0
                  · have qa : (x.f1.toList == ([] : List UInt8)) = true := beq_iff_eq.mpr ((ba_nil _).mpr q)
                    have qb : (x.f1.toList != ([] : List UInt8)) = false := bne_eq_false_iff_eq.mpr ((ba_nil _).mpr q)
                    have PBV : badP x = false := by unfold badP; rw [PA.out, beq_iff_eq.mpr q]; rfl
                    clear q PA
                    have PB := Aside0.mk PBV
                    have EI2 := Aside0.mk (EI.out.trans (if_neg (by rw [PB.out]; decide)))
                    clear PBV PB EI
                    by_cases q : x.f2 < 0
                    · have EV := Aside0.mk (EI2.out.trans (if_pos (by unfold badC; rw [decide_eq_true q]; rfl)))
                      have CW := Aside0.mk ((CV.out (by rw [EV.out]; decide)).trans EV.out)
                      have dq : decide (x.f2 < 0) = true := decide_eq_true q
                      clear q EI2 CV EV
                      go_wp2
                      go_ret
                      exact ⟨by rw [CW.out]; rfl, HB2.out⟩
                    have t1 : decide (x.f2 < 0) = false := decide_eq_false q
                    clear q
                    by_cases q : 16 < x.f2
                    · have EV := Aside0.mk (EI2.out.trans (if_pos (by unfold badC; rw [decide_eq_true q, Bool.or_true]; rfl)))
                      have CW := Aside0.mk ((CV.out (by rw [EV.out]; decide)).trans EV.out)
                      have dq : decide (16 < x.f2) = true := decide_eq_true q
                      clear q EI2 CV EV
                      go_wp2
                      go_ret
                      exact ⟨by rw [CW.out]; rfl, HB2.out⟩
                    have t2 : decide (16 < x.f2) = false := decide_eq_false q
                    clear q
                    by_cases q : x.f2 = 1
                    · have EV := Aside0.mk (EI2.out.trans (if_pos (by unfold badC; rw [beq_iff_eq.mpr q, Bool.or_true])))
                      have CW := Aside0.mk ((CV.out (by rw [EV.out]; decide)).trans EV.out)
                      have dq : (x.f2 == 1) = true := beq_iff_eq.mpr q
                      clear q EI2 CV EV
                      go_wp2
                      go_ret
                      exact ⟨by rw [CW.out]; rfl, HB2.out⟩
                    have t3 : (x.f2 == 1) = false := beq_eq_false_iff_ne.mpr q
                    clear q
                    have EV := Aside0.mk (EI2.out.trans (if_neg (by unfold badC; rw [t1, t2, t3]; decide)))
                    have HZ2 := Aside0.mk (next0 h0 HZ.out EV.out)
                    clear EI2 CV EV HZ
                    go_wp2
                    go_roundw
                    case rel => exact ⟨i + 1, by omega, by omega, by go_num, HB2, BX2, HZ2⟩
                    case measure => simp [intOf]; omega
                  have qa : (x.f1.toList == ([] : List UInt8)) = false := beq_eq_false_iff_ne.mpr (fun e => q ((ba_nil _).mp e))
                  have qb : (x.f1.toList != ([] : List UInt8)) = true := bne_iff_ne.mpr (fun e => q ((ba_nil _).mp e))
                  have qz := Aside0.mk (beq_eq_false_iff_ne.mpr q)
                  clear q
                  go_wp2_with fail
                  refine (nm_call x.f1 SX.out.2 _).mono ?_
                  rintro ev w3 ⟨rfl, hw⟩
                  have HB3 := Aside0.mk (below_step HB2.out hw)
                  have BK3 := Aside0.mk (blk_below BK2.out hw)
                  have BX3 := Aside0.mk (blk_below BX2.out hw)
                  clear hw d0 d1 d2
                  obtain ⟨d0, d1, d2⟩ := cells3 BK3.out
                  cases hnm : nmB x.f1 with
                  | false =>
                    have EV := Aside0.mk (EI.out.trans (if_pos (by unfold badP; rw [qz.out, hnm, PA.out]; rfl)))
                    have CW := Aside0.mk ((CV.out (by rw [EV.out]; decide)).trans EV.out)
                    clear hnm EI CV EV PA
                    go_wp2
                    go_ret
                    exact ⟨by rw [CW.out]; rfl, HB3.out⟩
                  | true =>
                    have PBV : badP x = false := by unfold badP; rw [PA.out, hnm, Bool.not_true, Bool.and_false]; rfl
                    clear hnm PA
                    have PB := Aside0.mk PBV
                    have EI2 := Aside0.mk (EI.out.trans (if_neg (by rw [PB.out]; decide)))
                    clear PBV PB EI
                    by_cases q : x.f2 < 0
                    · have EV := Aside0.mk (EI2.out.trans (if_pos (by unfold badC; rw [decide_eq_true q]; rfl)))
                      have CW := Aside0.mk ((CV.out (by rw [EV.out]; decide)).trans EV.out)
                      have dq : decide (x.f2 < 0) = true := decide_eq_true q
                      clear q EI2 CV EV
                      go_wp2
                      go_ret
                      exact ⟨by rw [CW.out]; rfl, HB3.out⟩
                    have t1 : decide (x.f2 < 0) = false := decide_eq_false q
                    clear q
                    by_cases q : 16 < x.f2
                    · have EV := Aside0.mk (EI2.out.trans (if_pos (by unfold badC; rw [decide_eq_true q, Bool.or_true]; rfl)))
                      have CW := Aside0.mk ((CV.out (by rw [EV.out]; decide)).trans EV.out)
                      have dq : decide (16 < x.f2) = true := decide_eq_true q
                      clear q EI2 CV EV
                      go_wp2
                      go_ret
                      exact ⟨by rw [CW.out]; rfl, HB3.out⟩
                    have t2 : decide (16 < x.f2) = false := decide_eq_false q
                    clear q
                    by_cases q : x.f2 = 1
                    · have EV := Aside0.mk (EI2.out.trans (if_pos (by unfold badC; rw [beq_iff_eq.mpr q, Bool.or_true])))
                      have CW := Aside0.mk ((CV.out (by rw [EV.out]; decide)).trans EV.out)
                      have dq : (x.f2 == 1) = true := beq_iff_eq.mpr q
                      clear q EI2 CV EV
                      go_wp2
                      go_ret
                      exact ⟨by rw [CW.out]; rfl, HB3.out⟩
                    have t3 : (x.f2 == 1) = false := beq_eq_false_iff_ne.mpr q
                    clear q
                    have EV := Aside0.mk (EI2.out.trans (if_neg (by unfold badC; rw [t1, t2, t3]; decide)))
                    have HZ2 := Aside0.mk (next0 h0 HZ.out EV.out)
                    clear EI2 CV EV HZ
                    go_wp2
                    go_roundw
                    case rel => exact ⟨i + 1, by omega, by omega, by go_num, HB3, BX3, HZ2⟩
                    case measure => simp [intOf]; omega
            · have e1 : decide (i < (l3.length : Int)) = false := decide_eq_false hlt
              have Z3 := Aside0.mk (all0 h1 hlt HZ.out)
              have CV := Aside0.mk (cv4 NP.out NL.out Z1.out Z2.out Z3.out)
              have FT := fits HT.out (by have := NP.out; omega) k1 k2 k3 Z1.out Z2.out Z3.out
              obtain ⟨lim, f1, f2, f3, f4, f5⟩ := FT
              have g0 : wr.cell? ⟨w.heap.size, 0, none⟩ = some (.int .i64 p) := by rw [Lib.cell_of_heap BX.out]; rfl
              have g1 : wr.cell? ⟨w.heap.size, 1, none⟩ = some (.slice A1 l1.length c1) := by rw [Lib.cell_of_heap BX.out]; rfl
              have g2 : wr.cell? ⟨w.heap.size, 2, none⟩ = some (.slice A2 l2.length c2) := by rw [Lib.cell_of_heap BX.out]; rfl
              have g3 : wr.cell? ⟨w.heap.size, 3, none⟩ = some (.slice A3 l3.length c3) := by rw [Lib.cell_of_heap BX.out]; rfl
              have WC := Aside0.mk (write_calls lim p A1 c1 l1 A2 c2 l2 A3 c3 l3 wr (Kd.C_below HR1.out HB.out) HM1.out (Kd.C_below HR2.out HB.out) HM2.out (Kd.C_below HR3.out HB.out) HM3.out (okL_step f1 HB.out) f2 f3 f4 f5)
              have WL := Aside0.mk (wr_len f1 f2 f3 f4 f5)
              clear f1 f2 f3 f4 f5 HZ hlt h0 h1
              go_wp2_with fail
              refine WC.out.mono ?_
              rintro ev w2 ⟨rfl, hw⟩
              have HB2 := Aside0.mk (below_step HB.out hw)
              have d6 : decide (262144 < ((wrL p l1 l2 l3).length : Int)) = false := decide_eq_false (by have := WL.out; omega)
              clear hw WC HB BX
              go_wp2
              go_ret
              exact ⟨by rw [CV.out]; rfl, HB2.out⟩
end Go.Proofs.YtpkpmdmmnhmnlaaDoor.PT
