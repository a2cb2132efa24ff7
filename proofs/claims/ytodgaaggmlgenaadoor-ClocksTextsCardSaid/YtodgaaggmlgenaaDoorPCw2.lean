/- What clocks.write answers: the text, line by line. -/
import Derived.Test.YtodgaaggmlgenaaDoorPCw1
set_option linter.unusedSectionVars false
namespace Go.Proofs.YtodgaaggmlgenaaDoor.PC
open Go.Sort Go.RowKit Go.Proofs.YtodgaaggmlgenaaDoorW.PrintWords Go.Proofs.YtodgaaggmlgenaaDoorW.PrintLast Go.Proofs.YtodgaaggmlgenaaDoorW.PrintMore
set_option linter.unusedVariables false
set_option linter.unusedSimpArgs false

def perB (n : Int) : ByteArray := ((⟨#[112, 101, 114, 105, 111, 100, 32]⟩ : ByteArray) ++ itB n) ++ ⟨#[10]⟩
def inB (x : S51) : ByteArray := ((((((⟨#[105, 110, 112, 117, 116, 32]⟩ : ByteArray) ++ x.f0) ++ ⟨#[32]⟩) ++ itB x.f1.f0) ++ ⟨#[32]⟩) ++ itB x.f1.f1) ++ ⟨#[10]⟩
def outB (x : S53) : ByteArray := ((((⟨#[111, 117, 116, 112, 117, 116, 32]⟩ : ByteArray) ++ x.f0) ++ ⟨#[32]⟩) ++ itB x.f1) ++ ⟨#[10]⟩
def pathB (x : S49) : ByteArray := if x.f2 = 0 then ((((⟨#[102, 97, 108, 115, 101, 32]⟩ : ByteArray) ++ whomB x.f0) ++ ⟨#[32]⟩) ++ whomB x.f1) ++ ⟨#[10]⟩
  else ((((((⟨#[109, 117, 108, 116, 105, 32]⟩ : ByteArray) ++ itB x.f2) ++ ⟨#[32]⟩) ++ whomB x.f0) ++ ⟨#[32]⟩) ++ whomB x.f1) ++ ⟨#[10]⟩
def catL {α : Type} (f : α → ByteArray) (l : List α) : List UInt8 := l.flatMap fun x => (f x).data.toList
def wrL (p : Int) (i : List S51) (o : List S53) (q : List S49) : List UInt8 := (((perB p).data.toList ++ catL inB i) ++ catL outB o) ++ catL pathB q

def okN (lim n : Int) : Prop := 0 ≤ n ∧ n < lim
def okI (lim : Int) (l : List S51) : Prop := l.length ≤ 128 ∧ ∀ x ∈ l, x.f0.size ≤ 128 ∧ okN lim x.f1.f0 ∧ okN lim x.f1.f1
def okO (lim : Int) (l : List S53) : Prop := l.length ≤ 128 ∧ ∀ x ∈ l, x.f0.size ≤ 128 ∧ okN lim x.f1
def okP (lim : Int) (l : List S49) : Prop := l.length ≤ 64 ∧ ∀ x ∈ l, x.f0.size ≤ 128 ∧ x.f1.size ≤ 128 ∧ okN lim x.f2
def okL (B : Nat) (w : World) (lim : Int) : Prop := lim ≤ 100 ∨ (lim ≤ 1000000000 ∧ TB B w)
theorem numT_of {B : Nat} {w w' : World} {lim n : Int} (h : okL B w lim) (hb : Below B w w') (hn : okN lim n) : NumT B w' n := by
  unfold okN at hn
  rcases h with h | ⟨h, ht⟩
  · exact .inl ⟨by omega, by omega⟩
  · exact .inr ⟨by omega, by omega, TB_on ht hb⟩
theorem itB_size (n : Int) (h0 : 0 ≤ n) (h1 : n < 1000000000) : (itB n).size ≤ 21 := Lib.itoa_length_le n (by omega) (by omega)
theorem okL_lt {B : Nat} {w : World} {lim n : Int} (h : okL B w lim) (hn : okN lim n) : 0 ≤ n ∧ n < 1000000000 := by
  unfold okN at hn
  rcases h with h | ⟨h, _⟩ <;> omega
theorem perSz (n : Int) (h0 : 0 ≤ n) (h1 : n < 1000000000) : (perB n).size ≤ 29 := by
  have := itB_size n h0 h1
  unfold perB
  rw [ByteArray.size_append, ByteArray.size_append]
  show 7 + (itB n).size + 1 ≤ 29
  omega
theorem rd_mem {α : Type} (l : List α) (z : α) (i : Int) (h0 : 0 ≤ i) (h1 : i < l.length) : l.getD i.toNat z ∈ l := by
  have hn : i.toNat < l.length := by omega
  rw [List.getD_eq_getElem?_getD, List.getElem?_eq_getElem hn]
  exact List.getElem_mem hn
theorem whomB_size (s : ByteArray) (h : s.size ≤ 128) : (whomB s).size ≤ 129 := by
  unfold whomB
  split
  · show 1 ≤ 129; omega
  · rw [ByteArray.size_append]; show 1 + s.size ≤ 129; omega

theorem baLen (b : ByteArray) : b.data.toList.length = b.size := Array.length_toList
theorem inSz {lim : Int} {B : Nat} {w : World} (hl : okL B w lim) (x : S51) (h : x.f0.size ≤ 128 ∧ okN lim x.f1.f0 ∧ okN lim x.f1.f1) : (inB x).size ≤ 300 := by
  have a := okL_lt hl h.2.1
  have b := okL_lt hl h.2.2
  have c := itB_size _ a.1 a.2
  have d := itB_size _ b.1 b.2
  have e := h.1
  unfold inB
  simp only [ByteArray.size_append]
  show 6 + x.f0.size + 1 + (itB x.f1.f0).size + 1 + (itB x.f1.f1).size + 1 ≤ 300
  omega
theorem outSz {lim : Int} {B : Nat} {w : World} (hl : okL B w lim) (x : S53) (h : x.f0.size ≤ 128 ∧ okN lim x.f1) : (outB x).size ≤ 300 := by
  have a := okL_lt hl h.2
  have c := itB_size _ a.1 a.2
  have e := h.1
  unfold outB
  simp only [ByteArray.size_append]
  show 7 + x.f0.size + 1 + (itB x.f1).size + 1 ≤ 300
  omega
theorem pathSz {lim : Int} {B : Nat} {w : World} (hl : okL B w lim) (x : S49) (h : x.f0.size ≤ 128 ∧ x.f1.size ≤ 128 ∧ okN lim x.f2) : (pathB x).size ≤ 300 := by
  have a := okL_lt hl h.2.2
  have c := itB_size _ a.1 a.2
  have d := whomB_size _ h.1
  have e := whomB_size _ h.2.1
  unfold pathB
  split
  · simp only [ByteArray.size_append]
    show 6 + (whomB x.f0).size + 1 + (whomB x.f1).size + 1 ≤ 300
    omega
  · simp only [ByteArray.size_append]
    show 6 + (itB x.f2).size + 1 + (whomB x.f0).size + 1 + (whomB x.f1).size + 1 ≤ 300
    omega
theorem cat_len {α : Type} (f : α → ByteArray) : ∀ (l : List α), (∀ x ∈ l, (f x).size ≤ 300) → (catL f l).length ≤ l.length * 300
  | [], _ => by simp [catL]
  | x :: l, h => by
    have ih := cat_len f l (fun y hy => h y (List.mem_cons_of_mem _ hy))
    have hx := h x List.mem_cons_self
    have e := baLen (f x)
    unfold catL at ih ⊢
    rw [List.flatMap_cons, List.length_append, e, List.length_cons]
    omega
theorem cat_take {α : Type} (f : α → ByteArray) (l : List α) (n : Nat) (h : ∀ x ∈ l, (f x).size ≤ 300) : (catL f (l.take n)).length ≤ l.length * 300 := by
  have := cat_len f (l.take n) (fun x hx => h x (List.mem_of_mem_take hx))
  have h2 : (l.take n).length ≤ l.length := List.length_take_le' n l
  exact Nat.le_trans this (Nat.mul_le_mul_right 300 h2)
theorem cat_next {α : Type} (f : α → ByteArray) (l : List α) (z : α) (i : Int) (h0 : 0 ≤ i) (h1 : i < l.length) : catL f (l.take (i + 1).toNat) = catL f (l.take i.toNat) ++ (f (l.getD i.toNat z)).data.toList := by
  have hn : i.toNat < l.length := by omega
  have e : (i + 1).toNat = i.toNat + 1 := by omega
  unfold catL
  rw [e, List.take_succ_eq_append_getElem hn, List.flatMap_append, List.getD_eq_getElem?_getD, List.getElem?_eq_getElem hn]
  simp
theorem len2 {p : Int} {l1 : List S51} {q : List S53} {n2 : Nat} (h0 : (perB p).size ≤ 29) (h1 : (catL inB l1).length ≤ l1.length * 300) (k1 : l1.length ≤ 128) (h2 : (catL outB q).length ≤ n2 * 300) (k2 : n2 ≤ 128) :
    (((perB p).data.toList ++ catL inB l1) ++ catL outB q).length ≤ 100000 := by
  rw [List.length_append, List.length_append, baLen]
  omega
theorem len3 {p : Int} {l1 : List S51} {l2 : List S53} {q : List S49} {n3 : Nat} (h0 : (perB p).size ≤ 29) (h1 : (catL inB l1).length ≤ l1.length * 300) (k1 : l1.length ≤ 128) (h2 : (catL outB l2).length ≤ l2.length * 300) (k2 : l2.length ≤ 128) (h3 : (catL pathB q).length ≤ n3 * 300) (k3 : n3 ≤ 64) :
    ((((perB p).data.toList ++ catL inB l1) ++ catL outB l2) ++ catL pathB q).length ≤ 100000 := by
  rw [List.length_append, List.length_append, List.length_append, baLen]
  omega
theorem ne_b {T e : TypeId} {B b g : Nat} {bs : List Value} {w : World} (h : Lib.IsBuilderF T e B b bs w) (hg : w.heap.size ≤ g) : some g ≠ some b := by
  have hb : b < w.heap.size := h.elim (fun x => x.lt) (fun x => x.lt)
  intro he
  have := Option.some.inj he
  omega

set_option maxHeartbeats 4000000 in
set_option maxRecDepth 100000 in
theorem write_calls (lim p : Int) (A1 : Option Addr) (c1 : Nat) (l1 : List S51) (A2 : Option Addr) (c2 : Nat) (l2 : List S53) (A3 : Option Addr) (c3 : Nat) (l3 : List S49) (w : World)
    (hr1 : Kd.C k51 w A1 l1.length l1) (hc1 : l1.length ≤ c1) (hr2 : Kd.C k53 w A2 l2.length l2) (hc2 : l2.length ≤ c2) (hr3 : Kd.C k49 w A3 l3.length l3) (hc3 : l3.length ≤ c3)
    (hL : okL w.heap.size w lim) (hp : okN lim p) (h1 : okI lim l1) (h2 : okO lim l2) (h3 : okP lim l3) :
    Calls Tryd.prog 20 #[.agg #[.int .i64 p, .slice A1 l1.length c1, .slice A2 l2.length c2, .slice A3 l3.length c3]] w fun e w' => e = .returned (.string ⟨(wrL p l1 l2 l3).toArray⟩) ∧ Below w.heap.size w w' := by
  have hu26 := Tryd.underlying26
  have HR1 := Aside0.mk hr1
  have HR2 := Aside0.mk hr2
  have HR3 := Aside0.mk hr3
  have HL := Aside0.mk hL
  have HP := Aside0.mk hp
  have H1 := Aside0.mk h1
  have H2 := Aside0.mk h2
  have H3 := Aside0.mk h3
  clear hr1 hr2 hr3 hL hp h1 h2 h3
  have k1 : l1.length ≤ 128 := H1.out.1
  have k2 : l2.length ≤ 128 := H2.out.1
  have k3 : l3.length ≤ 64 := H3.out.1
  have HB := Aside0.mk (Below.refl w.heap.size w)
  have NP := Aside0.mk (okL_lt HL.out HP.out)
  have IP := Aside0.mk (itB_size p NP.out.1 NP.out.2)
  have e1 : (9223372036854775807 < 7 + (itB p).size) = False := eq_false (by have := IP.out; omega)
  have e2 : (9223372036854775807 < 7 + (itB p).size + 1) = False := eq_false (by have := IP.out; omega)
  have HW1 := Aside0.mk (below_alloc (below_alloc HB.out (.cells #[.int .i64 p, .slice A1 l1.length c1, .slice A2 l2.length c2, .slice A3 l3.length c3] 26)) (.cells #[.pointer none, .slice none 0 0] 70))
  have BX1 := Aside0.mk (blk_alloc (blk_new w (.cells #[.int .i64 p, .slice A1 l1.length c1, .slice A2 l2.length c2, .slice A3 l3.length c3] 26)) (.cells #[.pointer none, .slice none 0 0] 70))
  have BD1 := Aside0.mk (Lib.IsBuilderF.of (Lib.fresh_isBuilder 70 5 (w.alloc (.cells #[.int .i64 p, .slice A1 l1.length c1, .slice A2 l2.length c2, .slice A3 l3.length c3] 26))))
  have hsz : (w.alloc (.cells #[.int .i64 p, .slice A1 l1.length c1, .slice A2 l2.length c2, .slice A3 l3.length c3] 26)).heap.size = w.heap.size + 1 := by simp
  rw [hsz] at BD1
  clear hsz
  go_enter Tryd.func20, Tryd.ntmps20
  go_wp2_with fail
  refine (num_calls w.heap.size p _ (numT_of HL.out HW1.out HP.out)).mono ?_
  rintro e w1 ⟨rfl, hw1⟩
  have HW2 := Aside0.mk (below_step HW1.out hw1)
  have BX2 := Aside0.mk (blk_below BX1.out hw1)
  have BD2 := Aside0.mk (bld_below BD1.out hw1)
  clear HW1 BX1 BD1 hw1
  go_wp2_with fail
  refine (Tryd.Builder_WriteString_k (w.heap.size + 1) (w.heap.size + 1) _ _ _ BD2.out ?hlen (blk_lt BX2.out)).mono ?_
  case hlen => have := (perSz p NP.out.1 NP.out.2); unfold perB at this; simp only [List.length_nil]; omega
  rintro e w2 ⟨rfl, hb2, hw2, _⟩
  have HW3 := Aside0.mk (HW2.out.trans (hw2.mono (Nat.le_succ _)))
  have BX3 := Aside0.mk ((hw2.block w.heap.size (Nat.lt_succ_self _)).trans BX2.out)
  have BD3 : Aside0 (Lib.IsBuilderF 70 5 (w.heap.size + 1) (w.heap.size + 1) (Lib.byteCells (perB p).data.toList) w2) := ⟨by rw [List.nil_append, Lib.strCells_eq] at hb2; exact Or.inr hb2⟩
  clear HW2 BX2 BD2 hb2 hw2
  have d0 : w2.cell? ⟨w.heap.size, 1, none⟩ = some (.slice A1 l1.length c1) := by rw [Lib.cell_of_heap BX3.out]; rfl
  go_wp2_with fail
  go_loopw [22] (fun v wr => ∃ i : Int, 0 ≤ i ∧ i ≤ l1.length ∧ v = .int .i64 i ∧ Aside0 (Below w.heap.size w wr) ∧ Aside0 (wr.heap[w.heap.size]? = some (.cells #[.int .i64 p, .slice A1 l1.length c1, .slice A2 l2.length c2, .slice A3 l3.length c3] 26 (0, 0))) ∧ Aside0 (Lib.IsBuilderF 70 5 (w.heap.size + 1) (w.heap.size + 1) (Lib.byteCells ((perB p).data.toList ++ catL inB (l1.take i.toNat))) wr)) (fun v _ => (l1.length - (intOf v).toNat))
  case atStart => exact ⟨0, by omega, by omega, rfl, HW3, BX3, ⟨by simpa [catL] using BD3.out⟩⟩
  case round =>
    clear HW3 BX3 BD3 d0
    obtain ⟨i, h0, h1, rfl, HW4, BX4, BD4⟩ := hrel
    by_cases hlt : i < l1.length
    · obtain ⟨ad, rfl, d0, d1, d2⟩ := at_T51 (Kd.C_below HR1.out HW4.out) i h0 hlt
      have e1 : decide (i < (l1.length : Int)) = true := decide_eq_true hlt
      have hx := Aside0.mk (H1.out.2 (rd_T51 l1 i) (rd_mem l1 z51 i h0 hlt))
      have hn := Aside0.mk (cat_next inB l1 z51 i h0 hlt)
      have hz := Aside0.mk (inSz HL.out _ hx.out)
      have hl := Aside0.mk (cat_take inB l1 i.toNat (fun y hy => inSz HL.out y (H1.out.2 y hy)))
      have hlen : ((perB p).data.toList ++ catL inB (l1.take i.toNat)).length ≤ 100000 := by
        have a := perSz p NP.out.1 NP.out.2
        have e := baLen (perB p)
        have b := hl.out
        have c := H1.out.1
        rw [List.length_append, e]
        omega
      have HLEN := Aside0.mk hlen
      clear hl hlen
      change Aside0 (_ = _ ++ (inB (rd_T51 l1 i)).data.toList) at hn
      have NB := Aside0.mk (ne_b BD4.out (Nat.le_refl _))
      generalize rd_T51 l1 i = x at *
      have nlo := okL_lt HL.out hx.out.2.1
      have nhi := okL_lt HL.out hx.out.2.2
      have s0 := hx.out.1
      have slo := itB_size x.f1.f0 nlo.1 nlo.2
      have shi := itB_size x.f1.f1 nhi.1 nhi.2
      have q1 : (9223372036854775807 < 6 + x.f0.size) = False := eq_false (by omega)
      have q2 : (9223372036854775807 < 6 + x.f0.size + 1) = False := eq_false (by omega)
      have q3 : (9223372036854775807 < 6 + x.f0.size + 1 + (itB x.f1.f0).size) = False := eq_false (by omega)
      have q4 : (9223372036854775807 < 6 + x.f0.size + 1 + (itB x.f1.f0).size + 1) = False := eq_false (by omega)
      have q5 : (9223372036854775807 < 6 + x.f0.size + 1 + (itB x.f1.f0).size + 1 + (itB x.f1.f1).size) = False := eq_false (by omega)
      have q6 : (9223372036854775807 < 6 + x.f0.size + 1 + (itB x.f1.f0).size + 1 + (itB x.f1.f1).size + 1) = False := eq_false (by omega)
      have SZ := Aside0.mk (And.intro s0 (And.intro slo shi))
      clear nlo nhi s0 slo shi
      have X0 := Aside0.mk (blk_drew (blk_new wr (.cells #[.string x.f0, .int .i64 x.f1.f0, .int .i64 x.f1.f1] 51)))
      have HW5 := Aside0.mk (below_drew1 (below_alloc HW4.out (.cells #[.string x.f0, .int .i64 x.f1.f0, .int .i64 x.f1.f1] 51)))
      have BX5 := Aside0.mk (blk_drew (blk_alloc BX4.out (.cells #[.string x.f0, .int .i64 x.f1.f0, .int .i64 x.f1.f1] 51)))
      have BD5 := Aside0.mk (bld_drew (BD4.out.alloc (.cells #[.string x.f0, .int .i64 x.f1.f0, .int .i64 x.f1.f1] 51)))
      clear HW4 BX4 BD4
      go_wp2_with fail
      go_region_held3 (fun w' => w'.cell? ⟨wr.heap.size, 0, none⟩ = some (.string x.f0) ∧ w'.cell? ⟨wr.heap.size, 1, none⟩ = some (.int .i64 x.f1.f0) ∧ w'.cell? ⟨wr.heap.size, 2, none⟩ = some (.int .i64 x.f1.f1))
        (first | exact cells3 XC.out | exact cells3 XB.out | exact cells3 XA.out | exact cells3 X0.out)
        (first
          | (go_at_call 33; have q := HWA; refine (num_calls w.heap.size x.f1.f1 _ (numT_of HL.out q.out hx.out.2.2)).mono ?_; rintro e w2 ⟨rfl, hw⟩; have HWB := Aside0.mk (below_step HWA.out hw); have XB := Aside0.mk (blk_below XA.out hw); have BXB := Aside0.mk (blk_below BXA.out hw); have BDB := Aside0.mk (bld_below BDA.out hw))
          | (go_at_call 33; refine (num_calls w.heap.size x.f1.f0 _ (numT_of HL.out HW5.out hx.out.2.1)).mono ?_; rintro e w1 ⟨rfl, hw⟩; have HWA := Aside0.mk (below_step HW5.out hw); have XA := Aside0.mk (blk_below X0.out hw); have BXA := Aside0.mk (blk_below BX5.out hw); have BDA := Aside0.mk (bld_below BD5.out hw))
          | (go_at_call 35; refine (Tryd.Builder_WriteString_k (w.heap.size + 1) (w.heap.size + 1) _ (inB x) _ BDB.out (by rw [Lib.byteCells_length]; have := HLEN.out; have := hz.out; omega) (blk_lt BXB.out)).mono ?_; rintro e w3 ⟨rfl, hb, hw, hk⟩; have HWC := Aside0.mk (HWB.out.trans (hw.mono (Nat.le_succ _))); have BXC := Aside0.mk ((hw.block w.heap.size (Nat.lt_succ_self _)).trans BXB.out); have BDC := Aside0.mk (bld_at rfl hb); have XC := Aside0.mk (hk _ _ XB.out NB.out (fun c fz h => by simp at h))))
      go_wp2
      go_roundw
      case rel => exact ⟨i + 1, by omega, by omega, by go_num, HWC, BXC, ⟨by rw [hn.out, ← List.append_assoc]; exact BDC.out⟩⟩
      case measure => simp [intOf]; omega
    · have e1 : decide (i < (l1.length : Int)) = false := decide_eq_false hlt
      have hi : l1.take i.toNat = l1 := List.take_of_length_le (by omega)
      rw [hi] at BD4
      clear hi
      have d0 : wr.cell? ⟨w.heap.size, 2, none⟩ = some (.slice A2 l2.length c2) := by rw [Lib.cell_of_heap BX4.out]; rfl
      go_wp2_with fail
      go_loopw [49] (fun v wr => ∃ i : Int, 0 ≤ i ∧ i ≤ l2.length ∧ v = .int .i64 i ∧ Aside0 (Below w.heap.size w wr) ∧ Aside0 (wr.heap[w.heap.size]? = some (.cells #[.int .i64 p, .slice A1 l1.length c1, .slice A2 l2.length c2, .slice A3 l3.length c3] 26 (0, 0))) ∧ Aside0 (Lib.IsBuilderF 70 5 (w.heap.size + 1) (w.heap.size + 1) (Lib.byteCells (((perB p).data.toList ++ catL inB l1) ++ catL outB (l2.take i.toNat))) wr)) (fun v _ => (l2.length - (intOf v).toNat))
      case atStart => exact ⟨0, by omega, by omega, rfl, HW4, BX4, ⟨by simpa [catL] using BD4.out⟩⟩
      case round =>
        clear HW4 BX4 BD4 d0 e1 hlt h0 h1
        obtain ⟨i, h0, h1, rfl, HW4, BX4, BD4⟩ := hrel
        by_cases hlt : i < l2.length
        · obtain ⟨ad, rfl, d0, d1⟩ := at_T53 (Kd.C_below HR2.out HW4.out) i h0 hlt
          have e1 : decide (i < (l2.length : Int)) = true := decide_eq_true hlt
          have hx := Aside0.mk (H2.out.2 (rd_T53 l2 i) (rd_mem l2 z53 i h0 hlt))
          have hn := Aside0.mk (cat_next outB l2 z53 i h0 hlt)
          have hz := Aside0.mk (outSz HL.out _ hx.out)
          have HLEN := Aside0.mk (len2 (perSz p NP.out.1 NP.out.2) (cat_len inB l1 (fun y hy => inSz HL.out y (H1.out.2 y hy))) k1 (cat_take outB l2 i.toNat (fun y hy => outSz HL.out y (H2.out.2 y hy))) k2)
          change Aside0 (_ = _ ++ (outB (rd_T53 l2 i)).data.toList) at hn
          have NB := Aside0.mk (ne_b BD4.out (Nat.le_refl _))
          generalize rd_T53 l2 i = x at *
          have nlo := okL_lt HL.out hx.out.2
          have s0 := hx.out.1
          have slo := itB_size x.f1 nlo.1 nlo.2
          have q1 : (9223372036854775807 < 7 + x.f0.size) = False := eq_false (by omega)
          have q2 : (9223372036854775807 < 7 + x.f0.size + 1) = False := eq_false (by omega)
          have q3 : (9223372036854775807 < 7 + x.f0.size + 1 + (itB x.f1).size) = False := eq_false (by omega)
          have q4 : (9223372036854775807 < 7 + x.f0.size + 1 + (itB x.f1).size + 1) = False := eq_false (by omega)
          clear nlo s0 slo
          have X0 := Aside0.mk (blk_drew (blk_new wr (.cells #[.string x.f0, .int .i64 x.f1] 53)))
          have HW5 := Aside0.mk (below_drew1 (below_alloc HW4.out (.cells #[.string x.f0, .int .i64 x.f1] 53)))
          have BX5 := Aside0.mk (blk_drew (blk_alloc BX4.out (.cells #[.string x.f0, .int .i64 x.f1] 53)))
          have BD5 := Aside0.mk (bld_drew (BD4.out.alloc (.cells #[.string x.f0, .int .i64 x.f1] 53)))
          clear HW4 BX4 BD4
          go_wp2_with fail
          go_region_held3 (fun w' => w'.cell? ⟨wr.heap.size, 0, none⟩ = some (.string x.f0) ∧ w'.cell? ⟨wr.heap.size, 1, none⟩ = some (.int .i64 x.f1))
            (first | exact cells2 XC.out | exact cells2 XA.out | exact cells2 X0.out)
            (first
              | (go_at_call 33; refine (num_calls w.heap.size x.f1 _ (numT_of HL.out HW5.out hx.out.2)).mono ?_; rintro e w1 ⟨rfl, hw⟩; have HWA := Aside0.mk (below_step HW5.out hw); have XA := Aside0.mk (blk_below X0.out hw); have BXA := Aside0.mk (blk_below BX5.out hw); have BDA := Aside0.mk (bld_below BD5.out hw))
              | (go_at_call 35; refine (Tryd.Builder_WriteString_k (w.heap.size + 1) (w.heap.size + 1) _ (outB x) _ BDA.out (by rw [Lib.byteCells_length]; have := HLEN.out; have := hz.out; omega) (blk_lt BXA.out)).mono ?_; rintro e w3 ⟨rfl, hb, hw, hk⟩; have HWC := Aside0.mk (HWA.out.trans (hw.mono (Nat.le_succ _))); have BXC := Aside0.mk ((hw.block w.heap.size (Nat.lt_succ_self _)).trans BXA.out); have BDC := Aside0.mk (bld_at rfl hb); have XC := Aside0.mk (hk _ _ XA.out NB.out (fun c fz h => by simp at h))))
          go_wp2
          go_roundw
          case rel => exact ⟨i + 1, by omega, by omega, by go_num, HWC, BXC, ⟨by rw [hn.out, ← List.append_assoc]; exact BDC.out⟩⟩
          case measure => simp [intOf]; omega
        · have e1 : decide (i < (l2.length : Int)) = false := decide_eq_false hlt
          have hi : l2.take i.toNat = l2 := List.take_of_length_le (by omega)
          rw [hi] at BD4
          clear hi
          have d0 : wr.cell? ⟨w.heap.size, 3, none⟩ = some (.slice A3 l3.length c3) := by rw [Lib.cell_of_heap BX4.out]; rfl
          go_wp2_with fail
          go_loopw [68] (fun v wr => ∃ i : Int, 0 ≤ i ∧ i ≤ l3.length ∧ v = .int .i64 i ∧ Aside0 (Below w.heap.size w wr) ∧ Aside0 (wr.heap[w.heap.size]? = some (.cells #[.int .i64 p, .slice A1 l1.length c1, .slice A2 l2.length c2, .slice A3 l3.length c3] 26 (0, 0))) ∧ Aside0 (Lib.IsBuilderF 70 5 (w.heap.size + 1) (w.heap.size + 1) (Lib.byteCells ((((perB p).data.toList ++ catL inB l1) ++ catL outB l2) ++ catL pathB (l3.take i.toNat))) wr)) (fun v _ => (l3.length - (intOf v).toNat))
          case atStart => exact ⟨0, by omega, by omega, rfl, HW4, BX4, ⟨by simpa [catL] using BD4.out⟩⟩
          case round =>
            clear HW4 BX4 BD4 d0 e1 hlt h0 h1
            obtain ⟨i, h0, h1, rfl, HW4, BX4, BD4⟩ := hrel
            by_cases hlt : i < l3.length
            · obtain ⟨ad, rfl, d0, d1, d2⟩ := at_T49 (Kd.C_below HR3.out HW4.out) i h0 hlt
              have e1 : decide (i < (l3.length : Int)) = true := decide_eq_true hlt
              have hx := Aside0.mk (H3.out.2 (rd_T49 l3 i) (rd_mem l3 z49 i h0 hlt))
              have hn := Aside0.mk (cat_next pathB l3 z49 i h0 hlt)
              have hz := Aside0.mk (pathSz HL.out _ hx.out)
              have HLEN := Aside0.mk (len3 (perSz p NP.out.1 NP.out.2) (cat_len inB l1 (fun y hy => inSz HL.out y (H1.out.2 y hy))) k1 (cat_len outB l2 (fun y hy => outSz HL.out y (H2.out.2 y hy))) k2 (cat_take pathB l3 i.toNat (fun y hy => pathSz HL.out y (H3.out.2 y hy))) k3)
              change Aside0 (_ = _ ++ (pathB (rd_T49 l3 i)).data.toList) at hn
              have NB := Aside0.mk (ne_b BD4.out (Nat.le_refl _))
              generalize rd_T49 l3 i = x at *
              have nlo := okL_lt HL.out hx.out.2.2
              have s0 := whomB_size _ hx.out.1
              have s1 := whomB_size _ hx.out.2.1
              have slo := itB_size x.f2 nlo.1 nlo.2
              have W0 := Aside0.mk (show x.f0.size ≤ 1000000 by have := hx.out.1; omega)
              have W1 := Aside0.mk (show x.f1.size ≤ 1000000 by have := hx.out.2.1; omega)
              have X0 := Aside0.mk (blk_drew (blk_new wr (.cells #[.string x.f0, .string x.f1, .int .i64 x.f2] 49)))
              have HW5 := Aside0.mk (below_drew1 (below_alloc HW4.out (.cells #[.string x.f0, .string x.f1, .int .i64 x.f2] 49)))
              have BX5 := Aside0.mk (blk_drew (blk_alloc BX4.out (.cells #[.string x.f0, .string x.f1, .int .i64 x.f2] 49)))
              have BD5 := Aside0.mk (bld_drew (BD4.out.alloc (.cells #[.string x.f0, .string x.f1, .int .i64 x.f2] 49)))
              clear HW4 BX4 BD4
              by_cases h2z : x.f2 = 0
              · have e2 : (x.f2 == 0) = true := beq_iff_eq.mpr h2z
                have PB := Aside0.mk (show pathB x = _ from if_pos h2z)
                clear h2z
                have q1 : (9223372036854775807 < 6 + (whomB x.f0).size) = False := eq_false (by omega)
                have q2 : (9223372036854775807 < 6 + (whomB x.f0).size + 1) = False := eq_false (by omega)
                have q3 : (9223372036854775807 < 6 + (whomB x.f0).size + 1 + (whomB x.f1).size) = False := eq_false (by omega)
                have q4 : (9223372036854775807 < 6 + (whomB x.f0).size + 1 + (whomB x.f1).size + 1) = False := eq_false (by omega)
                rw [PB.out] at hn hz
                clear nlo s0 s1 slo
                go_wp2_with fail
                go_region_held3 (fun w' => w'.cell? ⟨wr.heap.size, 0, none⟩ = some (.string x.f0) ∧ w'.cell? ⟨wr.heap.size, 1, none⟩ = some (.string x.f1) ∧ w'.cell? ⟨wr.heap.size, 2, none⟩ = some (.int .i64 x.f2))
                  (first | exact cells3 XC.out | exact cells3 XB.out | exact cells3 XA.out | exact cells3 X0.out)
                  (first
                    | (go_at_call 36; have q := HWA; refine (all_calls x.f1 _ W1.out).mono ?_; rintro e w2 ⟨rfl, hw⟩; have HWB := Aside0.mk (below_step HWA.out hw); have XB := Aside0.mk (blk_below XA.out hw); have BXB := Aside0.mk (blk_below BXA.out hw); have BDB := Aside0.mk (bld_below BDA.out hw))
                    | (go_at_call 36; refine (all_calls x.f0 _ W0.out).mono ?_; rintro e w1 ⟨rfl, hw⟩; have HWA := Aside0.mk (below_step HW5.out hw); have XA := Aside0.mk (blk_below X0.out hw); have BXA := Aside0.mk (blk_below BX5.out hw); have BDA := Aside0.mk (bld_below BD5.out hw))
                    | (go_at_call 35; refine (Tryd.Builder_WriteString_k (w.heap.size + 1) (w.heap.size + 1) _ _ _ BDB.out (by rw [Lib.byteCells_length]; have := HLEN.out; have := hz.out; omega) (blk_lt BXB.out)).mono ?_; rintro e w3 ⟨rfl, hb, hw, hk⟩; have HWC := Aside0.mk (HWB.out.trans (hw.mono (Nat.le_succ _))); have BXC := Aside0.mk ((hw.block w.heap.size (Nat.lt_succ_self _)).trans BXB.out); have BDC := Aside0.mk (bld_at rfl hb); have XC := Aside0.mk (hk _ _ XB.out NB.out (fun c fz h => by simp at h))))
                go_wp2
                go_roundw
                case rel => exact ⟨i + 1, by omega, by omega, by go_num, HWC, BXC, ⟨by rw [hn.out, ← List.append_assoc]; exact BDC.out⟩⟩
                case measure => simp [intOf]; omega
              · have e2 : (x.f2 == 0) = false := beq_eq_false_iff_ne.mpr h2z
                have PB := Aside0.mk (show pathB x = _ from if_neg h2z)
                clear h2z
                have q1 : (9223372036854775807 < 6 + (itB x.f2).size) = False := eq_false (by omega)
                have q2 : (9223372036854775807 < 6 + (itB x.f2).size + 1) = False := eq_false (by omega)
                have q3 : (9223372036854775807 < 6 + (itB x.f2).size + 1 + (whomB x.f0).size) = False := eq_false (by omega)
                have q4 : (9223372036854775807 < 6 + (itB x.f2).size + 1 + (whomB x.f0).size + 1) = False := eq_false (by omega)
                have q5 : (9223372036854775807 < 6 + (itB x.f2).size + 1 + (whomB x.f0).size + 1 + (whomB x.f1).size) = False := eq_false (by omega)
                have q6 : (9223372036854775807 < 6 + (itB x.f2).size + 1 + (whomB x.f0).size + 1 + (whomB x.f1).size + 1) = False := eq_false (by omega)
                rw [PB.out] at hn hz
                clear nlo s0 s1 slo
                go_wp2_with fail
                go_region_held3 (fun w' => w'.cell? ⟨wr.heap.size, 0, none⟩ = some (.string x.f0) ∧ w'.cell? ⟨wr.heap.size, 1, none⟩ = some (.string x.f1) ∧ w'.cell? ⟨wr.heap.size, 2, none⟩ = some (.int .i64 x.f2))
                  (first | exact cells3 XC.out | exact cells3 XB.out | exact cells3 XA.out | exact cells3 XN.out | exact cells3 X0.out)
                  (first
                    | (go_at_call 33; refine (num_calls w.heap.size x.f2 _ (numT_of HL.out HW5.out hx.out.2.2)).mono ?_; rintro e w0 ⟨rfl, hw⟩; have HWN := Aside0.mk (below_step HW5.out hw); have XN := Aside0.mk (blk_below X0.out hw); have BXN := Aside0.mk (blk_below BX5.out hw); have BDN := Aside0.mk (bld_below BD5.out hw))
                    | (go_at_call 36; have q := HWA; refine (all_calls x.f1 _ W1.out).mono ?_; rintro e w2 ⟨rfl, hw⟩; have HWB := Aside0.mk (below_step HWA.out hw); have XB := Aside0.mk (blk_below XA.out hw); have BXB := Aside0.mk (blk_below BXA.out hw); have BDB := Aside0.mk (bld_below BDA.out hw))
                    | (go_at_call 36; refine (all_calls x.f0 _ W0.out).mono ?_; rintro e w1 ⟨rfl, hw⟩; have HWA := Aside0.mk (below_step HWN.out hw); have XA := Aside0.mk (blk_below XN.out hw); have BXA := Aside0.mk (blk_below BXN.out hw); have BDA := Aside0.mk (bld_below BDN.out hw))
                    | (go_at_call 35; refine (Tryd.Builder_WriteString_k (w.heap.size + 1) (w.heap.size + 1) _ _ _ BDB.out (by rw [Lib.byteCells_length]; have := HLEN.out; have := hz.out; omega) (blk_lt BXB.out)).mono ?_; rintro e w3 ⟨rfl, hb, hw, hk⟩; have HWC := Aside0.mk (HWB.out.trans (hw.mono (Nat.le_succ _))); have BXC := Aside0.mk ((hw.block w.heap.size (Nat.lt_succ_self _)).trans BXB.out); have BDC := Aside0.mk (bld_at rfl hb); have XC := Aside0.mk (hk _ _ XB.out NB.out (fun c fz h => by simp at h))))
                go_wp2
                go_roundw
                case rel => exact ⟨i + 1, by omega, by omega, by go_num, HWC, BXC, ⟨by rw [hn.out, ← List.append_assoc]; exact BDC.out⟩⟩
                case measure => simp [intOf]; omega
            · have e1 : decide (i < (l3.length : Int)) = false := decide_eq_false hlt
              have hi : l3.take i.toNat = l3 := List.take_of_length_le (by omega)
              rw [hi] at BD4
              clear hi
              go_wp2_with fail
              refine (Tryd.Builder_String_any_k (w.heap.size + 1) (w.heap.size + 1) _ _ BD4.out (blk_lt BX4.out)).mono ?_
              rintro e w3 ⟨rfl, _, hw, _⟩
              have HWC := Aside0.mk (HW4.out.trans (hw.mono (Nat.le_succ _)))
              clear hw
              go_wp2
              go_ret
              exact ⟨by unfold wrL; simp only [List.append_assoc]; rfl, HWC.out⟩
end Go.Proofs.YtodgaaggmlgenaaDoor.PC
