-- PRINTED by print.py (a twelfth state) out of the translation. Not trusted: Lean checks it.
import Derived.Test.YtlegjcagkmjfjaaDoorPTx0
import Derived.Test.YtlegjcagkmjfjaaDoorCmp
import Derived.Maps.Views
import Derived.Maps.Own
namespace Go.Proofs.YtlegjcagkmjfjaaDoor.PT
open Go.RowKit Go.Proofs.YtlegjcagkmjfjaaDoorW.PrintWords Go.Proofs.YtlegjcagkmjfjaaDoorW.PrintLast Go.Proofs.YtlegjcagkmjfjaaDoorW.PrintMore
attribute [local go_sem] max2_int min2_int max_two min_two max_three min_three max_four min_four   -- for this text's walks alone
set_option linter.unusedVariables false
set_option linter.unusedSimpArgs false

theorem eqA47 (d : Nat) (w : World) (x0 y0 : Bool) (x1 y1 : Int) (x2 y2 : Int) :
    (Op.equalIn (d + 2) 47 (.agg #[.bool x0, .int .i64 x1, .int .i64 x2]) (.agg #[.bool y0, .int .i64 y1, .int .i64 y2])).run Tryd.prog w = .ok (x0 == y0 && (x1 == y1 && (x2 == y2))) w := by
  refine eqA_of Tryd.underlying47 (by kernel_rfl) ?_
  refine eqf_cons (by rfl) (by go_simp; rfl) (by go_simp; rfl) (by go_simp) ?_
  refine eqf_cons (by rfl) (by go_simp; rfl) (by go_simp; rfl) (by go_simp) ?_
  exact eqf_last (by rfl) (by go_simp; rfl) (by go_simp; rfl) (by go_simp)
theorem eqA49 (d : Nat) (w : World) (x0 y0 : Int) (x1 y1 : Int) (x2 y2 : Bool) (x3 y3 : Int) (x4 y4 : Int) (x5 y5 : Bool) (x6 y6 : Int) (x7 y7 : Int) :
    (Op.equalIn (d + 3) 49 (.agg #[.int .i64 x0, .int .i64 x1, .bool x2, .int .i64 x3, .int .i64 x4, .bool x5, .int .i64 x6, .int .i64 x7]) (.agg #[.int .i64 y0, .int .i64 y1, .bool y2, .int .i64 y3, .int .i64 y4, .bool y5, .int .i64 y6, .int .i64 y7])).run Tryd.prog w = .ok (x0 == y0 && (x1 == y1 && ((x2 == y2 && (x3 == y3 && (x4 == y4))) && ((x5 == y5 && (x6 == y6 && (x7 == y7))))))) w := by
  refine eqA_of Tryd.underlying49 (by kernel_rfl) ?_
  refine eqf_cons (by rfl) (by go_simp; rfl) (by go_simp; rfl) (by go_simp) ?_
  refine eqf_cons (by rfl) (by go_simp; rfl) (by go_simp; rfl) (by go_simp) ?_
  refine eqf_cons (by rfl) (by go_simp) (by go_simp) (eqA47 (d + 0) w _ _ _ _ _ _) ?_
  exact eqf_last (by rfl) (by go_simp) (by go_simp) (eqA47 (d + 0) w _ _ _ _ _ _)
end Go.Proofs.YtlegjcagkmjfjaaDoor.PT
namespace Go.Proofs.YtlegjcagkmjfjaaDoor.PT
open Go.RowKit Go.Proofs.YtlegjcagkmjfjaaDoorW.PrintWords Go.Proofs.YtlegjcagkmjfjaaDoorW.PrintLast Go.Proofs.YtlegjcagkmjfjaaDoorW.PrintMore
attribute [local go_sem] max2_int min2_int max_two min_two max_three min_three max_four min_four   -- for this text's walks alone
set_option linter.unusedVariables false
set_option linter.unusedSimpArgs false

/-! ### netlist_First: function 33 -/
def netlist_First.f (l0_0 : List ByteArray) (l0_1 : List ByteArray) (l0_2 : List (S58)) (l0_3 : List (S72)) (l0_4 : List Int) : Option (Int) := some (wrap64 ((wrap64 (2 + (l0_0.length : Int))) + (l0_2.length : Int)))
set_option maxHeartbeats 8000000 in
set_option maxRecDepth 100000 in
theorem netlist_First.calls (A0_0 : Option Addr) (c0_0 : Nat) (l0_0 : List ByteArray) (A0_1 : Option Addr) (c0_1 : Nat) (l0_1 : List ByteArray) (A0_2 : Option Addr) (c0_2 : Nat) (l0_2 : List (S58)) (A0_3 : Option Addr) (c0_3 : Nat) (l0_3 : List (S72)) (A0_4 : Option Addr) (c0_4 : Nat) (l0_4 : List Int) (r : Int) (w : World) (hr0_0 : Kd.C Kd.string w A0_0 l0_0.length l0_0) (hc0_0 : l0_0.length ≤ c0_0) (hr0_1 : Kd.C Kd.string w A0_1 l0_1.length l0_1) (hc0_1 : l0_1.length ≤ c0_1) (hr0_2 : Kd.C k58 w A0_2 l0_2.length l0_2) (hc0_2 : l0_2.length ≤ c0_2) (hr0_3 : Kd.C k72 w A0_3 l0_3.length l0_3) (hc0_3 : l0_3.length ≤ c0_3) (hr0_4 : Kd.C (Kd.int .i64) w A0_4 l0_4.length l0_4) (hc0_4 : l0_4.length ≤ c0_4) (h : netlist_First.f l0_0 l0_1 l0_2 l0_3 l0_4 = some r) :
 Calls Tryd.prog 33 #[.agg #[.slice A0_0 l0_0.length c0_0, .slice A0_1 l0_1.length c0_1, .slice A0_2 l0_2.length c0_2, .slice A0_3 l0_3.length c0_3, .slice A0_4 l0_4.length c0_4]] w fun e w' => e = .returned (.int .i64 r) ∧ Below w.heap.size w w' := by
 have hu27 := Tryd.underlying27
 have HR0_0 := Aside0.mk hr0_0
 have HC0_0 := Aside0.mk hc0_0
 clear hr0_0 hc0_0
 have HR0_1 := Aside0.mk hr0_1
 have HC0_1 := Aside0.mk hc0_1
 clear hr0_1 hc0_1
 have HR0_2 := Aside0.mk hr0_2
 have HC0_2 := Aside0.mk hc0_2
 clear hr0_2 hc0_2
 have HR0_3 := Aside0.mk hr0_3
 have HC0_3 := Aside0.mk hc0_3
 clear hr0_3 hc0_3
 have HR0_4 := Aside0.mk hr0_4
 have HC0_4 := Aside0.mk hc0_4
 clear hr0_4 hc0_4
 have HB := Aside0.mk (Below.refl w.heap.size w)
 have H : (some (wrap64 ((wrap64 (2 + (l0_0.length : Int))) + (l0_2.length : Int)))) = some r := h
 clear h
 obtain rfl := Option.some.inj H
 go_enter Tryd.func33, Tryd.ntmps33
 go_wp2_with (first | ((with_reducible refine gate_dst (N := 1) rfl ?_); refine box_event ?hg (N := 1) ?hd (cs := #[.slice A0_0 l0_0.length c0_0, .slice A0_1 l0_1.length c0_1, .slice A0_2 l0_2.length c0_2, .slice A0_3 l0_3.length c0_3, .slice A0_4 l0_4.length c0_4]) (t := 27) ?hr ?_; (case hd => rfl); (case hg => rfl); (case hr => first | (go_simp; done) | (go_simp; rfl)); intro gb101 hg w2 hbox hb; have n0_ := Aside0.mk (below_step (by repeat (first | (with_reducible first | exact HB.out | apply below_alloc | apply pw_below_drewN | apply below_drew1) | exact HB.out)) hb); have n1_ := Aside0.mk (hbox); have n2_ := Aside0.mk ((by rw [hg]; exact (below_size (by repeat (first | (with_reducible first | exact HB.out | apply below_alloc | apply pw_below_drewN | apply below_drew1) | exact HB.out))) : w.heap.size ≤ gb101)); have n3_ := Aside0.mk ((by rw [hg]; exact (below_size (by repeat (first | (with_reducible first | exact HB.out | apply below_alloc | apply pw_below_drewN | apply below_drew1) | exact HB.out))) : w.heap.size ≤ gb101)); clear HB; have HB := n0_; have BK101 := n1_; have GW101 := n2_; have GE101 := n3_; clear n0_ n1_ n2_ n3_; clear hb hbox hg; have hcz3_0 : w2.cell? ⟨gb101, 0, none⟩ = some (.slice A0_0 l0_0.length c0_0) := (blk_cell BK101.out 0).trans rfl; have hcz3_1 : w2.cell? ⟨gb101, 1, none⟩ = some (.slice A0_1 l0_1.length c0_1) := (blk_cell BK101.out 1).trans rfl; have hcz3_2 : w2.cell? ⟨gb101, 2, none⟩ = some (.slice A0_2 l0_2.length c0_2) := (blk_cell BK101.out 2).trans rfl; have hcz3_3 : w2.cell? ⟨gb101, 3, none⟩ = some (.slice A0_3 l0_3.length c0_3) := (blk_cell BK101.out 3).trans rfl; have hcz3_4 : w2.cell? ⟨gb101, 4, none⟩ = some (.slice A0_4 l0_4.length c0_4) := (blk_cell BK101.out 4).trans rfl; have hfz3_0 := blk_frozen BK101.out 0; have hfz3_1 := blk_frozen BK101.out 1; have hfz3_2 := blk_frozen BK101.out 2; have hfz3_3 := blk_frozen BK101.out 3; have hfz3_4 := blk_frozen BK101.out 4))
 go_ret
 exact ⟨by first | rfl | (simp [errW_none, errW_some] <;> rfl) | (simp [*, errW_none, errW_some] <;> rfl), by repeat (first | (with_reducible first | exact HB.out | apply below_alloc | apply pw_below_drewN | apply below_drew1 | refine below_set ?_ GE101.out) | exact HB.out)⟩

end Go.Proofs.YtlegjcagkmjfjaaDoor.PT
namespace Go.Proofs.YtlegjcagkmjfjaaDoor.PT
open Go.RowKit Go.Proofs.YtlegjcagkmjfjaaDoorW.PrintWords Go.Proofs.YtlegjcagkmjfjaaDoorW.PrintLast Go.Proofs.YtlegjcagkmjfjaaDoorW.PrintMore
attribute [local go_sem] max2_int min2_int max_two min_two max_three min_three max_four min_four   -- for this text's walks alone
set_option linter.unusedVariables false
set_option linter.unusedSimpArgs false

-- the contract of function 42 (slices.Clone[[]string,string]): written by hand
/-! ### slices_Clone_string_string: function 42 -/
def slices_Clone_string_string.f (l0 : List ByteArray) : Option (List ByteArray) := if l0.length < 4398046511104 then some l0 else none
theorem slices_Clone_string_string.info : (Tryd.prog.info? 9).map (fun i => (i.zero, i.size, i.bytes)) = some (some (.string ByteArray.empty), 1, 16) := by kernel_rfl
set_option maxHeartbeats 1000000 in
set_option maxRecDepth 100000 in
theorem slices_Clone_string_string.calls (A0 : Option Addr) (c0 : Nat) (l0 : List ByteArray) (r : List ByteArray) (w : World) (hr0 : Kd.C Kd.string w A0 l0.length l0) (hc0 : l0.length ≤ c0) (h : slices_Clone_string_string.f l0 = some r) :
    Calls Tryd.prog 42 #[.slice A0 l0.length c0] w fun e w' => ∃ v0_ : Value, e = .returned (v0_) ∧ Kd.R Kd.string 9 w' w.heap.size (fun _ => True) v0_ r ∧ Below w.heap.size w w' := by
  unfold slices_Clone_string_string.f at h
  split at h
  · rename_i hlim
    obtain rfl := Option.some.inj h
    clear h
    have hu := Tryd.underlying22
    rcases A0 with _ | ad
    · obtain rfl := Hnd.nilC hr0
      have he := fun W => Lib.run_eql_slice_nil (P := Tryd.prog) W 22 9 none 0 c0 0 0 hu
      go_enter Tryd.func42, Tryd.ntmps42
      go_wp2
      go_ret
      exact ⟨_, rfl, Kd.R_nil _ _ _ _ _, Below.refl _ _⟩
    · have he := fun W => Lib.run_eql_slice_nil (P := Tryd.prog) W 22 9 (some ad) l0.length c0 0 0 hu
      go_enter Tryd.func42, Tryd.ntmps42
      have hR0 := Hnd.litR Kd.string 9 w w.heap.size (Nat.le_refl _)
      have hC0 := Kd.C_below hr0 (below_alloc (Below.refl w.heap.size w) (.cells #[] 9))
      go_wp2_with (at_builtin; refine Kd.R_append_rows Kd.string (w0 := w) w.heap.size rfl (.tmp 5) (.tmp 6) 22 9 (.string ByteArray.empty) 16 rfl hu slices_Clone_string_string.info rfl (by decide) (by decide) _ [] l0 (some ad) l0.length c0 (fun _ => True) (fun _ => False) rfl rfl hR0 hC0 (fun x cs hx => hx) (fun _ hk => hk.elim) (fun _ _ => trivial) (below_alloc (Below.refl _ _) _) (by simp) (by simp; omega) ?_; intro v1 w1 hR hB _ _)
      go_ret
      exact ⟨_, rfl, by simpa using hR, hB⟩
  · cases h

end Go.Proofs.YtlegjcagkmjfjaaDoor.PT
namespace Go.Proofs.YtlegjcagkmjfjaaDoor.PT
open Go.RowKit Go.Proofs.YtlegjcagkmjfjaaDoorW.PrintWords Go.Proofs.YtlegjcagkmjfjaaDoorW.PrintLast Go.Proofs.YtlegjcagkmjfjaaDoorW.PrintMore
attribute [local go_sem] max2_int min2_int max_two min_two max_three min_three max_four min_four   -- for this text's walks alone
set_option linter.unusedVariables false
set_option linter.unusedSimpArgs false

-- the contract of function 58 (maskwright/graph.Name): written by hand
/-! ### graph_Name: function 58 -/
def graph_Name.ok (c : Int) : Bool := decide (33 ≤ c) && decide (c ≤ 126)
def graph_Name.b (a0 : ByteArray) : Bool := decide (1 ≤ a0.size) && decide (a0.size ≤ 128) && (List.range a0.size).all (fun j => graph_Name.ok (bt a0 (j : Int)))
def graph_Name.f (a0 : ByteArray) : Option Bool := some (graph_Name.b a0)
theorem graph_Name.row (s : ByteArray) (c : Nat) (j : Nat) (hj : j < s.size) : (bytesRow s c)[j]? = some (.int .u8 (bt s (j : Int))) := by
  have h1 : j < (s.data.map (fun b => Value.int .u8 b.toNat)).size := by simpa using hj
  unfold bytesRow
  rw [Array.getElem?_append_left h1, Array.getElem?_eq_getElem h1]
  simp only [Array.getElem_map, Option.some.injEq, Value.int.injEq, true_and]
  unfold bt
  rw [dif_pos (by simpa using hj)]
  rfl
set_option maxHeartbeats 2000000 in
set_option maxRecDepth 100000 in
theorem graph_Name.calls (a0 : ByteArray) (r : Bool) (w : World) (h : graph_Name.f a0 = some r) :
    Calls Tryd.prog 58 #[.string a0] w fun e w' => e = .returned (.bool r) ∧ Below w.heap.size w w' := by
  obtain rfl := Option.some.inj h
  clear h
  have HB0 := Aside0.mk (Below.refl w.heap.size w)
  by_cases h1 : a0.size < 1
  · have HF := Aside0.mk (show graph_Name.b a0 = false by simp [graph_Name.b]; omega)
    have d1 : decide ((a0.size : Int) < 1) = true := decide_eq_true (by omega)
    clear h1
    go_enter Tryd.func58, Tryd.ntmps58
    go_wp2
    go_ret
    exact ⟨by rw [HF.out]; rfl, HB0.out⟩
  by_cases h2 : 128 < a0.size
  · have HF := Aside0.mk (show graph_Name.b a0 = false by simp [graph_Name.b]; omega)
    have d1 : decide ((a0.size : Int) < 1) = false := decide_eq_false (by omega)
    have d2 : decide (128 < (a0.size : Int)) = true := decide_eq_true (by omega)
    clear h1 h2
    go_enter Tryd.func58, Tryd.ntmps58
    go_wp2
    go_ret
    exact ⟨by rw [HF.out]; rfl, HB0.out⟩
  have d1 : decide ((a0.size : Int) < 1) = false := decide_eq_false (by omega)
  have d2 : decide (128 < (a0.size : Int)) = false := decide_eq_false (by omega)
  have HP := Aside0.mk (show graph_Name.b a0 = (List.range a0.size).all (fun j => graph_Name.ok (bt a0 (j : Int))) by
    simp only [graph_Name.b, decide_eq_true (show 1 ≤ a0.size by omega), decide_eq_true (show a0.size ≤ 128 by omega), Bool.true_and])
  have hs : a0.size ≤ 128 := by omega
  clear h1 h2
  have hcv := fun (w : World) (s : ByteArray) => run_bytes_of_string (P := Tryd.prog) w 9 115 5 s Tryd.underlying9 Tryd.underlying115 Tryd.underlying5
  go_enter Tryd.func58, Tryd.ntmps58
  go_wp2
  clear hcv d1 d2
  have HB := Aside0.mk (below_drew1 (below_alloc HB0.out (.cells (bytesRow a0 (grownCap w a0.size 0 5)) 5 ((bytesRow a0 (grownCap w a0.size 0 5)).size, (bytesRow a0 (grownCap w a0.size 0 5)).size + 1))))
  have HC := Aside0.mk (show ∀ j : Nat, j < a0.size → ((w.alloc (.cells (bytesRow a0 (grownCap w a0.size 0 5)) 5 ((bytesRow a0 (grownCap w a0.size 0 5)).size, (bytesRow a0 (grownCap w a0.size 0 5)).size + 1))).drew).cell? ⟨w.heap.size, j, none⟩ = some (.int .u8 (bt a0 (j : Int))) from fun j hj => (cell_of_row _ _ j _ _ _ (blk_drew (blk_new w _))).trans (graph_Name.row a0 _ j hj))
  generalize (w.alloc (.cells (bytesRow a0 (grownCap w a0.size 0 5)) 5 ((bytesRow a0 (grownCap w a0.size 0 5)).size, (bytesRow a0 (grownCap w a0.size 0 5)).size + 1))).drew = w1 at HB HC ⊢
  generalize grownCap w a0.size 0 5 = cap
  clear HB0
  go_loop [16] (fun v26 => ∃ i : Int, 0 ≤ i ∧ i ≤ a0.size ∧ v26 = .int .i64 i ∧ Aside0 (∀ j : Nat, (j : Int) < i → graph_Name.ok (bt a0 (j : Int)) = true)) (fun v26 => (a0.size - (intOf v26).toNat))
  case atStart => exact ⟨0, by omega, by omega, rfl, ⟨fun j hj => by omega⟩⟩
  case round =>
    obtain ⟨i, h0, h1, rfl, HI⟩ := hrel
    by_cases hlt : i < a0.size
    · have c1 := HC.out i.toNat (by omega)
      rw [Int.toNat_of_nonneg h0] at c1
      have br := bt_range a0 i
      have HN := Aside0.mk (show graph_Name.ok (bt a0 i) = true → ∀ j : Nat, (j : Int) < i + 1 → graph_Name.ok (bt a0 (j : Int)) = true from fun hk j hj => if e : (j : Int) = i then e ▸ hk else HI.out j (by omega))
      have HF := Aside0.mk (show graph_Name.ok (bt a0 i) = false → graph_Name.b a0 = false from fun hk => by
        rw [HP.out, List.all_eq_false]
        exact ⟨i.toNat, List.mem_range.2 (by omega), by rw [Int.toNat_of_nonneg h0, hk]; simp⟩)
      clear HI
      generalize bt a0 i = b at c1 br HN HF
      have e1 : decide (i < (a0.size : Int)) = true := decide_eq_true hlt
      by_cases r1 : b < 33
      · have d1 : decide (b < 33) = true := decide_eq_true r1
        have HK := Aside0.mk (HF.out (by unfold graph_Name.ok; simp; omega))
        clear r1 br HN HF
        go_wp2
        go_ret
        exact ⟨by rw [HK.out]; rfl, HB.out⟩
      have d1 : decide (b < 33) = false := decide_eq_false r1
      by_cases r2 : 126 < b
      · have d2 : decide (126 < b) = true := decide_eq_true r2
        have HK := Aside0.mk (HF.out (by unfold graph_Name.ok; simp; omega))
        clear r1 r2 br HN HF
        go_wp2
        go_ret
        exact ⟨by rw [HK.out]; rfl, HB.out⟩
      have d2 : decide (126 < b) = false := decide_eq_false r2
      have HK := Aside0.mk (HN.out (by unfold graph_Name.ok; simp; omega))
      clear r1 r2 br HN HF
      go_wp2
      go_round
      case rel => exact ⟨i + 1, by omega, by omega, by go_num, HK⟩
      case measure => simp [intOf]; omega
    · have e1 : decide (i < (a0.size : Int)) = false := decide_eq_false hlt
      have HK := Aside0.mk (show graph_Name.b a0 = true by
        rw [HP.out, List.all_eq_true]
        exact fun j hj => HI.out j (by have := List.mem_range.1 hj; omega))
      clear HI
      go_wp2
      go_ret
      exact ⟨by rw [HK.out]; rfl, HB.out⟩

end Go.Proofs.YtlegjcagkmjfjaaDoor.PT
namespace Go.Proofs.YtlegjcagkmjfjaaDoor.PT
open Go.RowKit Go.Proofs.YtlegjcagkmjfjaaDoorW.PrintWords Go.Proofs.YtlegjcagkmjfjaaDoorW.PrintLast Go.Proofs.YtlegjcagkmjfjaaDoorW.PrintMore
attribute [local go_sem] max2_int min2_int max_two min_two max_three min_three max_four min_four   -- for this text's walks alone
set_option linter.unusedVariables false
set_option linter.unusedSimpArgs false

-- the contract of function 43 (maskwright/graph.Names): written by hand
/-! ### graph_Names: function 43 -/
-- IMPORT Derived.Maps.Own
-- IMPORT Derived.Maps.Views
def graph_Names.tw (l : List ByteArray) (i : Int) : Bool := (l.take i.toNat).any (fun d => d.data.toList == (rdOf ByteArray.empty l i).data.toList)
def graph_Names.l0 : Nat → List ByteArray → Int → Option Int
 | 0, _, _ => none
 | k + 1, l, i => if i < (l.length : Int) then ((graph_Name.f (rdOf ByteArray.empty l i)).bind fun e => if e = true then (if graph_Names.tw l i = true then some 6 else graph_Names.l0 k l (i + 1)) else some 9) else some 0
def graph_Names.f (k : Nat) (l0 : List ByteArray) : Option Int := graph_Names.l0 k l0 0
theorem graph_Names.mono_l : ∀ k l i, LeO (graph_Names.l0 k l i) (graph_Names.l0 (k + 1) l i)
 | 0, _, _ => fun r h => by simp [graph_Names.l0] at h
 | k + 1, l, i => by
  unfold graph_Names.l0
  repeat' first
   | (with_reducible exact graph_Names.mono_l k _ _)
   | (with_reducible exact LeO.refl _)
   | (with_reducible refine LeO.ite ?_ ?_)
   | (with_reducible refine LeO.bind ?_ (fun _ => ?_))
theorem graph_Names.mono : ∀ l k, LeO (graph_Names.f k l) (graph_Names.f (k + 1) l) := fun l k => graph_Names.mono_l k l 0
theorem graph_Names.law : Go.Maps.Keyed Tryd.prog 9 := Go.Maps.string_keyed Tryd.underlying9
theorem graph_Names.zero (w : World) : (zeroValue 3).run Tryd.prog w = .ok (.int .i64 0) w := by kernel_rfl
set_option maxHeartbeats 4000000 in
set_option maxRecDepth 100000 in
theorem graph_Names.calls (k : Nat) (A0 : Option Addr) (c0 : Nat) (l0 : List ByteArray) (r : Int) (w : World) (hr0 : Kd.C Kd.string w A0 l0.length l0) (hc0 : l0.length ≤ c0) (h : graph_Names.f k l0 = some r) :
 Calls Tryd.prog 43 #[.slice A0 l0.length c0] w fun e w' => e = .returned (.int .i64 r) ∧ Below w.heap.size w w' := by
 have h63 : l0.length ≤ 9223372036854775807 := hr0.2.1
 have hmm := @run_makeMap Tryd.prog
 have HR := Aside0.mk hr0
 have HH := Aside0.mk h
 have HB0 := Aside0.mk (Below.refl w.heap.size w)
 clear hr0 hc0 h
 go_enter Tryd.func43, Tryd.ntmps43
 go_wp2
 go_loopw [9] (fun v wr => ∃ (i : Int) (kq n : Nat) (D : DataW Unit), 0 ≤ i ∧ i ≤ l0.length ∧ v = .int .i64 i ∧ Aside0 (graph_Names.l0 kq l0 i = some r) ∧ Aside0 ((n : Int) = i ∧ wr.ownsMap Tryd.prog 9 (plainElem Tryd.prog 3) w.heap.size n D ∧ Go.Maps.IsMap D) ∧ Aside0 (∀ s : ByteArray, D.atKey (.string s.data.toList) (.lit (.int .i64 0)) = .lit (.int .i64 (if (l0.take i.toNat).any (fun d => d.data.toList == s.data.toList) then 1 else 0))) ∧ Aside0 (Below w.heap.size w wr)) (fun v _ => (l0.length - (intOf v).toNat))
 case atStart => exact ⟨0, k, 0, .map [], by omega, by omega, rfl, HH, ⟨rfl, World.ownsMap_made _ _ _ _, ⟨[], rfl⟩⟩, ⟨fun s => by simp [DataW.atKey]⟩, ⟨below_alloc HB0.out _⟩⟩
 clear HH HB0
 obtain ⟨i, kq, n, D, h0, h1, rfl, HA, HO, HK, HB⟩ := hrel
 cases kq with
 | zero => exact absurd HA.out (by simp [graph_Names.l0])
 | succ k1 =>
  have H := HA.out
  clear HA
  simp only [graph_Names.l0] at H
  by_cases hlt : i < (l0.length : Int)
  rotate_left
  · rw [if_neg hlt] at H
    have hF := Aside0.mk (Option.some.inj H)
    have e1 : decide (i < (l0.length : Int)) = false := decide_eq_false hlt
    clear hlt H
    go_wp2
    go_ret
    exact ⟨by rw [← hF.out]; rfl, HB.out⟩
  rw [if_pos hlt] at H
  obtain ⟨ad, rfl, d0⟩ := Kd.at_string (Kd.C_below HR.out HB.out) i h0 hlt
  have HT := Aside0.mk (show l0.take (i + 1).toNat = l0.take i.toNat ++ [rdOf ByteArray.empty l0 i] by
   rw [show (i + 1).toNat = i.toNat + 1 by omega, List.take_succ_eq_append_getElem (by omega)]
   unfold rdOf
   rw [List.getD_eq_getElem?_getD, List.getElem?_eq_getElem (by omega)]
   rfl)
  have HW := Aside0.mk (show graph_Names.tw l0 i = (l0.take i.toNat).any (fun d => d.data.toList == (rdOf ByteArray.empty l0 i).data.toList) from rfl)
  generalize rdOf ByteArray.empty l0 i = s at d0 H HT HW
  cases hb : graph_Name.b s with
  | false =>
   have HF := Aside0.mk (show (9 : Int) = r by
    unfold graph_Name.f at H
    rw [hb] at H
    exact Option.some.inj H)
   have HC := Aside0.mk (show graph_Name.f s = some false by unfold graph_Name.f; rw [hb])
   clear hb H
   go_wp2_with fail
   refine (graph_Name.calls s false _ HC.out).mono ?_
   rintro e w1 ⟨rfl, hw1⟩
   have HB1 := Aside0.mk (below_step HB.out hw1)
   clear hw1 HB d0
   go_wp2
   go_ret
   exact ⟨by rw [← HF.out]; rfl, HB1.out⟩
  | true =>
   have HF := Aside0.mk (show (if graph_Names.tw l0 i = true then some 6 else graph_Names.l0 k1 l0 (i + 1)) = some r by
    unfold graph_Name.f at H
    rw [hb] at H
    exact H)
   have HC := Aside0.mk (show graph_Name.f s = some true by unfold graph_Name.f; rw [hb])
   have hsz : s.size ≤ 128 := by
    unfold graph_Name.b at hb
    simp only [Bool.and_eq_true, decide_eq_true_eq] at hb
    exact hb.1.2
   have hkey : keyOf Tryd.prog 9 (.string s) = some (.string s.data.toList) := Go.WideMaps.keyOf_string_mk Tryd.underlying9 (by unfold maxLen; omega)
   clear hb H
   go_wp2_with fail
   refine (graph_Name.calls s true _ HC.out).mono ?_
   rintro e w1 ⟨rfl, hw1⟩
   have HB1 := Aside0.mk (below_step HB.out hw1)
   have HO1 := Aside0.mk (show w1.ownsMap Tryd.prog 9 (plainElem (H := Unit) Tryd.prog 3) w.heap.size n D from by
    obtain ⟨es, ck, hb, F, hs, hD⟩ := HO.out.2.1
    exact ⟨es, ck, blk_below hb hw1, F, hs, hD⟩)
   obtain ⟨c, hrun, hat, _⟩ := HO1.out.lookup_int graph_Names.law Tryd.underlying110 Tryd.underlying3 (graph_Names.zero _) hkey
   rw [HK.out s, ← HW.out] at hat
   clear hw1 HB d0
   have hn : n < 9223372036854775807 := by have := HO.out.1; omega
   cases htw : graph_Names.tw l0 i with
   | true =>
    have hF := Aside0.mk (Option.some.inj ((if_pos htw).symm.trans HF.out))
    rw [htw] at hat
    obtain rfl : c = 1 := by simpa using hat.symm
    clear hat htw HF
    go_wp2_with (at_mapUpdate; refine wpList_mapUpdate_own _ rfl _ _ _ 110 rfl 9 3 graph_Names.law Tryd.underlying110 _ w.heap.size n _ rfl HO1.out (by unfold maxLen; omega) _ _ _ rfl rfl hkey _ [] (plainElem_int Tryd.underlying3 (by decide)) ?_)
    intro w2 hown2 hgrow2
    obtain ⟨c, hrun2, hat2, _⟩ := hown2.lookup_int graph_Names.law Tryd.underlying110 Tryd.underlying3 (graph_Names.zero _) hkey
    rw [Go.Maps.atKey_put_same HO.out.2.2 (graph_Names.law.key hkey)] at hat2
    obtain rfl : c = 2 := by simpa using hat2.symm
    have HB2 := Aside0.mk (HB1.out.grown hgrow2 HB1.out.size (fun j hj => by cases hj; exact Nat.le_refl _))
    clear hat2 hown2 hgrow2 hrun HB1
    go_wp2
    go_ret
    exact ⟨by rw [← hF.out]; rfl, HB2.out⟩
   | false =>
    have hF := Aside0.mk ((if_neg (by rw [htw]; simp)).symm.trans HF.out)
    rw [htw] at hat
    obtain rfl : c = 0 := by simpa using hat.symm
    have HTW := Aside0.mk (HW.out.symm.trans htw)
    clear hat htw HF HW
    go_wp2_with (at_mapUpdate; refine wpList_mapUpdate_own _ rfl _ _ _ 110 rfl 9 3 graph_Names.law Tryd.underlying110 _ w.heap.size n _ rfl HO1.out (by unfold maxLen; omega) _ _ _ rfl rfl hkey _ [] (plainElem_int Tryd.underlying3 (by decide)) ?_)
    intro w2 hown2 hgrow2
    obtain ⟨c, hrun2, hat2, _⟩ := hown2.lookup_int graph_Names.law Tryd.underlying110 Tryd.underlying3 (graph_Names.zero _) hkey
    have hput := Go.Maps.atKey_put_same HO.out.2.2 (graph_Names.law.key hkey)
    rw [hput] at hat2
    obtain rfl : c = 1 := by simpa using hat2.symm
    have HB2 := Aside0.mk (HB1.out.grown hgrow2 HB1.out.size (fun j hj => by cases hj; exact Nat.le_refl _))
    have HO2 := Aside0.mk (show ((n + 1 : Nat) : Int) = i + 1 ∧ w2.ownsMap Tryd.prog 9 (plainElem (H := Unit) Tryd.prog 3) w.heap.size (n + 1) (D.put (.string s.data.toList) (.lit (.int .i64 1))) ∧ Go.Maps.IsMap (D.put (.string s.data.toList) (.lit (.int .i64 1))) from ⟨by have := HO.out.1; omega, hown2, HO.out.2.2.put _ _⟩)
    have HK2 := Aside0.mk (show ∀ s' : ByteArray, (D.put (.string s.data.toList) (.lit (.int .i64 1))).atKey (.string s'.data.toList) (.lit (.int .i64 0)) = .lit (.int .i64 (if (l0.take (i + 1).toNat).any (fun d => d.data.toList == s'.data.toList) then 1 else 0)) from fun s' => by
     rw [HT.out, List.any_append]
     by_cases e : s'.data.toList = s.data.toList
     · rw [e, hput]
       simp
     · rw [Go.Maps.atKey_put_other (fun h => e (by injection h)), HK.out s']
       have : ¬ s.data = s'.data := fun h => e (by rw [h])
       simp [this])
    clear hat2 hown2 hgrow2 hrun HB1 hput HK HO HO1 HTW HT
    go_wp2
    go_roundw
    case rel => exact ⟨i + 1, k1, n + 1, _, by omega, by omega, by go_num, hF, HO2, HK2, HB2⟩
    case measure => simp [intOf]; omega

end Go.Proofs.YtlegjcagkmjfjaaDoor.PT
namespace Go.Proofs.YtlegjcagkmjfjaaDoor.PT
open Go.RowKit Go.Proofs.YtlegjcagkmjfjaaDoorW.PrintWords Go.Proofs.YtlegjcagkmjfjaaDoorW.PrintLast Go.Proofs.YtlegjcagkmjfjaaDoorW.PrintMore
attribute [local go_sem] max2_int min2_int max_two min_two max_three min_three max_four min_four   -- for this text's walks alone
set_option linter.unusedVariables false
set_option linter.unusedSimpArgs false

-- the contract of function 44 (maskwright/netlist.Mask): written by hand
/-! ### netlist_Mask: function 44 -/
def netlist_Mask.f (a0 : Int) : Option Int := some (if a0 = 0 then 1 else if a0 = 1 then 3 else if a0 = 2 then 15 else if a0 = 3 then 255 else if a0 = 4 then 65535 else if a0 = 5 then 4294967295 else if a0 = 6 then 18446744073709551615 else 0)
set_option maxHeartbeats 2000000 in
set_option maxRecDepth 100000 in
theorem netlist_Mask.calls (a0 : Int) (r : Int) (w : World) (h : netlist_Mask.f a0 = some r) :
    Calls Tryd.prog 44 #[.int .i64 a0] w fun e w' => e = .returned (.int .u64 r) ∧ Drawn0 w w' := by
  obtain rfl := Option.some.inj h
  clear h
  by_cases h1 : a0 < 0
  · have HF := Aside0.mk (show (if a0 = 0 then (1 : Int) else if a0 = 1 then 3 else if a0 = 2 then 15 else if a0 = 3 then 255 else if a0 = 4 then 65535 else if a0 = 5 then 4294967295 else if a0 = 6 then 18446744073709551615 else 0) = 0 by
      rw [if_neg (by omega), if_neg (by omega), if_neg (by omega), if_neg (by omega), if_neg (by omega), if_neg (by omega), if_neg (by omega)])
    have d1 : decide (a0 < 0) = true := decide_eq_true h1
    generalize (if a0 = 0 then (1 : Int) else if a0 = 1 then 3 else if a0 = 2 then 15 else if a0 = 3 then 255 else if a0 = 4 then 65535 else if a0 = 5 then 4294967295 else if a0 = 6 then 18446744073709551615 else 0) = q at HF ⊢
    clear h1
    go_enter Tryd.func44, Tryd.ntmps44
    go_wp2
    go_ret
    exact ⟨by rw [HF.out]; rfl, Drawn0.refl _⟩
  by_cases h2 : 6 < a0
  · have HF := Aside0.mk (show (if a0 = 0 then (1 : Int) else if a0 = 1 then 3 else if a0 = 2 then 15 else if a0 = 3 then 255 else if a0 = 4 then 65535 else if a0 = 5 then 4294967295 else if a0 = 6 then 18446744073709551615 else 0) = 0 by
      rw [if_neg (by omega), if_neg (by omega), if_neg (by omega), if_neg (by omega), if_neg (by omega), if_neg (by omega), if_neg (by omega)])
    have d1 : decide (a0 < 0) = false := decide_eq_false h1
    have d2 : decide (6 < a0) = true := decide_eq_true h2
    generalize (if a0 = 0 then (1 : Int) else if a0 = 1 then 3 else if a0 = 2 then 15 else if a0 = 3 then 255 else if a0 = 4 then 65535 else if a0 = 5 then 4294967295 else if a0 = 6 then 18446744073709551615 else 0) = q at HF ⊢
    clear h1 h2
    go_enter Tryd.func44, Tryd.ntmps44
    go_wp2
    go_ret
    exact ⟨by rw [HF.out]; rfl, Drawn0.refl _⟩
  have hc : a0 = 0 ∨ a0 = 1 ∨ a0 = 2 ∨ a0 = 3 ∨ a0 = 4 ∨ a0 = 5 ∨ a0 = 6 := by omega
  clear h1 h2
  rcases hc with rfl | rfl | rfl | rfl | rfl | rfl | rfl
  all_goals
    go_enter Tryd.func44, Tryd.ntmps44
    go_wp2
    go_ret
    exact ⟨by rfl, Drawn0.refl _⟩

end Go.Proofs.YtlegjcagkmjfjaaDoor.PT
namespace Go.Proofs.YtlegjcagkmjfjaaDoor.PT
open Go.RowKit Go.Proofs.YtlegjcagkmjfjaaDoorW.PrintWords Go.Proofs.YtlegjcagkmjfjaaDoorW.PrintLast Go.Proofs.YtlegjcagkmjfjaaDoorW.PrintMore
attribute [local go_sem] max2_int min2_int max_two min_two max_three min_three max_four min_four   -- for this text's walks alone
set_option linter.unusedVariables false
set_option linter.unusedSimpArgs false

/-! ### netlist_Nets: function 31 -/
def netlist_Nets.f (l0_0 : List ByteArray) (l0_1 : List ByteArray) (l0_2 : List (S58)) (l0_3 : List (S72)) (l0_4 : List Int) : Option (Int) := (netlist_First.f l0_0 l0_1 l0_2 l0_3 l0_4).bind fun t103 => (some (wrap64 (t103 + (l0_3.length : Int))))
set_option maxHeartbeats 8000000 in
set_option maxRecDepth 100000 in
theorem netlist_Nets.calls (A0_0 : Option Addr) (c0_0 : Nat) (l0_0 : List ByteArray) (A0_1 : Option Addr) (c0_1 : Nat) (l0_1 : List ByteArray) (A0_2 : Option Addr) (c0_2 : Nat) (l0_2 : List (S58)) (A0_3 : Option Addr) (c0_3 : Nat) (l0_3 : List (S72)) (A0_4 : Option Addr) (c0_4 : Nat) (l0_4 : List Int) (r : Int) (w : World) (hr0_0 : Kd.C Kd.string w A0_0 l0_0.length l0_0) (hc0_0 : l0_0.length ≤ c0_0) (hr0_1 : Kd.C Kd.string w A0_1 l0_1.length l0_1) (hc0_1 : l0_1.length ≤ c0_1) (hr0_2 : Kd.C k58 w A0_2 l0_2.length l0_2) (hc0_2 : l0_2.length ≤ c0_2) (hr0_3 : Kd.C k72 w A0_3 l0_3.length l0_3) (hc0_3 : l0_3.length ≤ c0_3) (hr0_4 : Kd.C (Kd.int .i64) w A0_4 l0_4.length l0_4) (hc0_4 : l0_4.length ≤ c0_4) (h : netlist_Nets.f l0_0 l0_1 l0_2 l0_3 l0_4 = some r) :
 Calls Tryd.prog 31 #[.agg #[.slice A0_0 l0_0.length c0_0, .slice A0_1 l0_1.length c0_1, .slice A0_2 l0_2.length c0_2, .slice A0_3 l0_3.length c0_3, .slice A0_4 l0_4.length c0_4]] w fun e w' => e = .returned (.int .i64 r) ∧ Below w.heap.size w w' := by
 have HR0_0 := Aside0.mk hr0_0
 have HC0_0 := Aside0.mk hc0_0
 clear hr0_0 hc0_0
 have HR0_1 := Aside0.mk hr0_1
 have HC0_1 := Aside0.mk hc0_1
 clear hr0_1 hc0_1
 have HR0_2 := Aside0.mk hr0_2
 have HC0_2 := Aside0.mk hc0_2
 clear hr0_2 hc0_2
 have HR0_3 := Aside0.mk hr0_3
 have HC0_3 := Aside0.mk hc0_3
 clear hr0_3 hc0_3
 have HR0_4 := Aside0.mk hr0_4
 have HC0_4 := Aside0.mk hc0_4
 clear hr0_4 hc0_4
 have HB := Aside0.mk (Below.refl w.heap.size w)
 have H : ((netlist_First.f l0_0 l0_1 l0_2 l0_3 l0_4).bind fun t103 => (some (wrap64 (t103 + (l0_3.length : Int))))) = some r := h
 clear h
 replace H := Option.bind_eq_some_iff.mp H
 obtain ⟨t103, A20, H⟩ := H
 replace H : (some (wrap64 (t103 + (l0_3.length : Int)))) = some r := H
 have A2 := Aside0.mk A20
 clear A20
 obtain rfl := Option.some.inj H
 go_enter Tryd.func31, Tryd.ntmps31
 try go_wp2_with ((with_reducible refine gate_dst (N := 1) rfl ?_); refine box_event ?hg (N := 1) ?hd (cs := #[.slice A0_0 l0_0.length c0_0, .slice A0_1 l0_1.length c0_1, .slice A0_2 l0_2.length c0_2, .slice A0_3 l0_3.length c0_3, .slice A0_4 l0_4.length c0_4]) (t := 27) ?hr ?_; (case hd => rfl); (case hg => rfl); (case hr => first | (go_simp; done) | (go_simp; rfl)); intro gb102 hg w3 hbox hb; have n0_ := Aside0.mk (below_step bl hb); have n1_ := Aside0.mk (hbox); have n2_ := Aside0.mk (ge (w := w) hg); have n3_ := Aside0.mk (ge (w := w) hg); clear HB; have HB := n0_; have BK102 := n1_; clear n0_ n1_ n2_ n3_; clear hb hbox hg)
 have n0_ := Aside0.mk (blk_drew BK102.out)
 have n1_ := Aside0.mk (below_drew1 HB.out)
 clear BK102
 clear HB
 have BK102 := n0_
 have HB := n1_
 clear n0_ n1_
 refine start_ (n := 7) (S := fun w' => w'.cell? ⟨gb102, 0, none⟩ = some (.slice A0_0 l0_0.length c0_0) ∧ w'.cell? ⟨gb102, 1, none⟩ = some (.slice A0_1 l0_1.length c0_1) ∧ w'.cell? ⟨gb102, 2, none⟩ = some (.slice A0_2 l0_2.length c0_2) ∧ w'.cell? ⟨gb102, 3, none⟩ = some (.slice A0_3 l0_3.length c0_3) ∧ w'.cell? ⟨gb102, 4, none⟩ = some (.slice A0_4 l0_4.length c0_4)) (ds := []) #[false,false,false,false,false,false,false] (by kernel_rfl) rfl rfl ⟨(blk_cell BK102.out 0).trans rfl, (blk_cell BK102.out 1).trans rfl, (blk_cell BK102.out 2).trans rfl, (blk_cell BK102.out 3).trans rfl, (blk_cell BK102.out 4).trans rfl⟩ (fun hHeld => ?_)
 generalize w3.drew = w4 at BK102 HB hHeld ⊢
 refine pure_ (i := 2) (N := some 5) (v := ?_) (a' := ?_) #[false,false,true,false,false,false,false] rfl rfl (by kernel_rfl) (fun _ _ _ h => h) (Or.inl ⟨by rfl, ?_⟩) ?_ ?_
 rotate_left; focus (intro w'; go_simp; with_reducible rfl)
 rotate_left; focus (simp only [Act.put, List.setIfInBounds_toArray, List.set_cons_zero, List.set_cons_succ, i64_w, i32_w]; rfl)
 refine take_ (i := 0) (N := some 3) (v := ?_) (a' := ?_) #[true,false,true,false,false,false,false] rfl rfl (by kernel_rfl) (fun _ _ _ h => h) (Or.inl ⟨by rfl, ?_⟩) hHeld ?_ ?_
 rotate_left
 · rintro w' ⟨s0, s1, s2, s3, s4⟩
   go_simp
   with_reducible rfl
 rotate_left; focus (simp only [Act.put, List.setIfInBounds_toArray, List.set_cons_zero, List.set_cons_succ, i64_w, i32_w]; rfl)
 refine take_ (i := 3) (N := some 6) (v := ?_) (a' := ?_) #[true,false,true,true,false,false,false] rfl rfl (by kernel_rfl) (fun _ _ _ h => h) (Or.inl ⟨by rfl, ?_⟩) hHeld ?_ ?_
 rotate_left
 · rintro w' ⟨s0, s1, s2, s3, s4⟩
   go_simp
   with_reducible rfl
 rotate_left; focus (simp only [Act.put, List.setIfInBounds_toArray, List.set_cons_zero, List.set_cons_succ, i64_w, i32_w]; rfl)
 refine pure_ (i := 4) (N := some 7) (v := ?_) (a' := ?_) #[true,false,true,true,true,false,false] rfl rfl (by kernel_rfl) (fun _ _ _ h => h) (Or.inl ⟨by rfl, ?_⟩) ?_ ?_
 rotate_left; focus (intro w'; go_simp; with_reducible rfl)
 rotate_left; focus (simp only [Act.put, List.setIfInBounds_toArray, List.set_cons_zero, List.set_cons_succ, i64_w, i32_w]; rfl)
 refine one_ (i := 1) (N := some 4) #[true,true,true,true,true,false,false] rfl rfl (by kernel_rfl) (by decide) (fun K hK => ?_)
 refine goes_ Tryd.func33 (by kernel_rfl) rfl #[.agg #[.slice A0_0 l0_0.length c0_0, .slice A0_1 l0_1.length c0_1, .slice A0_2 l0_2.length c0_2, .slice A0_3 l0_3.length c0_3, .slice A0_4 l0_4.length c0_4]] (by rfl) rfl rfl (by (try simp only [List.map_toArray, List.map_cons, List.map_nil]); first | done | rfl | (simp only [List.length_drop, List.length_take]; rfl)) ?_
 with_reducible refine (netlist_First.calls _ _ l0_0 _ _ l0_1 _ _ l0_2 _ _ l0_3 _ _ l0_4 t103 _ ?side1 ?side2 ?side3 ?side4 ?side5 ?side6 ?side7 ?side8 ?side9 ?side10 A2.out).mono ?_
 (case side1 => exact kc (Kd.C_below HR0_0.out HB.out))
 (case side2 => exact HC0_0.out)
 (case side3 => exact kc (Kd.C_below HR0_1.out HB.out))
 (case side4 => exact HC0_1.out)
 (case side5 => exact kc (Kd.C_below HR0_2.out HB.out))
 (case side6 => exact HC0_2.out)
 (case side7 => exact kc (Kd.C_below HR0_3.out HB.out))
 (case side8 => exact HC0_3.out)
 (case side9 => exact kc (Kd.C_below HR0_4.out HB.out))
 (case side10 => exact HC0_4.out)
 rintro e w5 ⟨rfl, hb⟩
 refine ⟨_, rfl, ?_⟩
 have n0_ := Aside0.mk (bb BK102.out hb)
 have n1_ := Aside0.mk (below_step bl hb)
 clear BK102
 clear HB
 have BK102 := n0_
 have HB := n1_
 clear n0_ n1_
 (try clear hb)
 (try clear hb2)
 (try clear hk)
 (try clear hi)
 refine hK.out _ _ ⟨(blk_cell BK102.out 0).trans rfl, (blk_cell BK102.out 1).trans rfl, (blk_cell BK102.out 2).trans rfl, (blk_cell BK102.out 3).trans rfl, (blk_cell BK102.out 4).trans rfl⟩ (fun hHeld => ?_)
 clear hK K
 refine norm_ (a' := ?_) ?_ ?_
 rotate_left; focus (show Act.put _ (some 4) _ = _; simp only [Act.put, List.setIfInBounds_toArray, List.set_cons_zero, List.set_cons_succ, i64_w, i32_w]; rfl)
 refine pure_ (i := 5) (N := some 8) (v := ?_) (a' := ?_) #[true,true,true,true,true,true,false] rfl rfl (by kernel_rfl) (fun _ _ _ h => h) (Or.inl ⟨by rfl, ?_⟩) ?_ ?_
 rotate_left; focus (intro w'; go_simp; with_reducible rfl)
 rotate_left; focus (simp only [Act.put, List.setIfInBounds_toArray, List.set_cons_zero, List.set_cons_succ, i64_w, i32_w]; rfl)
 refine pure_ (i := 6) (N := some 2) (v := ?_) (a' := ?_) #[true,true,true,true,true,true,true] rfl rfl (by kernel_rfl) (fun _ _ _ h => h) (Or.inl ⟨by rfl, ?_⟩) ?_ ?_
 rotate_left; focus (intro w'; go_simp; with_reducible rfl)
 rotate_left; focus (simp only [Act.put, List.setIfInBounds_toArray, List.set_cons_zero, List.set_cons_succ, i64_w, i32_w]; rfl)
 refine done_ (by kernel_rfl) ?_
 try go_wp2
 go_ret
 exact ⟨by first | rfl | (simp [errW_none, errW_some] <;> rfl) | (simp [*, errW_none, errW_some] <;> rfl), bl⟩

end Go.Proofs.YtlegjcagkmjfjaaDoor.PT
