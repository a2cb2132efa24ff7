-- PRINTED by print.py (a twelfth state) out of the translation. Not trusted: Lean checks it.
import Derived.Test.YtpkpmdmmnhmnlaaDoorPTx0
import Derived.Test.YtpkpmdmmnhmnlaaDoorCmp
import Derived.Maps.Views
import Derived.Maps.Own
namespace Go.Proofs.YtpkpmdmmnhmnlaaDoor.PT
open Go.RowKit Go.Proofs.YtpkpmdmmnhmnlaaDoorW.PrintWords Go.Proofs.YtpkpmdmmnhmnlaaDoorW.PrintLast Go.Proofs.YtpkpmdmmnhmnlaaDoorW.PrintMore
attribute [local go_sem] max2_int min2_int max_two min_two max_three min_three max_four min_four   -- for this text's walks alone
set_option linter.unusedVariables false
set_option linter.unusedSimpArgs false

theorem eqA44 (d : Nat) (w : World) (x0 y0 : ByteArray) (x1 y1 : Int) (x2 y2 : Int) (x3 y3 : Int) (x4 y4 : Bool) :
    (Op.equalIn (d + 2) 44 (.agg #[.string x0, .int .i64 x1, .int .i64 x2, .int .i64 x3, .bool x4]) (.agg #[.string y0, .int .i64 y1, .int .i64 y2, .int .i64 y3, .bool y4])).run Tryd.prog w = .ok (x0.toList == y0.toList && (x1 == y1 && (x2 == y2 && (x3 == y3 && (x4 == y4))))) w := by
  refine eqA_of Tryd.underlying44 (by kernel_rfl) ?_
  refine eqf_cons (by rfl) (by go_simp; rfl) (by go_simp; rfl) (by go_simp) ?_
  refine eqf_cons (by rfl) (by go_simp; rfl) (by go_simp; rfl) (by go_simp) ?_
  refine eqf_cons (by rfl) (by go_simp; rfl) (by go_simp; rfl) (by go_simp) ?_
  refine eqf_cons (by rfl) (by go_simp; rfl) (by go_simp; rfl) (by go_simp) ?_
  exact eqf_last (by rfl) (by go_simp; rfl) (by go_simp; rfl) (by go_simp)
end Go.Proofs.YtpkpmdmmnhmnlaaDoor.PT
namespace Go.Proofs.YtpkpmdmmnhmnlaaDoor.PT
open Go.RowKit Go.Proofs.YtpkpmdmmnhmnlaaDoorW.PrintWords Go.Proofs.YtpkpmdmmnhmnlaaDoorW.PrintLast Go.Proofs.YtpkpmdmmnhmnlaaDoorW.PrintMore
attribute [local go_sem] max2_int min2_int max_two min_two max_three min_three max_four min_four   -- for this text's walks alone
set_option linter.unusedVariables false
set_option linter.unusedSimpArgs false

-- the contract of function 30 (slices.Clone[[]string,string]): written by hand
/-! ### slices_Clone_string_string: function 30 -/
def slices_Clone_string_string.f (l0 : List ByteArray) : Option (List ByteArray) := if l0.length < 4398046511104 then some l0 else none
theorem slices_Clone_string_string.info : (Tryd.prog.info? 9).map (fun i => (i.zero, i.size, i.bytes)) = some (some (.string ByteArray.empty), 1, 16) := by kernel_rfl
set_option maxHeartbeats 1000000 in
set_option maxRecDepth 100000 in
theorem slices_Clone_string_string.calls (A0 : Option Addr) (c0 : Nat) (l0 : List ByteArray) (r : List ByteArray) (w : World) (hr0 : Kd.C Kd.string w A0 l0.length l0) (hc0 : l0.length ≤ c0) (h : slices_Clone_string_string.f l0 = some r) :
    Calls Tryd.prog 30 #[.slice A0 l0.length c0] w fun e w' => ∃ v0_ : Value, e = .returned (v0_) ∧ Kd.R Kd.string 9 w' w.heap.size (fun _ => True) v0_ r ∧ Below w.heap.size w w' := by
  unfold slices_Clone_string_string.f at h
  split at h
  · rename_i hlim
    obtain rfl := Option.some.inj h
    clear h
    have hu := Tryd.underlying22
    rcases A0 with _ | ad
    · obtain rfl := Hnd.nilC hr0
      have he := fun W => Lib.run_eql_slice_nil (P := Tryd.prog) W 22 9 none 0 c0 0 0 hu
      go_enter Tryd.func30, Tryd.ntmps30
      go_wp2
      go_ret
      exact ⟨_, rfl, Kd.R_nil _ _ _ _ _, Below.refl _ _⟩
    · have he := fun W => Lib.run_eql_slice_nil (P := Tryd.prog) W 22 9 (some ad) l0.length c0 0 0 hu
      go_enter Tryd.func30, Tryd.ntmps30
      have hR0 := Hnd.litR Kd.string 9 w w.heap.size (Nat.le_refl _)
      have hC0 := Kd.C_below hr0 (below_alloc (Below.refl w.heap.size w) (.cells #[] 9))
      go_wp2_with (at_builtin; refine Kd.R_append_rows Kd.string (w0 := w) w.heap.size rfl (.tmp 5) (.tmp 6) 22 9 (.string ByteArray.empty) 16 rfl hu slices_Clone_string_string.info rfl (by decide) (by decide) _ [] l0 (some ad) l0.length c0 (fun _ => True) (fun _ => False) rfl rfl hR0 hC0 (fun x cs hx => hx) (fun _ hk => hk.elim) (fun _ _ => trivial) (below_alloc (Below.refl _ _) _) (by simp) (by simp; omega) ?_; intro v1 w1 hR hB _ _)
      go_ret
      exact ⟨_, rfl, by simpa using hR, hB⟩
  · cases h

end Go.Proofs.YtpkpmdmmnhmnlaaDoor.PT
namespace Go.Proofs.YtpkpmdmmnhmnlaaDoor.PT
open Go.RowKit Go.Proofs.YtpkpmdmmnhmnlaaDoorW.PrintWords Go.Proofs.YtpkpmdmmnhmnlaaDoorW.PrintLast Go.Proofs.YtpkpmdmmnhmnlaaDoorW.PrintMore
attribute [local go_sem] max2_int min2_int max_two min_two max_three min_three max_four min_four   -- for this text's walks alone
set_option linter.unusedVariables false
set_option linter.unusedSimpArgs false

/-! ### netlist_First: function 47 -/
def netlist_First.f (l0_0 : List ByteArray) (l0_1 : List ByteArray) (l0_2 : List (S44)) (l0_3 : List (S51)) (l0_4 : List Int) : Option (Int) := some (wrap64 ((wrap64 (2 + (l0_0.length : Int))) + (l0_2.length : Int)))
set_option maxHeartbeats 8000000 in
set_option maxRecDepth 100000 in
theorem netlist_First.calls (A0_0 : Option Addr) (c0_0 : Nat) (l0_0 : List ByteArray) (A0_1 : Option Addr) (c0_1 : Nat) (l0_1 : List ByteArray) (A0_2 : Option Addr) (c0_2 : Nat) (l0_2 : List (S44)) (A0_3 : Option Addr) (c0_3 : Nat) (l0_3 : List (S51)) (A0_4 : Option Addr) (c0_4 : Nat) (l0_4 : List Int) (r : Int) (w : World) (hr0_0 : Kd.C Kd.string w A0_0 l0_0.length l0_0) (hc0_0 : l0_0.length ≤ c0_0) (hr0_1 : Kd.C Kd.string w A0_1 l0_1.length l0_1) (hc0_1 : l0_1.length ≤ c0_1) (hr0_2 : Kd.C k44 w A0_2 l0_2.length l0_2) (hc0_2 : l0_2.length ≤ c0_2) (hr0_3 : Kd.C k51 w A0_3 l0_3.length l0_3) (hc0_3 : l0_3.length ≤ c0_3) (hr0_4 : Kd.C (Kd.int .i64) w A0_4 l0_4.length l0_4) (hc0_4 : l0_4.length ≤ c0_4) (h : netlist_First.f l0_0 l0_1 l0_2 l0_3 l0_4 = some r) :
    Calls Tryd.prog 47 #[.agg #[.slice A0_0 l0_0.length c0_0, .slice A0_1 l0_1.length c0_1, .slice A0_2 l0_2.length c0_2, .slice A0_3 l0_3.length c0_3, .slice A0_4 l0_4.length c0_4]] w fun e w' => e = .returned (.int .i64 r) ∧ Below w.heap.size w w' := by
  have hu27 := Tryd.underlying27
  have HR0_0 := Aside0.mk hr0_0
  have HC0_0 := Aside0.mk hc0_0
  clear hr0_0 hc0_0
  have HR0_1 := Aside0.mk hr0_1
  have HC0_1 := Aside0.mk hc0_1
  clear hr0_1 hc0_1
  have HR0_2 := Aside0.mk hr0_2
  have HC0_2 := Aside0.mk hc0_2
  clear hr0_2 hc0_2
  have HR0_3 := Aside0.mk hr0_3
  have HC0_3 := Aside0.mk hc0_3
  clear hr0_3 hc0_3
  have HR0_4 := Aside0.mk hr0_4
  have HC0_4 := Aside0.mk hc0_4
  clear hr0_4 hc0_4
  have HB := Aside0.mk (Below.refl w.heap.size w)
  have H : (some (wrap64 ((wrap64 (2 + (l0_0.length : Int))) + (l0_2.length : Int)))) = some r := h
  clear h
  obtain rfl := Option.some.inj H
  go_enter Tryd.func47, Tryd.ntmps47
  go_wp2_with (first | ((with_reducible refine gate_dst (N := 1) rfl ?_); refine box_event ?hg (N := 1) ?hd (cs := #[.slice A0_0 l0_0.length c0_0, .slice A0_1 l0_1.length c0_1, .slice A0_2 l0_2.length c0_2, .slice A0_3 l0_3.length c0_3, .slice A0_4 l0_4.length c0_4]) (t := 27) ?hr ?_; (case hd => rfl); (case hg => rfl); (case hr => first | (go_simp; done) | (go_simp; rfl)); intro gb101 hg w2 hbox hb; have n0_ := Aside0.mk (below_step (by repeat (first | (with_reducible first | exact HB.out | apply below_alloc | apply pw_below_drewN | apply below_drew1) | exact HB.out)) hb); have n1_ := Aside0.mk (hbox); have n2_ := Aside0.mk ((by rw [hg]; exact (below_size (by repeat (first | (with_reducible first | exact HB.out | apply below_alloc | apply pw_below_drewN | apply below_drew1) | exact HB.out))) : w.heap.size ≤ gb101)); have n3_ := Aside0.mk ((by rw [hg]; exact (below_size (by repeat (first | (with_reducible first | exact HB.out | apply below_alloc | apply pw_below_drewN | apply below_drew1) | exact HB.out))) : w.heap.size ≤ gb101)); clear HB; have HB := n0_; have BK101 := n1_; have GW101 := n2_; have GE101 := n3_; clear n0_ n1_ n2_ n3_; clear hb hbox hg; have hcz3_0 : w2.cell? ⟨gb101, 0, none⟩ = some (.slice A0_0 l0_0.length c0_0) := (blk_cell BK101.out 0).trans rfl; have hcz3_1 : w2.cell? ⟨gb101, 1, none⟩ = some (.slice A0_1 l0_1.length c0_1) := (blk_cell BK101.out 1).trans rfl; have hcz3_2 : w2.cell? ⟨gb101, 2, none⟩ = some (.slice A0_2 l0_2.length c0_2) := (blk_cell BK101.out 2).trans rfl; have hcz3_3 : w2.cell? ⟨gb101, 3, none⟩ = some (.slice A0_3 l0_3.length c0_3) := (blk_cell BK101.out 3).trans rfl; have hcz3_4 : w2.cell? ⟨gb101, 4, none⟩ = some (.slice A0_4 l0_4.length c0_4) := (blk_cell BK101.out 4).trans rfl; have hfz3_0 := blk_frozen BK101.out 0; have hfz3_1 := blk_frozen BK101.out 1; have hfz3_2 := blk_frozen BK101.out 2; have hfz3_3 := blk_frozen BK101.out 3; have hfz3_4 := blk_frozen BK101.out 4))
  go_ret
  exact ⟨by first | rfl | (simp [errW_none, errW_some] <;> rfl) | (simp [*, errW_none, errW_some] <;> rfl), by repeat (first | (with_reducible first | exact HB.out | apply below_alloc | apply pw_below_drewN | apply below_drew1 | refine below_set ?_ GE101.out) | exact HB.out)⟩

end Go.Proofs.YtpkpmdmmnhmnlaaDoor.PT
namespace Go.Proofs.YtpkpmdmmnhmnlaaDoor.PT
open Go.RowKit Go.Proofs.YtpkpmdmmnhmnlaaDoorW.PrintWords Go.Proofs.YtpkpmdmmnhmnlaaDoorW.PrintLast Go.Proofs.YtpkpmdmmnhmnlaaDoorW.PrintMore
attribute [local go_sem] max2_int min2_int max_two min_two max_three min_three max_four min_four   -- for this text's walks alone
set_option linter.unusedVariables false
set_option linter.unusedSimpArgs false

-- the contract of function 69 (maskwright/graph.Name): written by hand
/-! ### graph_Name: function 69 -/
def graph_Name.ok (c : Int) : Bool := decide (33 ≤ c) && decide (c ≤ 126)
def graph_Name.b (a0 : ByteArray) : Bool := decide (1 ≤ a0.size) && decide (a0.size ≤ 128) && (List.range a0.size).all (fun j => graph_Name.ok (bt a0 (j : Int)))
def graph_Name.f (a0 : ByteArray) : Option Bool := some (graph_Name.b a0)
theorem graph_Name.row (s : ByteArray) (c : Nat) (j : Nat) (hj : j < s.size) : (bytesRow s c)[j]? = some (.int .u8 (bt s (j : Int))) := by
 have h1 : j < (s.data.map (fun b => Value.int .u8 b.toNat)).size := by simpa using hj
 unfold bytesRow
 rw [Array.getElem?_append_left h1, Array.getElem?_eq_getElem h1]
 simp only [Array.getElem_map, Option.some.injEq, Value.int.injEq, true_and]
 unfold bt
 rw [dif_pos (by simpa using hj)]
 rfl
set_option maxHeartbeats 2000000 in
set_option maxRecDepth 100000 in
theorem graph_Name.calls (a0 : ByteArray) (r : Bool) (w : World) (h : graph_Name.f a0 = some r) :
    Calls Tryd.prog 69 #[.string a0] w fun e w' => e = .returned (.bool r) ∧ Below w.heap.size w w' := by
 obtain rfl := Option.some.inj h
 clear h
 have HB0 := Aside0.mk (Below.refl w.heap.size w)
 by_cases h1 : a0.size < 1
 · have HF := Aside0.mk (show graph_Name.b a0 = false by simp [graph_Name.b]; omega)
   have d1 : decide ((a0.size : Int) < 1) = true := decide_eq_true (by omega)
   clear h1
   go_enter Tryd.func69, Tryd.ntmps69
   go_wp2
   go_ret
   exact ⟨by rw [HF.out]; rfl, HB0.out⟩
 by_cases h2 : 128 < a0.size
 · have HF := Aside0.mk (show graph_Name.b a0 = false by simp [graph_Name.b]; omega)
   have d1 : decide ((a0.size : Int) < 1) = false := decide_eq_false (by omega)
   have d2 : decide (128 < (a0.size : Int)) = true := decide_eq_true (by omega)
   clear h1 h2
   go_enter Tryd.func69, Tryd.ntmps69
   go_wp2
   go_ret
   exact ⟨by rw [HF.out]; rfl, HB0.out⟩
 have d1 : decide ((a0.size : Int) < 1) = false := decide_eq_false (by omega)
 have d2 : decide (128 < (a0.size : Int)) = false := decide_eq_false (by omega)
 have HP := Aside0.mk (show graph_Name.b a0 = (List.range a0.size).all (fun j => graph_Name.ok (bt a0 (j : Int))) by
   simp only [graph_Name.b, decide_eq_true (show 1 ≤ a0.size by omega), decide_eq_true (show a0.size ≤ 128 by omega), Bool.true_and])
 have hs : a0.size ≤ 128 := by omega
 clear h1 h2
 have hcv := fun (w : World) (s : ByteArray) => run_bytes_of_string (P := Tryd.prog) w 9 132 5 s Tryd.underlying9 Tryd.underlying132 Tryd.underlying5
 go_enter Tryd.func69, Tryd.ntmps69
 go_wp2
 clear hcv d1 d2
 have HB := Aside0.mk (below_drew1 (below_alloc HB0.out (.cells (bytesRow a0 (grownCap w a0.size 0 5)) 5 ((bytesRow a0 (grownCap w a0.size 0 5)).size, (bytesRow a0 (grownCap w a0.size 0 5)).size + 1))))
 have HC := Aside0.mk (show ∀ j : Nat, j < a0.size → ((w.alloc (.cells (bytesRow a0 (grownCap w a0.size 0 5)) 5 ((bytesRow a0 (grownCap w a0.size 0 5)).size, (bytesRow a0 (grownCap w a0.size 0 5)).size + 1))).drew).cell? ⟨w.heap.size, j, none⟩ = some (.int .u8 (bt a0 (j : Int))) from fun j hj => (cell_of_row _ _ j _ _ _ (blk_drew (blk_new w _))).trans (graph_Name.row a0 _ j hj))
 generalize (w.alloc (.cells (bytesRow a0 (grownCap w a0.size 0 5)) 5 ((bytesRow a0 (grownCap w a0.size 0 5)).size, (bytesRow a0 (grownCap w a0.size 0 5)).size + 1))).drew = w1 at HB HC ⊢
 generalize grownCap w a0.size 0 5 = cap
 clear HB0
 go_loop [16] (fun v26 => ∃ i : Int, 0 ≤ i ∧ i ≤ a0.size ∧ v26 = .int .i64 i ∧ Aside0 (∀ j : Nat, (j : Int) < i → graph_Name.ok (bt a0 (j : Int)) = true)) (fun v26 => (a0.size - (intOf v26).toNat))
 case atStart => exact ⟨0, by omega, by omega, rfl, ⟨fun j hj => by omega⟩⟩
 obtain ⟨i, h0, h1, rfl, HI⟩ := hrel
 by_cases hlt : i < a0.size
 rotate_left
 · have e1 : decide (i < (a0.size : Int)) = false := decide_eq_false hlt
   have HK := Aside0.mk (show graph_Name.b a0 = true by
     rw [HP.out, List.all_eq_true]
     exact fun j hj => HI.out j (by have := List.mem_range.1 hj; omega))
   clear HI
   go_wp2
   go_ret
   exact ⟨by rw [HK.out]; rfl, HB.out⟩
 have c1 := HC.out i.toNat (by omega)
 rw [Int.toNat_of_nonneg h0] at c1
 have br := bt_range a0 i
 have HN := Aside0.mk (show graph_Name.ok (bt a0 i) = true → ∀ j : Nat, (j : Int) < i + 1 → graph_Name.ok (bt a0 (j : Int)) = true from fun hk j hj => if e : (j : Int) = i then e ▸ hk else HI.out j (by omega))
 have HF := Aside0.mk (show graph_Name.ok (bt a0 i) = false → graph_Name.b a0 = false from fun hk => by
   rw [HP.out, List.all_eq_false]
   exact ⟨i.toNat, List.mem_range.2 (by omega), by rw [Int.toNat_of_nonneg h0, hk]; simp⟩)
 clear HI
 generalize bt a0 i = b at c1 br HN HF
 by_cases r1 : b < 33
 · have d1 : decide (b < 33) = true := decide_eq_true r1
   have HK := Aside0.mk (HF.out (by unfold graph_Name.ok; simp; omega))
   clear r1 br HN HF
   go_wp2
   go_ret
   exact ⟨by rw [HK.out]; rfl, HB.out⟩
 have d1 : decide (b < 33) = false := decide_eq_false r1
 by_cases r2 : 126 < b
 · have d2 : decide (126 < b) = true := decide_eq_true r2
   have HK := Aside0.mk (HF.out (by unfold graph_Name.ok; simp; omega))
   clear r1 r2 br HN HF
   go_wp2
   go_ret
   exact ⟨by rw [HK.out]; rfl, HB.out⟩
 have d2 : decide (126 < b) = false := decide_eq_false r2
 have HK := Aside0.mk (HN.out (by unfold graph_Name.ok; simp; omega))
 clear r1 r2 br HN HF
 go_wp2
 go_round
 case rel => exact ⟨i + 1, by omega, by omega, by go_num, HK⟩
 case measure => simp [intOf]; omega

end Go.Proofs.YtpkpmdmmnhmnlaaDoor.PT
namespace Go.Proofs.YtpkpmdmmnhmnlaaDoor.PT
open Go.RowKit Go.Proofs.YtpkpmdmmnhmnlaaDoorW.PrintWords Go.Proofs.YtpkpmdmmnhmnlaaDoorW.PrintLast Go.Proofs.YtpkpmdmmnhmnlaaDoorW.PrintMore
attribute [local go_sem] max2_int min2_int max_two min_two max_three min_three max_four min_four   -- for this text's walks alone
set_option linter.unusedVariables false
set_option linter.unusedSimpArgs false

-- the contract of function 59 (maskwright/graph.Names): written by hand
/-! ### graph_Names: function 59 -/
-- IMPORT Derived.Maps.Own
-- IMPORT Derived.Maps.Views
def graph_Names.tw (l : List ByteArray) (i : Int) : Bool := (l.take i.toNat).any (fun d => d.data.toList == (rdOf ByteArray.empty l i).data.toList)
def graph_Names.l0 : Nat → List ByteArray → Int → Option Int
  | 0, _, _ => none
  | k + 1, l, i => if i < (l.length : Int) then ((graph_Name.f (rdOf ByteArray.empty l i)).bind fun e => if e = true then (if graph_Names.tw l i = true then some 6 else graph_Names.l0 k l (i + 1)) else some 9) else some 0
def graph_Names.f (k : Nat) (l0 : List ByteArray) : Option Int := graph_Names.l0 k l0 0
theorem graph_Names.mono_l : ∀ k l i, LeO (graph_Names.l0 k l i) (graph_Names.l0 (k + 1) l i)
  | 0, _, _ => fun r h => by simp [graph_Names.l0] at h
  | k + 1, l, i => by
    unfold graph_Names.l0
    repeat' first
      | (with_reducible exact graph_Names.mono_l k _ _)
      | (with_reducible exact LeO.refl _)
      | (with_reducible refine LeO.ite ?_ ?_)
      | (with_reducible refine LeO.bind ?_ (fun _ => ?_))
theorem graph_Names.mono : ∀ l k, LeO (graph_Names.f k l) (graph_Names.f (k + 1) l) := fun l k => graph_Names.mono_l k l 0
theorem graph_Names.law : Go.Maps.Keyed Tryd.prog 9 := Go.Maps.string_keyed Tryd.underlying9
theorem graph_Names.zero (w : World) : (zeroValue 3).run Tryd.prog w = .ok (.int .i64 0) w := by kernel_rfl
set_option maxHeartbeats 4000000 in
set_option maxRecDepth 100000 in
theorem graph_Names.calls (k : Nat) (A0 : Option Addr) (c0 : Nat) (l0 : List ByteArray) (r : Int) (w : World) (hr0 : Kd.C Kd.string w A0 l0.length l0) (hc0 : l0.length ≤ c0) (h : graph_Names.f k l0 = some r) :
    Calls Tryd.prog 59 #[.slice A0 l0.length c0] w fun e w' => e = .returned (.int .i64 r) ∧ Below w.heap.size w w' := by
 have h63 : l0.length ≤ 9223372036854775807 := hr0.2.1
 have hmm := @run_makeMap Tryd.prog
 have HR := Aside0.mk hr0
 have HH := Aside0.mk h
 have HB0 := Aside0.mk (Below.refl w.heap.size w)
 clear hr0 hc0 h
 go_enter Tryd.func59, Tryd.ntmps59
 go_wp2
 go_loopw [9] (fun v wr => ∃ (i : Int) (kq n : Nat) (D : DataW Unit), 0 ≤ i ∧ i ≤ l0.length ∧ v = .int .i64 i ∧ Aside0 (graph_Names.l0 kq l0 i = some r) ∧ Aside0 ((n : Int) = i ∧ wr.ownsMap Tryd.prog 9 (plainElem Tryd.prog 3) w.heap.size n D ∧ Go.Maps.IsMap D) ∧ Aside0 (∀ s : ByteArray, D.atKey (.string s.data.toList) (.lit (.int .i64 0)) = .lit (.int .i64 (if (l0.take i.toNat).any (fun d => d.data.toList == s.data.toList) then 1 else 0))) ∧ Aside0 (Below w.heap.size w wr)) (fun v _ => (l0.length - (intOf v).toNat))
 case atStart => exact ⟨0, k, 0, .map [], by omega, by omega, rfl, HH, ⟨rfl, World.ownsMap_made _ _ _ _, ⟨[], rfl⟩⟩, ⟨fun s => by simp [DataW.atKey]⟩, ⟨below_alloc HB0.out _⟩⟩
 clear HH HB0
 obtain ⟨i, kq, n, D, h0, h1, rfl, HA, HO, HK, HB⟩ := hrel
 cases kq with
 | zero => exact absurd HA.out (by simp [graph_Names.l0])
 | succ k1 =>
  have H := HA.out
  clear HA
  simp only [graph_Names.l0] at H
  by_cases hlt : i < (l0.length : Int)
  rotate_left
  · rw [if_neg hlt] at H
    have hF := Aside0.mk (Option.some.inj H)
    have e1 : decide (i < (l0.length : Int)) = false := decide_eq_false hlt
    clear hlt H
    go_wp2
    go_ret
    exact ⟨by rw [← hF.out]; rfl, HB.out⟩
  rw [if_pos hlt] at H
  obtain ⟨ad, rfl, d0⟩ := Kd.at_string (Kd.C_below HR.out HB.out) i h0 hlt
  have HT := Aside0.mk (show l0.take (i + 1).toNat = l0.take i.toNat ++ [rdOf ByteArray.empty l0 i] by
    rw [show (i + 1).toNat = i.toNat + 1 by omega, List.take_succ_eq_append_getElem (by omega)]
    unfold rdOf
    rw [List.getD_eq_getElem?_getD, List.getElem?_eq_getElem (by omega)]
    rfl)
  have HW := Aside0.mk (show graph_Names.tw l0 i = (l0.take i.toNat).any (fun d => d.data.toList == (rdOf ByteArray.empty l0 i).data.toList) from rfl)
  generalize rdOf ByteArray.empty l0 i = s at d0 H HT HW
  cases hb : graph_Name.b s with
  | false =>
   have HF := Aside0.mk (show (9 : Int) = r by
     unfold graph_Name.f at H
     rw [hb] at H
     exact Option.some.inj H)
   have HC := Aside0.mk (show graph_Name.f s = some false by unfold graph_Name.f; rw [hb])
   clear hb H
   go_wp2_with fail
   refine (graph_Name.calls s false _ HC.out).mono ?_
   rintro e w1 ⟨rfl, hw1⟩
   have HB1 := Aside0.mk (below_step HB.out hw1)
   clear hw1 HB d0
   go_wp2
   go_ret
   exact ⟨by rw [← HF.out]; rfl, HB1.out⟩
  | true =>
   have HF := Aside0.mk (show (if graph_Names.tw l0 i = true then some 6 else graph_Names.l0 k1 l0 (i + 1)) = some r by
     unfold graph_Name.f at H
     rw [hb] at H
     exact H)
   have HC := Aside0.mk (show graph_Name.f s = some true by unfold graph_Name.f; rw [hb])
   have hsz : s.size ≤ 128 := by
     unfold graph_Name.b at hb
     simp only [Bool.and_eq_true, decide_eq_true_eq] at hb
     exact hb.1.2
   have hkey : keyOf Tryd.prog 9 (.string s) = some (.string s.data.toList) := Go.WideMaps.keyOf_string_mk Tryd.underlying9 (by unfold maxLen; omega)
   clear hb H
   go_wp2_with fail
   refine (graph_Name.calls s true _ HC.out).mono ?_
   rintro e w1 ⟨rfl, hw1⟩
   have HB1 := Aside0.mk (below_step HB.out hw1)
   have HO1 := Aside0.mk (show w1.ownsMap Tryd.prog 9 (plainElem (H := Unit) Tryd.prog 3) w.heap.size n D from by
     obtain ⟨es, ck, hb, F, hs, hD⟩ := HO.out.2.1
     exact ⟨es, ck, blk_below hb hw1, F, hs, hD⟩)
   obtain ⟨c, hrun, hat, _⟩ := HO1.out.lookup_int graph_Names.law Tryd.underlying123 Tryd.underlying3 (graph_Names.zero _) hkey
   rw [HK.out s, ← HW.out] at hat
   clear hw1 HB d0
   have hn : n < 9223372036854775807 := by have := HO.out.1; omega
   cases htw : graph_Names.tw l0 i with
   | true =>
    have hF := Aside0.mk (Option.some.inj ((if_pos htw).symm.trans HF.out))
    rw [htw] at hat
    obtain rfl : c = 1 := by simpa using hat.symm
    clear hat htw HF
    go_wp2_with (at_mapUpdate; refine wpList_mapUpdate_own _ rfl _ _ _ 123 rfl 9 3 graph_Names.law Tryd.underlying123 _ w.heap.size n _ rfl HO1.out (by unfold maxLen; omega) _ _ _ rfl rfl hkey _ [] (plainElem_int Tryd.underlying3 (by decide)) ?_)
    intro w2 hown2 hgrow2
    obtain ⟨c, hrun2, hat2, _⟩ := hown2.lookup_int graph_Names.law Tryd.underlying123 Tryd.underlying3 (graph_Names.zero _) hkey
    rw [Go.Maps.atKey_put_same HO.out.2.2 (graph_Names.law.key hkey)] at hat2
    obtain rfl : c = 2 := by simpa using hat2.symm
    have HB2 := Aside0.mk (HB1.out.grown hgrow2 HB1.out.size (fun j hj => by cases hj; exact Nat.le_refl _))
    clear hat2 hown2 hgrow2 hrun HB1
    go_wp2
    go_ret
    exact ⟨by rw [← hF.out]; rfl, HB2.out⟩
   | false =>
    have hF := Aside0.mk ((if_neg (by rw [htw]; simp)).symm.trans HF.out)
    rw [htw] at hat
    obtain rfl : c = 0 := by simpa using hat.symm
    have HTW := Aside0.mk (HW.out.symm.trans htw)
    clear hat htw HF HW
    go_wp2_with (at_mapUpdate; refine wpList_mapUpdate_own _ rfl _ _ _ 123 rfl 9 3 graph_Names.law Tryd.underlying123 _ w.heap.size n _ rfl HO1.out (by unfold maxLen; omega) _ _ _ rfl rfl hkey _ [] (plainElem_int Tryd.underlying3 (by decide)) ?_)
    intro w2 hown2 hgrow2
    obtain ⟨c, hrun2, hat2, _⟩ := hown2.lookup_int graph_Names.law Tryd.underlying123 Tryd.underlying3 (graph_Names.zero _) hkey
    have hput := Go.Maps.atKey_put_same HO.out.2.2 (graph_Names.law.key hkey)
    rw [hput] at hat2
    obtain rfl : c = 1 := by simpa using hat2.symm
    have HB2 := Aside0.mk (HB1.out.grown hgrow2 HB1.out.size (fun j hj => by cases hj; exact Nat.le_refl _))
    have HO2 := Aside0.mk (show ((n + 1 : Nat) : Int) = i + 1 ∧ w2.ownsMap Tryd.prog 9 (plainElem (H := Unit) Tryd.prog 3) w.heap.size (n + 1) (D.put (.string s.data.toList) (.lit (.int .i64 1))) ∧ Go.Maps.IsMap (D.put (.string s.data.toList) (.lit (.int .i64 1))) from ⟨by have := HO.out.1; omega, hown2, HO.out.2.2.put _ _⟩)
    have HK2 := Aside0.mk (show ∀ s' : ByteArray, (D.put (.string s.data.toList) (.lit (.int .i64 1))).atKey (.string s'.data.toList) (.lit (.int .i64 0)) = .lit (.int .i64 (if (l0.take (i + 1).toNat).any (fun d => d.data.toList == s'.data.toList) then 1 else 0)) from fun s' => by
      rw [HT.out, List.any_append]
      by_cases e : s'.data.toList = s.data.toList
      · rw [e, hput]
        simp
      · rw [Go.Maps.atKey_put_other (fun h => e (by injection h)), HK.out s']
        have : ¬ s.data = s'.data := fun h => e (by rw [h])
        simp [this])
    clear hat2 hown2 hgrow2 hrun HB1 hput HK HO HO1 HTW HT
    go_wp2
    go_roundw
    case rel => exact ⟨i + 1, k1, n + 1, _, by omega, by omega, by go_num, hF, HO2, HK2, HB2⟩
    case measure => simp [intOf]; omega

end Go.Proofs.YtpkpmdmmnhmnlaaDoor.PT
namespace Go.Proofs.YtpkpmdmmnhmnlaaDoor.PT
open Go.RowKit Go.Proofs.YtpkpmdmmnhmnlaaDoorW.PrintWords Go.Proofs.YtpkpmdmmnhmnlaaDoorW.PrintLast Go.Proofs.YtpkpmdmmnhmnlaaDoorW.PrintMore
attribute [local go_sem] max2_int min2_int max_two min_two max_three min_three max_four min_four   -- for this text's walks alone
set_option linter.unusedVariables false
set_option linter.unusedSimpArgs false

-- the contract of function 60 (maskwright/netlist.Mask): written by hand
/-! ### netlist_Mask: function 60 -/
def netlist_Mask.f (a0 : Int) : Option Int := some (if a0 = 0 then 1 else if a0 = 1 then 3 else if a0 = 2 then 15 else if a0 = 3 then 255 else if a0 = 4 then 65535 else if a0 = 5 then 4294967295 else if a0 = 6 then 18446744073709551615 else 0)
set_option maxHeartbeats 2000000 in
set_option maxRecDepth 100000 in
theorem netlist_Mask.calls (a0 : Int) (r : Int) (w : World) (h : netlist_Mask.f a0 = some r) :
    Calls Tryd.prog 60 #[.int .i64 a0] w fun e w' => e = .returned (.int .u64 r) ∧ Drawn0 w w' := by
  obtain rfl := Option.some.inj h
  clear h
  by_cases h1 : a0 < 0
  · have HF := Aside0.mk (show (if a0 = 0 then (1 : Int) else if a0 = 1 then 3 else if a0 = 2 then 15 else if a0 = 3 then 255 else if a0 = 4 then 65535 else if a0 = 5 then 4294967295 else if a0 = 6 then 18446744073709551615 else 0) = 0 by
      rw [if_neg (by omega), if_neg (by omega), if_neg (by omega), if_neg (by omega), if_neg (by omega), if_neg (by omega), if_neg (by omega)])
    have d1 : decide (a0 < 0) = true := decide_eq_true h1
    generalize (if a0 = 0 then (1 : Int) else if a0 = 1 then 3 else if a0 = 2 then 15 else if a0 = 3 then 255 else if a0 = 4 then 65535 else if a0 = 5 then 4294967295 else if a0 = 6 then 18446744073709551615 else 0) = q at HF ⊢
    clear h1
    go_enter Tryd.func60, Tryd.ntmps60
    go_wp2
    go_ret
    exact ⟨by rw [HF.out]; rfl, Drawn0.refl _⟩
  by_cases h2 : 6 < a0
  · have HF := Aside0.mk (show (if a0 = 0 then (1 : Int) else if a0 = 1 then 3 else if a0 = 2 then 15 else if a0 = 3 then 255 else if a0 = 4 then 65535 else if a0 = 5 then 4294967295 else if a0 = 6 then 18446744073709551615 else 0) = 0 by
      rw [if_neg (by omega), if_neg (by omega), if_neg (by omega), if_neg (by omega), if_neg (by omega), if_neg (by omega), if_neg (by omega)])
    have d1 : decide (a0 < 0) = false := decide_eq_false h1
    have d2 : decide (6 < a0) = true := decide_eq_true h2
    generalize (if a0 = 0 then (1 : Int) else if a0 = 1 then 3 else if a0 = 2 then 15 else if a0 = 3 then 255 else if a0 = 4 then 65535 else if a0 = 5 then 4294967295 else if a0 = 6 then 18446744073709551615 else 0) = q at HF ⊢
    clear h1 h2
    go_enter Tryd.func60, Tryd.ntmps60
    go_wp2
    go_ret
    exact ⟨by rw [HF.out]; rfl, Drawn0.refl _⟩
  have hc : a0 = 0 ∨ a0 = 1 ∨ a0 = 2 ∨ a0 = 3 ∨ a0 = 4 ∨ a0 = 5 ∨ a0 = 6 := by omega
  clear h1 h2
  rcases hc with rfl | rfl | rfl | rfl | rfl | rfl | rfl
  all_goals
    go_enter Tryd.func60, Tryd.ntmps60
    go_wp2
    go_ret
    exact ⟨by rfl, Drawn0.refl _⟩

end Go.Proofs.YtpkpmdmmnhmnlaaDoor.PT
namespace Go.Proofs.YtpkpmdmmnhmnlaaDoor.PT
open Go.RowKit Go.Proofs.YtpkpmdmmnhmnlaaDoorW.PrintWords Go.Proofs.YtpkpmdmmnhmnlaaDoorW.PrintLast Go.Proofs.YtpkpmdmmnhmnlaaDoorW.PrintMore
attribute [local go_sem] max2_int min2_int max_two min_two max_three min_three max_four min_four   -- for this text's walks alone
set_option linter.unusedVariables false
set_option linter.unusedSimpArgs false

/-! ### netlist_Nets: function 45 -/
def netlist_Nets.f (l0_0 : List ByteArray) (l0_1 : List ByteArray) (l0_2 : List (S44)) (l0_3 : List (S51)) (l0_4 : List Int) : Option (Int) := (netlist_First.f l0_0 l0_1 l0_2 l0_3 l0_4).bind fun t103 => (some (wrap64 (t103 + (l0_3.length : Int))))
set_option maxHeartbeats 8000000 in
set_option maxRecDepth 100000 in
theorem netlist_Nets.calls (A0_0 : Option Addr) (c0_0 : Nat) (l0_0 : List ByteArray) (A0_1 : Option Addr) (c0_1 : Nat) (l0_1 : List ByteArray) (A0_2 : Option Addr) (c0_2 : Nat) (l0_2 : List (S44)) (A0_3 : Option Addr) (c0_3 : Nat) (l0_3 : List (S51)) (A0_4 : Option Addr) (c0_4 : Nat) (l0_4 : List Int) (r : Int) (w : World) (hr0_0 : Kd.C Kd.string w A0_0 l0_0.length l0_0) (hc0_0 : l0_0.length ≤ c0_0) (hr0_1 : Kd.C Kd.string w A0_1 l0_1.length l0_1) (hc0_1 : l0_1.length ≤ c0_1) (hr0_2 : Kd.C k44 w A0_2 l0_2.length l0_2) (hc0_2 : l0_2.length ≤ c0_2) (hr0_3 : Kd.C k51 w A0_3 l0_3.length l0_3) (hc0_3 : l0_3.length ≤ c0_3) (hr0_4 : Kd.C (Kd.int .i64) w A0_4 l0_4.length l0_4) (hc0_4 : l0_4.length ≤ c0_4) (h : netlist_Nets.f l0_0 l0_1 l0_2 l0_3 l0_4 = some r) :
    Calls Tryd.prog 45 #[.agg #[.slice A0_0 l0_0.length c0_0, .slice A0_1 l0_1.length c0_1, .slice A0_2 l0_2.length c0_2, .slice A0_3 l0_3.length c0_3, .slice A0_4 l0_4.length c0_4]] w fun e w' => e = .returned (.int .i64 r) ∧ Below w.heap.size w w' := by
 have HR0_0 := Aside0.mk hr0_0
 have HC0_0 := Aside0.mk hc0_0
 clear hr0_0 hc0_0
 have HR0_1 := Aside0.mk hr0_1
 have HC0_1 := Aside0.mk hc0_1
 clear hr0_1 hc0_1
 have HR0_2 := Aside0.mk hr0_2
 have HC0_2 := Aside0.mk hc0_2
 clear hr0_2 hc0_2
 have HR0_3 := Aside0.mk hr0_3
 have HC0_3 := Aside0.mk hc0_3
 clear hr0_3 hc0_3
 have HR0_4 := Aside0.mk hr0_4
 have HC0_4 := Aside0.mk hc0_4
 clear hr0_4 hc0_4
 have HB := Aside0.mk (Below.refl w.heap.size w)
 have H : ((netlist_First.f l0_0 l0_1 l0_2 l0_3 l0_4).bind fun t103 => (some (wrap64 (t103 + (l0_3.length : Int))))) = some r := h
 clear h
 replace H := Option.bind_eq_some_iff.mp H
 obtain ⟨t103, A20, H⟩ := H
 replace H : (some (wrap64 (t103 + (l0_3.length : Int)))) = some r := H
 have A2 := Aside0.mk A20
 clear A20
 obtain rfl := Option.some.inj H
 go_enter Tryd.func45, Tryd.ntmps45
 try go_wp2_with ((with_reducible refine gate_dst (N := 1) rfl ?_); refine box_event ?hg (N := 1) ?hd (cs := #[.slice A0_0 l0_0.length c0_0, .slice A0_1 l0_1.length c0_1, .slice A0_2 l0_2.length c0_2, .slice A0_3 l0_3.length c0_3, .slice A0_4 l0_4.length c0_4]) (t := 27) ?hr ?_; (case hd => rfl); (case hg => rfl); (case hr => first | (go_simp; done) | (go_simp; rfl)); intro gb102 hg w3 hbox hb; have BK102 := Aside0.mk (hbox); replace HB := Aside0.mk (below_step bl hb); clear hb hbox hg)
 have n0_ := Aside0.mk (blk_drew BK102.out)
 have n1_ := Aside0.mk (below_drew1 HB.out)
 clear BK102
 clear HB
 have BK102 := n0_
 have HB := n1_
 clear n0_ n1_
 refine start_ (n := 7) (S := fun w' => w'.cell? ⟨gb102, 0, none⟩ = some (.slice A0_0 l0_0.length c0_0) ∧ w'.cell? ⟨gb102, 1, none⟩ = some (.slice A0_1 l0_1.length c0_1) ∧ w'.cell? ⟨gb102, 2, none⟩ = some (.slice A0_2 l0_2.length c0_2) ∧ w'.cell? ⟨gb102, 3, none⟩ = some (.slice A0_3 l0_3.length c0_3) ∧ w'.cell? ⟨gb102, 4, none⟩ = some (.slice A0_4 l0_4.length c0_4)) (ds := []) #[false, false, false, false, false, false, false] (by kernel_rfl) rfl rfl ⟨(blk_cell BK102.out 0).trans rfl, (blk_cell BK102.out 1).trans rfl, (blk_cell BK102.out 2).trans rfl, (blk_cell BK102.out 3).trans rfl, (blk_cell BK102.out 4).trans rfl⟩ (fun hHeld => ?_)
 generalize w3.drew = w4 at BK102 HB hHeld ⊢
 refine pure_ (i := 2) (N := some 5) (v := ?_) (a' := ?_) #[false, false, true, false, false, false, false] rfl rfl (by kernel_rfl) (fun _ _ _ h => h) (Or.inl ⟨by rfl, ?_⟩) ?_ ?_
 rotate_left
 · intro w'
   go_simp
   with_reducible rfl
 rotate_left
 · simp only [Act.put, List.setIfInBounds_toArray, List.set_cons_zero, List.set_cons_succ, i64_w, i32_w]
   rfl
 refine take_ (i := 0) (N := some 3) (v := ?_) (a' := ?_) #[true, false, true, false, false, false, false] rfl rfl (by kernel_rfl) (fun _ _ _ h => h) (Or.inl ⟨by rfl, ?_⟩) hHeld ?_ ?_
 rotate_left
 · rintro w' ⟨s0, s1, s2, s3, s4⟩
   go_simp
   with_reducible rfl
 rotate_left
 · simp only [Act.put, List.setIfInBounds_toArray, List.set_cons_zero, List.set_cons_succ, i64_w, i32_w]
   rfl
 refine take_ (i := 3) (N := some 6) (v := ?_) (a' := ?_) #[true, false, true, true, false, false, false] rfl rfl (by kernel_rfl) (fun _ _ _ h => h) (Or.inl ⟨by rfl, ?_⟩) hHeld ?_ ?_
 rotate_left
 · rintro w' ⟨s0, s1, s2, s3, s4⟩
   go_simp
   with_reducible rfl
 rotate_left
 · simp only [Act.put, List.setIfInBounds_toArray, List.set_cons_zero, List.set_cons_succ, i64_w, i32_w]
   rfl
 refine pure_ (i := 4) (N := some 7) (v := ?_) (a' := ?_) #[true, false, true, true, true, false, false] rfl rfl (by kernel_rfl) (fun _ _ _ h => h) (Or.inl ⟨by rfl, ?_⟩) ?_ ?_
 rotate_left
 · intro w'
   go_simp
   with_reducible rfl
 rotate_left
 · simp only [Act.put, List.setIfInBounds_toArray, List.set_cons_zero, List.set_cons_succ, i64_w, i32_w]
   rfl
 refine one_ (i := 1) (N := some 4) #[true, true, true, true, true, false, false] rfl rfl (by kernel_rfl) (by decide) (fun K hK => ?_)
 refine goes_ Tryd.func47 (by kernel_rfl) rfl #[.agg #[.slice A0_0 l0_0.length c0_0, .slice A0_1 l0_1.length c0_1, .slice A0_2 l0_2.length c0_2, .slice A0_3 l0_3.length c0_3, .slice A0_4 l0_4.length c0_4]] (by rfl) rfl rfl (by (try simp only [List.map_toArray, List.map_cons, List.map_nil]); first | done | rfl | (simp only [List.length_drop, List.length_take]; rfl)) ?_
 with_reducible refine (netlist_First.calls _ _ l0_0 _ _ l0_1 _ _ l0_2 _ _ l0_3 _ _ l0_4 t103 _ ?side1 ?side2 ?side3 ?side4 ?side5 ?side6 ?side7 ?side8 ?side9 ?side10 A2.out).mono ?_
 (case side1 => exact kc (Kd.C_below HR0_0.out HB.out))
 (case side2 => exact HC0_0.out)
 (case side3 => exact kc (Kd.C_below HR0_1.out HB.out))
 (case side4 => exact HC0_1.out)
 (case side5 => exact kc (Kd.C_below HR0_2.out HB.out))
 (case side6 => exact HC0_2.out)
 (case side7 => exact kc (Kd.C_below HR0_3.out HB.out))
 (case side8 => exact HC0_3.out)
 (case side9 => exact kc (Kd.C_below HR0_4.out HB.out))
 (case side10 => exact HC0_4.out)
 rintro e w5 ⟨rfl, hb⟩
 refine ⟨_, rfl, ?_⟩
 have n0_ := Aside0.mk (bb BK102.out hb)
 have n1_ := Aside0.mk (below_step bl hb)
 clear BK102
 clear HB
 have BK102 := n0_
 have HB := n1_
 clear n0_ n1_
 (try clear hb)
 (try clear hb2)
 (try clear hk)
 (try clear hi)
 refine hK.out _ _ ⟨(blk_cell BK102.out 0).trans rfl, (blk_cell BK102.out 1).trans rfl, (blk_cell BK102.out 2).trans rfl, (blk_cell BK102.out 3).trans rfl, (blk_cell BK102.out 4).trans rfl⟩ (fun hHeld => ?_)
 clear hK K
 refine norm_ (a' := ?_) ?_ ?_
 rotate_left
 · show Act.put _ (some 4) _ = _
   simp only [Act.put, List.setIfInBounds_toArray, List.set_cons_zero, List.set_cons_succ, i64_w, i32_w]
   rfl
 refine pure_ (i := 5) (N := some 8) (v := ?_) (a' := ?_) #[true, true, true, true, true, true, false] rfl rfl (by kernel_rfl) (fun _ _ _ h => h) (Or.inl ⟨by rfl, ?_⟩) ?_ ?_
 rotate_left
 · intro w'
   go_simp
   with_reducible rfl
 rotate_left
 · simp only [Act.put, List.setIfInBounds_toArray, List.set_cons_zero, List.set_cons_succ, i64_w, i32_w]
   rfl
 refine pure_ (i := 6) (N := some 2) (v := ?_) (a' := ?_) #[true, true, true, true, true, true, true] rfl rfl (by kernel_rfl) (fun _ _ _ h => h) (Or.inl ⟨by rfl, ?_⟩) ?_ ?_
 rotate_left
 · intro w'
   go_simp
   with_reducible rfl
 rotate_left
 · simp only [Act.put, List.setIfInBounds_toArray, List.set_cons_zero, List.set_cons_succ, i64_w, i32_w]
   rfl
 refine done_ (by kernel_rfl) ?_
 try go_wp2
 go_ret
 exact ⟨by first | rfl | (simp [errW_none, errW_some] <;> rfl) | (simp [*, errW_none, errW_some] <;> rfl), bl⟩

end Go.Proofs.YtpkpmdmmnhmnlaaDoor.PT
namespace Go.Proofs.YtpkpmdmmnhmnlaaDoor.PT
open Go.RowKit Go.Proofs.YtpkpmdmmnhmnlaaDoorW.PrintWords Go.Proofs.YtpkpmdmmnhmnlaaDoorW.PrintLast Go.Proofs.YtpkpmdmmnhmnlaaDoorW.PrintMore
attribute [local go_sem] max2_int min2_int max_two min_two max_three min_three max_four min_four   -- for this text's walks alone
set_option linter.unusedVariables false
set_option linter.unusedSimpArgs false

/-! ### netlist_ends: function 61 -/
mutual
def netlist_ends.l0 : Nat → Int → List (S44) → Int → Int → List ByteArray → List ByteArray → List (S44) → List (S51) → List Int → Option (Int)
 | 0, _, _, _, _, _, _, _, _, _ => none
 | k + 1, x3, x11, x12, x13, x105000, x105001, x105002, x105003, x105004 => if x13 < x12 then (if 0 ≤ x13 then (if x13 < (x11.length : Int) then (if ((rd_T44 x11 x13).f2) < 0 then (some 2) else (if ((rd_T44 x11 x13).f2) ≥ x3 then (some 2) else (if ((rd_T44 x11 x13).f3) < 0 then (some 2) else (if ((rd_T44 x11 x13).f3) ≥ x3 then (some 2) else (netlist_ends.l0 k x3 x11 x12 (wrap64 (x13 + 1)) x105000 x105001 x105002 x105003 x105004))))) else (none)) else (none)) else (netlist_ends.l1 k x3 x105004 (x105004.length : Int) 0)
def netlist_ends.l1 : Nat → Int → List Int → Int → Int → Option (Int)
 | 0, _, _, _, _ => none
 | k + 1, x3, x39, x40, x41 => if x41 < x40 then (if 0 ≤ x41 then (if x41 < (x39.length : Int) then (if (rd x39 x41) < 0 then (some 2) else (if (rd x39 x41) ≥ x3 then (some 2) else (netlist_ends.l1 k x3 x39 x40 (wrap64 (x41 + 1))))) else (none)) else (none)) else (some 0)
end
def netlist_ends.f (k : Nat) (l0_0 : List ByteArray) (l0_1 : List ByteArray) (l0_2 : List (S44)) (l0_3 : List (S51)) (l0_4 : List Int) : Option (Int) := (netlist_Nets.f l0_0 l0_1 l0_2 l0_3 l0_4).bind fun t105 => (netlist_ends.l0 k t105 l0_2 (l0_2.length : Int) 0 l0_0 l0_1 l0_2 l0_3 l0_4)
theorem netlist_ends.mono_l : ∀ k, (∀ y0 y1 y2 y3 y4 y5 y6 y7 y8, LeO (netlist_ends.l0 k y0 y1 y2 y3 y4 y5 y6 y7 y8) (netlist_ends.l0 (k + 1) y0 y1 y2 y3 y4 y5 y6 y7 y8)) ∧ (∀ y0 y1 y2 y3, LeO (netlist_ends.l1 k y0 y1 y2 y3) (netlist_ends.l1 (k + 1) y0 y1 y2 y3))
 | 0 => ⟨fun _ _ _ _ _ _ _ _ _ r h => by simp [netlist_ends.l0] at h, fun _ _ _ _ r h => by simp [netlist_ends.l1] at h⟩
 | k + 1 => by
  obtain ⟨ih0, ih1⟩ := netlist_ends.mono_l k
  refine ⟨?_, ?_⟩
  · intro y0 y1 y2 y3 y4 y5 y6 y7 y8
    unfold netlist_ends.l0
    repeat' first
    | (with_reducible exact ih0 _ _ _ _ _ _ _ _ _)
    | (with_reducible exact ih1 _ _ _ _)
    | (with_reducible exact LeO.refl _)
    | (with_reducible exact LeO.none _)
    | (with_reducible refine LeO.ite ?_ ?_)
    | (with_reducible refine LeO.bind ?_ (fun _ => ?_))
  · intro y0 y1 y2 y3
    unfold netlist_ends.l1
    repeat' first
    | (with_reducible exact ih1 _ _ _ _)
    | (with_reducible exact LeO.refl _)
    | (with_reducible exact LeO.none _)
    | (with_reducible refine LeO.ite ?_ ?_)
    | (with_reducible refine LeO.bind ?_ (fun _ => ?_))
theorem netlist_ends.mono : ∀ a0 a1 a2 a3 a4 k, LeO (netlist_ends.f k a0 a1 a2 a3 a4) (netlist_ends.f (k + 1) a0 a1 a2 a3 a4) := by
 intro a0 a1 a2 a3 a4 k
 obtain ⟨ih0, ih1⟩ := netlist_ends.mono_l k
 unfold netlist_ends.f
 repeat' first
  | (with_reducible exact ih0 _ _ _ _ _ _ _ _ _)
  | (with_reducible exact LeO.refl _)
  | (with_reducible exact LeO.none _)
  | (with_reducible refine LeO.ite ?_ ?_)
  | (with_reducible refine LeO.bind ?_ (fun _ => ?_))
set_option maxHeartbeats 8000000 in
set_option maxRecDepth 100000 in
theorem netlist_ends.calls (k : Nat) (A0_0 : Option Addr) (c0_0 : Nat) (l0_0 : List ByteArray) (A0_1 : Option Addr) (c0_1 : Nat) (l0_1 : List ByteArray) (A0_2 : Option Addr) (c0_2 : Nat) (l0_2 : List (S44)) (A0_3 : Option Addr) (c0_3 : Nat) (l0_3 : List (S51)) (A0_4 : Option Addr) (c0_4 : Nat) (l0_4 : List Int) (r : Int) (w : World) (hr0_0 : Kd.C Kd.string w A0_0 l0_0.length l0_0) (hc0_0 : l0_0.length ≤ c0_0) (hr0_1 : Kd.C Kd.string w A0_1 l0_1.length l0_1) (hc0_1 : l0_1.length ≤ c0_1) (hr0_2 : Kd.C k44 w A0_2 l0_2.length l0_2) (hc0_2 : l0_2.length ≤ c0_2) (hr0_3 : Kd.C k51 w A0_3 l0_3.length l0_3) (hc0_3 : l0_3.length ≤ c0_3) (hr0_4 : Kd.C (Kd.int .i64) w A0_4 l0_4.length l0_4) (hc0_4 : l0_4.length ≤ c0_4) (h : netlist_ends.f k l0_0 l0_1 l0_2 l0_3 l0_4 = some r) :
 Calls Tryd.prog 61 #[.agg #[.slice A0_0 l0_0.length c0_0, .slice A0_1 l0_1.length c0_1, .slice A0_2 l0_2.length c0_2, .slice A0_3 l0_3.length c0_3, .slice A0_4 l0_4.length c0_4]] w fun e w' => e = .returned (.int .i64 r) ∧ Below w.heap.size w w' := by
 have HR0_0 := Aside0.mk hr0_0
 have HC0_0 := Aside0.mk hc0_0
 clear hr0_0 hc0_0
 have HR0_1 := Aside0.mk hr0_1
 have HC0_1 := Aside0.mk hc0_1
 clear hr0_1 hc0_1
 have HR0_2 := Aside0.mk hr0_2
 have HC0_2 := Aside0.mk hc0_2
 clear hr0_2 hc0_2
 have HR0_3 := Aside0.mk hr0_3
 have HC0_3 := Aside0.mk hc0_3
 clear hr0_3 hc0_3
 have HR0_4 := Aside0.mk hr0_4
 have HC0_4 := Aside0.mk hc0_4
 clear hr0_4 hc0_4
 have HB := Aside0.mk (Below.refl w.heap.size w)
 have H : ((netlist_Nets.f l0_0 l0_1 l0_2 l0_3 l0_4).bind fun t105 => (netlist_ends.l0 k t105 l0_2 (l0_2.length : Int) 0 l0_0 l0_1 l0_2 l0_3 l0_4)) = some r := h
 clear h
 replace H := Option.bind_eq_some_iff.mp H
 obtain ⟨t105, A20, H⟩ := H
 replace H : (netlist_ends.l0 k t105 l0_2 (l0_2.length : Int) 0 l0_0 l0_1 l0_2 l0_3 l0_4) = some r := H
 have A2 := Aside0.mk A20
 clear A20
 have H' := Aside0.mk H
 clear H
 go_enter Tryd.func61, Tryd.ntmps61
 go_wp2_with (first | ((with_reducible refine gate_dst (N := 1) rfl ?_); refine box_event ?hg (N := 1) ?hd (cs := #[.slice A0_0 l0_0.length c0_0, .slice A0_1 l0_1.length c0_1, .slice A0_2 l0_2.length c0_2, .slice A0_3 l0_3.length c0_3, .slice A0_4 l0_4.length c0_4]) (t := 27) ?hr ?_; (case hd => rfl); (case hg => rfl); (case hr => first | (go_simp; done) | (go_simp; rfl)); intro gb104 hg w3 hbox hb; have BK104 := Aside0.mk (hbox); replace HB := Aside0.mk (below_step bl hb); clear hb hbox hg; obtain ⟨hcz4_0, hcz4_1, hcz4_2, hcz4_3, hcz4_4, hfz4_0, hfz4_1, hfz4_2, hfz4_3, hfz4_4⟩ := bz5 BK104.out) | ((with_reducible refine gate_callee (f := 45) rfl ?_); refine goesL_ (some 9) rfl rfl Tryd.func45 (by kernel_rfl) rfl #[.agg #[.slice A0_0 l0_0.length c0_0, .slice A0_1 l0_1.length c0_1, .slice A0_2 l0_2.length c0_2, .slice A0_3 l0_3.length c0_3, .slice A0_4 l0_4.length c0_4]] rfl (by (try simp only [List.map_toArray, List.map_cons, List.map_nil]); first | done | rfl | (simp only [List.length_drop, List.length_take]; rfl)) ?_; (with_reducible refine (netlist_Nets.calls _ _ l0_0 _ _ l0_1 _ _ l0_2 _ _ l0_3 _ _ l0_4 t105 _ ?side1 ?side2 ?side3 ?side4 ?side5 ?side6 ?side7 ?side8 ?side9 ?side10 A2.out).mono ?_); (case side1 => exact kc (Kd.C_below HR0_0.out HB.out)); (case side2 => exact HC0_0.out); (case side3 => exact kc (Kd.C_below HR0_1.out HB.out)); (case side4 => exact HC0_1.out); (case side5 => exact kc (Kd.C_below HR0_2.out HB.out)); (case side6 => exact HC0_2.out); (case side7 => exact kc (Kd.C_below HR0_3.out HB.out)); (case side8 => exact HC0_3.out); (case side9 => exact kc (Kd.C_below HR0_4.out HB.out)); (case side10 => exact HC0_4.out); rintro e w5 ⟨rfl, hb⟩; refine ⟨_, rfl, ?_⟩; replace BK104 := Aside0.mk (bb BK104.out hb); replace HB := Aside0.mk (below_step bl hb); (try clear hb); obtain ⟨hcz6_0, hcz6_1, hcz6_2, hcz6_3, hcz6_4, hfz6_0, hfz6_1, hfz6_2, hfz6_3, hfz6_4⟩ := bz5 BK104.out))
 go_loopg [13] k (fun kq v13 w' => ∃ (x13_1 : Int), v13 = .int .i64 x13_1 ∧ Aside0 (netlist_ends.l0 kq t105 l0_2 (l0_2.length : Int) x13_1 l0_0 l0_1 l0_2 l0_3 l0_4 = some r) ∧ Aside0 (kq ≤ k) ∧ Aside0 (w'.heap[gb104]? = some (.cells #[(.slice A0_0 l0_0.length c0_0), (.slice A0_1 l0_1.length c0_1), (.slice A0_2 l0_2.length c0_2), (.slice A0_3 l0_3.length c0_3), (.slice A0_4 l0_4.length c0_4)] 27 (0, 0))) ∧ Aside0 (Below w.heap.size w w'))
 case atStart => exact ⟨(0), (by first | rfl | (simp; done) | (simp [*]; done)), H', ⟨Nat.le_refl _⟩, ⟨bk BK104.out⟩, ⟨bl⟩⟩
 clear H'
 clear hcz4_0 hcz4_1 hcz4_2 hcz4_3 hcz4_4 hcz6_0 hcz6_1 hcz6_2 hcz6_3 hcz6_4 hfz4_0 hfz4_1 hfz4_2 hfz4_3 hfz4_4 hfz6_0 hfz6_1 hfz6_2 hfz6_3 hfz6_4
 obtain ⟨x13_1, rfl, HA, HK1, BK104, HB⟩ := hrel
 cases gk with
 | zero => exact absurd HA.out (by simp [netlist_ends.l0])
 | succ k1 =>
  have H := HA.out
  clear HA
  simp only [netlist_ends.l0] at H
  by_cases c7 : x13_1 < (l0_2.length : Int)
  rotate_left
  · rw [if_neg c7] at H
    have c7b0 : decide (x13_1 < (l0_2.length : Int)) = false := decide_eq_false c7
    clear c7
    have H' := Aside0.mk H
    clear H
    obtain ⟨hcz29_0, hcz29_1, hcz29_2, hcz29_3, hcz29_4, hfz29_0, hfz29_1, hfz29_2, hfz29_3, hfz29_4⟩ := bz5 BK104.out
    go_wp2
    go_loopg [41] k1 (fun kq v41 w' => ∃ (x41_2 : Int), v41 = .int .i64 x41_2 ∧ Aside0 (netlist_ends.l1 kq t105 l0_4 (l0_4.length : Int) x41_2 = some r) ∧ Aside0 (kq ≤ k1) ∧ Aside0 (w'.heap[gb104]? = some (.cells #[(.slice A0_0 l0_0.length c0_0), (.slice A0_1 l0_1.length c0_1), (.slice A0_2 l0_2.length c0_2), (.slice A0_3 l0_3.length c0_3), (.slice A0_4 l0_4.length c0_4)] 27 (0, 0))) ∧ Aside0 (Below w.heap.size w w'))
    case atStart => exact ⟨(0), (by first | rfl | (simp; done) | (simp [*]; done)), H', ⟨Nat.le_refl _⟩, ⟨bk BK104.out⟩, ⟨bl⟩⟩
    clear H'
    clear c7b0 hcz29_0 hcz29_1 hcz29_2 hcz29_3 hcz29_4 hfz29_0 hfz29_1 hfz29_2 hfz29_3 hfz29_4
    obtain ⟨x41_2, rfl, HA, HK2, BK104, HB⟩ := hrel
    cases gk with
    | zero => exact absurd HA.out (by simp [netlist_ends.l1])
    | succ k2 =>
     have H := HA.out
     clear HA
     simp only [netlist_ends.l1] at H
     by_cases c30 : x41_2 < (l0_4.length : Int)
     rotate_left
     · rw [if_neg c30] at H
       have c30b0 : decide (x41_2 < (l0_4.length : Int)) = false := decide_eq_false c30
       clear c30
       obtain rfl := Option.some.inj H
       go_wp2
       go_ret
       exact ⟨by first | rfl | (simp [errW_none, errW_some] <;> rfl) | (simp [*, errW_none, errW_some] <;> rfl), bl⟩
     rw [if_pos c30] at H
     have c30b0 : decide (x41_2 < (l0_4.length : Int)) = true := decide_eq_true c30
     clear c30
     by_cases c31 : 0 ≤ x41_2
     rotate_left
     · rw [if_neg c31] at H
       exact absurd H (by simp)
     rw [if_pos c31] at H
     have c31b0 : decide (0 ≤ x41_2) = true := decide_eq_true c31
     clear c31
     by_cases c32 : x41_2 < (l0_4.length : Int)
     rotate_left
     · rw [if_neg c32] at H
       exact absurd H (by simp)
     rw [if_pos c32] at H
     have c32b0 : decide (x41_2 < (l0_4.length : Int)) = true := decide_eq_true c32
     clear c32
     by_cases c33 : (rd l0_4 x41_2) < 0
     · rw [if_pos c33] at H
       have c33b0 : decide ((rd l0_4 x41_2) < 0) = true := decide_eq_true c33
       clear c33
       obtain rfl := Option.some.inj H
       have p108 : 0 ≤ (x41_2 : Int) := of_decide_eq_true (by first | (with_reducible assumption) | assumption)
       have q108 : x41_2 < (l0_4.length : Int) := of_decide_eq_true (by first | (with_reducible assumption) | assumption)
       obtain ⟨ad108, e108, hx108_0⟩ := Kd.at_int HR0_4.out x41_2 p108 q108
       cases e108
       replace hx108_0 := hc HB.out hx108_0
       replace p108 := eq_true p108
       replace q108 := eq_true q108
       go_wp2
       go_ret
       exact ⟨by first | rfl | (simp [errW_none, errW_some] <;> rfl) | (simp [*, errW_none, errW_some] <;> rfl), bl⟩
     rw [if_neg c33] at H
     have c33b0 : decide ((rd l0_4 x41_2) < 0) = false := decide_eq_false c33
     clear c33
     by_cases c34 : (rd l0_4 x41_2) ≥ t105
     · rw [if_pos c34] at H
       have c34b0 : decide (t105 ≤ (rd l0_4 x41_2)) = true := decide_eq_true c34
       clear c34
       obtain rfl := Option.some.inj H
       have p108 : 0 ≤ (x41_2 : Int) := of_decide_eq_true (by first | (with_reducible assumption) | assumption)
       have q108 : x41_2 < (l0_4.length : Int) := of_decide_eq_true (by first | (with_reducible assumption) | assumption)
       obtain ⟨ad108, e108, hx108_0⟩ := Kd.at_int HR0_4.out x41_2 p108 q108
       cases e108
       replace hx108_0 := hc HB.out hx108_0
       replace p108 := eq_true p108
       replace q108 := eq_true q108
       go_wp2
       go_ret
       exact ⟨by first | rfl | (simp [errW_none, errW_some] <;> rfl) | (simp [*, errW_none, errW_some] <;> rfl), bl⟩
     rw [if_neg c34] at H
     have c34b0 : decide (t105 ≤ (rd l0_4 x41_2)) = false := decide_eq_false c34
     clear c34
     have H' := Aside0.mk H
     clear H
     have p108 : 0 ≤ (x41_2 : Int) := of_decide_eq_true (by first | (with_reducible assumption) | assumption)
     have q108 : x41_2 < (l0_4.length : Int) := of_decide_eq_true (by first | (with_reducible assumption) | assumption)
     obtain ⟨ad108, e108, hx108_0⟩ := Kd.at_int HR0_4.out x41_2 p108 q108
     cases e108
     replace hx108_0 := hc HB.out hx108_0
     replace p108 := eq_true p108
     replace q108 := eq_true q108
     go_wp2
     go_roundg k2
     case measure => have := HK1.out; have := HK2.out; omega
     case rel => exact ⟨(wrap64 (x41_2 + 1)), (by first | rfl | (simp; done) | (simp [*]; done)), H', ⟨by have := HK1.out; have := HK2.out; omega⟩, ⟨bk BK104.out⟩, ⟨bl⟩⟩
  rw [if_pos c7] at H
  have c7b0 : decide (x13_1 < (l0_2.length : Int)) = true := decide_eq_true c7
  clear c7
  by_cases c8 : 0 ≤ x13_1
  rotate_left
  · rw [if_neg c8] at H
    exact absurd H (by simp)
  rw [if_pos c8] at H
  have c8b0 : decide (0 ≤ x13_1) = true := decide_eq_true c8
  clear c8
  by_cases c9 : x13_1 < (l0_2.length : Int)
  rotate_left
  · rw [if_neg c9] at H
    exact absurd H (by simp)
  rw [if_pos c9] at H
  have c9b0 : decide (x13_1 < (l0_2.length : Int)) = true := decide_eq_true c9
  clear c9
  by_cases c10 : ((rd_T44 l0_2 x13_1).f2) < 0
  · rw [if_pos c10] at H
    have c10b0 : decide (((rd_T44 l0_2 x13_1).f2) < 0) = true := decide_eq_true c10
    clear c10
    obtain rfl := Option.some.inj H
    have p106 : 0 ≤ (x13_1 : Int) := of_decide_eq_true (by first | (with_reducible assumption) | assumption)
    have q106 : x13_1 < (l0_2.length : Int) := of_decide_eq_true (by first | (with_reducible assumption) | assumption)
    obtain ⟨ad106, e106, hx106_0, hx106_1, hx106_2, hx106_3, hx106_4⟩ := at_T44 HR0_2.out x13_1 p106 q106
    cases e106
    replace hx106_0 := hc HB.out hx106_0
    replace hx106_1 := hc HB.out hx106_1
    replace hx106_2 := hc HB.out hx106_2
    replace hx106_3 := hc HB.out hx106_3
    replace hx106_4 := hc HB.out hx106_4
    replace p106 := eq_true p106
    replace q106 := eq_true q106
    go_wp2_with ((with_reducible refine gate_dst (N := 5) rfl ?_); refine box_event ?hg (N := 5) ?hd (cs := #[.string (⟨#[]⟩ : ByteArray), .int .i64 0, .int .i64 0, .int .i64 0, .bool false]) (t := 44) ?hr ?_; (case hd => rfl); (case hg => rfl); (case hr => first | (go_simp; done) | (go_simp; rfl)); intro gb107 hg w11 hbox hb; have BK107 := Aside0.mk (hbox); have GE107 := Aside0.mk (ge (w := w) hg); replace HB := Aside0.mk (below_step bl hb); have NB104_107 := Aside0.mk (nl hg (bk BK104.out)); have NB107_104 := Aside0.mk (ng hg (bk BK104.out)); replace BK104 := Aside0.mk (bb BK104.out hb); clear hb hbox hg; obtain ⟨hcz13_0, hcz13_1, hcz13_2, hcz13_3, hcz13_4, hfz13_0, hfz13_1, hfz13_2, hfz13_3, hfz13_4⟩ := bz5 BK107.out)
    go_ret
    exact ⟨by first | rfl | (simp [errW_none, errW_some] <;> rfl) | (simp [*, errW_none, errW_some] <;> rfl), bl⟩
  rw [if_neg c10] at H
  have c10b0 : decide (((rd_T44 l0_2 x13_1).f2) < 0) = false := decide_eq_false c10
  clear c10
  by_cases c14 : ((rd_T44 l0_2 x13_1).f2) ≥ t105
  · rw [if_pos c14] at H
    have c14b0 : decide (t105 ≤ ((rd_T44 l0_2 x13_1).f2)) = true := decide_eq_true c14
    clear c14
    obtain rfl := Option.some.inj H
    have p106 : 0 ≤ (x13_1 : Int) := of_decide_eq_true (by first | (with_reducible assumption) | assumption)
    have q106 : x13_1 < (l0_2.length : Int) := of_decide_eq_true (by first | (with_reducible assumption) | assumption)
    obtain ⟨ad106, e106, hx106_0, hx106_1, hx106_2, hx106_3, hx106_4⟩ := at_T44 HR0_2.out x13_1 p106 q106
    cases e106
    replace hx106_0 := hc HB.out hx106_0
    replace hx106_1 := hc HB.out hx106_1
    replace hx106_2 := hc HB.out hx106_2
    replace hx106_3 := hc HB.out hx106_3
    replace hx106_4 := hc HB.out hx106_4
    replace p106 := eq_true p106
    replace q106 := eq_true q106
    go_wp2_with ((with_reducible refine gate_dst (N := 5) rfl ?_); refine box_event ?hg (N := 5) ?hd (cs := #[.string (⟨#[]⟩ : ByteArray), .int .i64 0, .int .i64 0, .int .i64 0, .bool false]) (t := 44) ?hr ?_; (case hd => rfl); (case hg => rfl); (case hr => first | (go_simp; done) | (go_simp; rfl)); intro gb107 hg w15 hbox hb; have BK107 := Aside0.mk (hbox); have GE107 := Aside0.mk (ge (w := w) hg); replace HB := Aside0.mk (below_step bl hb); have NB104_107 := Aside0.mk (nl hg (bk BK104.out)); have NB107_104 := Aside0.mk (ng hg (bk BK104.out)); replace BK104 := Aside0.mk (bb BK104.out hb); clear hb hbox hg; obtain ⟨hcz17_0, hcz17_1, hcz17_2, hcz17_3, hcz17_4, hfz17_0, hfz17_1, hfz17_2, hfz17_3, hfz17_4⟩ := bz5 BK107.out)
    go_ret
    exact ⟨by first | rfl | (simp [errW_none, errW_some] <;> rfl) | (simp [*, errW_none, errW_some] <;> rfl), bl⟩
  rw [if_neg c14] at H
  have c14b0 : decide (t105 ≤ ((rd_T44 l0_2 x13_1).f2)) = false := decide_eq_false c14
  clear c14
  by_cases c18 : ((rd_T44 l0_2 x13_1).f3) < 0
  · rw [if_pos c18] at H
    have c18b0 : decide (((rd_T44 l0_2 x13_1).f3) < 0) = true := decide_eq_true c18
    clear c18
    obtain rfl := Option.some.inj H
    have p106 : 0 ≤ (x13_1 : Int) := of_decide_eq_true (by first | (with_reducible assumption) | assumption)
    have q106 : x13_1 < (l0_2.length : Int) := of_decide_eq_true (by first | (with_reducible assumption) | assumption)
    obtain ⟨ad106, e106, hx106_0, hx106_1, hx106_2, hx106_3, hx106_4⟩ := at_T44 HR0_2.out x13_1 p106 q106
    cases e106
    replace hx106_0 := hc HB.out hx106_0
    replace hx106_1 := hc HB.out hx106_1
    replace hx106_2 := hc HB.out hx106_2
    replace hx106_3 := hc HB.out hx106_3
    replace hx106_4 := hc HB.out hx106_4
    replace p106 := eq_true p106
    replace q106 := eq_true q106
    go_wp2_with ((with_reducible refine gate_dst (N := 5) rfl ?_); refine box_event ?hg (N := 5) ?hd (cs := #[.string (⟨#[]⟩ : ByteArray), .int .i64 0, .int .i64 0, .int .i64 0, .bool false]) (t := 44) ?hr ?_; (case hd => rfl); (case hg => rfl); (case hr => first | (go_simp; done) | (go_simp; rfl)); intro gb107 hg w19 hbox hb; have BK107 := Aside0.mk (hbox); have GE107 := Aside0.mk (ge (w := w) hg); replace HB := Aside0.mk (below_step bl hb); have NB104_107 := Aside0.mk (nl hg (bk BK104.out)); have NB107_104 := Aside0.mk (ng hg (bk BK104.out)); replace BK104 := Aside0.mk (bb BK104.out hb); clear hb hbox hg; obtain ⟨hcz21_0, hcz21_1, hcz21_2, hcz21_3, hcz21_4, hfz21_0, hfz21_1, hfz21_2, hfz21_3, hfz21_4⟩ := bz5 BK107.out)
    go_ret
    exact ⟨by first | rfl | (simp [errW_none, errW_some] <;> rfl) | (simp [*, errW_none, errW_some] <;> rfl), bl⟩
  rw [if_neg c18] at H
  have c18b0 : decide (((rd_T44 l0_2 x13_1).f3) < 0) = false := decide_eq_false c18
  clear c18
  by_cases c22 : ((rd_T44 l0_2 x13_1).f3) ≥ t105
  · rw [if_pos c22] at H
    have c22b0 : decide (t105 ≤ ((rd_T44 l0_2 x13_1).f3)) = true := decide_eq_true c22
    clear c22
    obtain rfl := Option.some.inj H
    have p106 : 0 ≤ (x13_1 : Int) := of_decide_eq_true (by first | (with_reducible assumption) | assumption)
    have q106 : x13_1 < (l0_2.length : Int) := of_decide_eq_true (by first | (with_reducible assumption) | assumption)
    obtain ⟨ad106, e106, hx106_0, hx106_1, hx106_2, hx106_3, hx106_4⟩ := at_T44 HR0_2.out x13_1 p106 q106
    cases e106
    replace hx106_0 := hc HB.out hx106_0
    replace hx106_1 := hc HB.out hx106_1
    replace hx106_2 := hc HB.out hx106_2
    replace hx106_3 := hc HB.out hx106_3
    replace hx106_4 := hc HB.out hx106_4
    replace p106 := eq_true p106
    replace q106 := eq_true q106
    go_wp2_with ((with_reducible refine gate_dst (N := 5) rfl ?_); refine box_event ?hg (N := 5) ?hd (cs := #[.string (⟨#[]⟩ : ByteArray), .int .i64 0, .int .i64 0, .int .i64 0, .bool false]) (t := 44) ?hr ?_; (case hd => rfl); (case hg => rfl); (case hr => first | (go_simp; done) | (go_simp; rfl)); intro gb107 hg w23 hbox hb; have BK107 := Aside0.mk (hbox); have GE107 := Aside0.mk (ge (w := w) hg); replace HB := Aside0.mk (below_step bl hb); have NB104_107 := Aside0.mk (nl hg (bk BK104.out)); have NB107_104 := Aside0.mk (ng hg (bk BK104.out)); replace BK104 := Aside0.mk (bb BK104.out hb); clear hb hbox hg; obtain ⟨hcz25_0, hcz25_1, hcz25_2, hcz25_3, hcz25_4, hfz25_0, hfz25_1, hfz25_2, hfz25_3, hfz25_4⟩ := bz5 BK107.out)
    go_ret
    exact ⟨by first | rfl | (simp [errW_none, errW_some] <;> rfl) | (simp [*, errW_none, errW_some] <;> rfl), bl⟩
  rw [if_neg c22] at H
  have c22b0 : decide (t105 ≤ ((rd_T44 l0_2 x13_1).f3)) = false := decide_eq_false c22
  clear c22
  have H' := Aside0.mk H
  clear H
  have p106 : 0 ≤ (x13_1 : Int) := of_decide_eq_true (by first | (with_reducible assumption) | assumption)
  have q106 : x13_1 < (l0_2.length : Int) := of_decide_eq_true (by first | (with_reducible assumption) | assumption)
  obtain ⟨ad106, e106, hx106_0, hx106_1, hx106_2, hx106_3, hx106_4⟩ := at_T44 HR0_2.out x13_1 p106 q106
  cases e106
  replace hx106_0 := hc HB.out hx106_0
  replace hx106_1 := hc HB.out hx106_1
  replace hx106_2 := hc HB.out hx106_2
  replace hx106_3 := hc HB.out hx106_3
  replace hx106_4 := hc HB.out hx106_4
  replace p106 := eq_true p106
  replace q106 := eq_true q106
  go_wp2_with ((with_reducible refine gate_dst (N := 5) rfl ?_); refine box_event ?hg (N := 5) ?hd (cs := #[.string (⟨#[]⟩ : ByteArray), .int .i64 0, .int .i64 0, .int .i64 0, .bool false]) (t := 44) ?hr ?_; (case hd => rfl); (case hg => rfl); (case hr => first | (go_simp; done) | (go_simp; rfl)); intro gb107 hg w26 hbox hb; have BK107 := Aside0.mk (hbox); have GE107 := Aside0.mk (ge (w := w) hg); replace HB := Aside0.mk (below_step bl hb); have NB104_107 := Aside0.mk (nl hg (bk BK104.out)); have NB107_104 := Aside0.mk (ng hg (bk BK104.out)); replace BK104 := Aside0.mk (bb BK104.out hb); clear hb hbox hg; obtain ⟨hcz28_0, hcz28_1, hcz28_2, hcz28_3, hcz28_4, hfz28_0, hfz28_1, hfz28_2, hfz28_3, hfz28_4⟩ := bz5 BK107.out)
  go_roundg k1
  case measure => have := HK1.out; omega
  case rel => exact ⟨(wrap64 (x13_1 + 1)), (by first | rfl | (simp; done) | (simp [*]; done)), H', ⟨by have := HK1.out; omega⟩, ⟨bf BK104.out⟩, ⟨bl⟩⟩

end Go.Proofs.YtpkpmdmmnhmnlaaDoor.PT
namespace Go.Proofs.YtpkpmdmmnhmnlaaDoor.PT
open Go.RowKit Go.Proofs.YtpkpmdmmnhmnlaaDoorW.PrintWords Go.Proofs.YtpkpmdmmnhmnlaaDoorW.PrintLast Go.Proofs.YtpkpmdmmnhmnlaaDoorW.PrintMore
attribute [local go_sem] max2_int min2_int max_two min_two max_three min_three max_four min_four   -- for this text's walks alone
set_option linter.unusedVariables false
set_option linter.unusedSimpArgs false

/-! ### netlist_Form: function 40 -/
mutual
def netlist_Form.j0 : Nat → Bool → List ByteArray → List ByteArray → List (S44) → List (S51) → List Int → Option (Int)
 | 0, _, _, _, _, _, _ => none
 | k + 1, x34, x110000, x110001, x110002, x110003, x110004 => if x34 = true then (some 3) else (if (x110001.length : Int) = (x110004.length : Int) then ((slices_Clone_string_string.f x110000).bind fun t110 => (netlist_Form.l0 k t110 x110002 (x110002.length : Int) 0 x110000 x110001 x110002 x110003 x110004)) else (some 4))
def netlist_Form.l0 : Nat → List ByteArray → List (S44) → Int → Int → List ByteArray → List ByteArray → List (S44) → List (S51) → List Int → Option (Int)
 | 0, _, _, _, _, _, _, _, _, _ => none
 | k + 1, x3, x46, x47, x48, x110000, x110001, x110002, x110003, x110004 => if x48 < x47 then (if 0 ≤ x48 then (if x48 < (x46.length : Int) then (if x3.length < 8796093022208 then (netlist_Form.l0 k (x3 ++ [(rd_T44 x46 x48).f0]) x46 x47 (wrap64 (x48 + 1)) x110000 x110001 x110002 x110003 x110004) else (none)) else (none)) else (none)) else ((graph_Names.f k x3).bind fun t118 => (if t118 = 0 then ((graph_Names.f k x110001).bind fun t119 => (if t119 = 0 then ((netlist_First.f x110000 x110001 x110002 x110003 x110004).bind fun t120 => (netlist_Form.l1 k t120 x110003 (x110003.length : Int) 0 x110000 x110001 x110002 x110003 x110004)) else (some t119))) else (some t118)))
def netlist_Form.l1 : Nat → Int → List (S51) → Int → Int → List ByteArray → List ByteArray → List (S44) → List (S51) → List Int → Option (Int)
 | 0, _, _, _, _, _, _, _, _, _ => none
 | k + 1, x8, x72, x73, x74, x110000, x110001, x110002, x110003, x110004 => if x74 < x73 then (if 0 ≤ x74 then (if x74 < (x72.length : Int) then (if (((rd_T51 x72 x74).f2).length : Int) > 6 then (some 3) else ((netlist_Mask.f (((rd_T51 x72 x74).f2).length : Int)).bind fun t124 => (if (Go.bits .andNot .u64 ((rd_T51 x72 x74).f1) t124) = 0 then (netlist_Form.l2 k x8 x74 x72 x73 x74 ((rd_T51 x72 x74).f2) (((rd_T51 x72 x74).f2).length : Int) 0 x110000 x110001 x110002 x110003 x110004) else (some 4)))) else (none)) else (none)) else ((netlist_ends.f k x110000 x110001 x110002 x110003 x110004).bind fun t121 => (some t121))
def netlist_Form.l2 : Nat → Int → Int → List (S51) → Int → Int → List Int → Int → Int → List ByteArray → List ByteArray → List (S44) → List (S51) → List Int → Option (Int)
 | 0, _, _, _, _, _, _, _, _, _, _, _, _, _ => none
 | k + 1, x8, x9, x72, x73, x74, x92, x93, x94, x110000, x110001, x110002, x110003, x110004 => if x94 < x93 then (if 0 ≤ x94 then (if x94 < (x92.length : Int) then (if (rd x92 x94) < 0 then (some 2) else (if (rd x92 x94) ≥ (wrap64 (x8 + x9)) then (some 2) else (netlist_Form.l2 k x8 x9 x72 x73 x74 x92 x93 (wrap64 (x94 + 1)) x110000 x110001 x110002 x110003 x110004))) else (none)) else (none)) else (netlist_Form.l1 k x8 x72 x73 (wrap64 (x74 + 1)) x110000 x110001 x110002 x110003 x110004)
end
def netlist_Form.f (k : Nat) (l0_0 : List ByteArray) (l0_1 : List ByteArray) (l0_2 : List (S44)) (l0_3 : List (S51)) (l0_4 : List Int) : Option (Int) := if (l0_0.length : Int) > 128 then (netlist_Form.j0 k true l0_0 l0_1 l0_2 l0_3 l0_4) else (if (l0_1.length : Int) > 128 then (netlist_Form.j0 k true l0_0 l0_1 l0_2 l0_3 l0_4) else (if (l0_2.length : Int) > 288 then (netlist_Form.j0 k true l0_0 l0_1 l0_2 l0_3 l0_4) else (netlist_Form.j0 k (decide ((l0_3.length : Int) > 1200)) l0_0 l0_1 l0_2 l0_3 l0_4)))
theorem netlist_Form.mono_l : ∀ k, (∀ y0 y1 y2 y3 y4 y5, LeO (netlist_Form.j0 k y0 y1 y2 y3 y4 y5) (netlist_Form.j0 (k + 1) y0 y1 y2 y3 y4 y5)) ∧ (∀ y0 y1 y2 y3 y4 y5 y6 y7 y8, LeO (netlist_Form.l0 k y0 y1 y2 y3 y4 y5 y6 y7 y8) (netlist_Form.l0 (k + 1) y0 y1 y2 y3 y4 y5 y6 y7 y8)) ∧ (∀ y0 y1 y2 y3 y4 y5 y6 y7 y8, LeO (netlist_Form.l1 k y0 y1 y2 y3 y4 y5 y6 y7 y8) (netlist_Form.l1 (k + 1) y0 y1 y2 y3 y4 y5 y6 y7 y8)) ∧ (∀ y0 y1 y2 y3 y4 y5 y6 y7 y8 y9 y10 y11 y12, LeO (netlist_Form.l2 k y0 y1 y2 y3 y4 y5 y6 y7 y8 y9 y10 y11 y12) (netlist_Form.l2 (k + 1) y0 y1 y2 y3 y4 y5 y6 y7 y8 y9 y10 y11 y12))
 | 0 => ⟨fun _ _ _ _ _ _ r h => by simp [netlist_Form.j0] at h, fun _ _ _ _ _ _ _ _ _ r h => by simp [netlist_Form.l0] at h, fun _ _ _ _ _ _ _ _ _ r h => by simp [netlist_Form.l1] at h, fun _ _ _ _ _ _ _ _ _ _ _ _ _ r h => by simp [netlist_Form.l2] at h⟩
 | k + 1 => by
  obtain ⟨ih0, ih1, ih2, ih3⟩ := netlist_Form.mono_l k
  refine ⟨?_, ?_, ?_, ?_⟩
  · intro y0 y1 y2 y3 y4 y5
    unfold netlist_Form.j0
    repeat' first
    | (with_reducible exact ih1 _ _ _ _ _ _ _ _ _)
    | (with_reducible exact LeO.refl _)
    | (with_reducible exact LeO.none _)
    | (with_reducible refine LeO.ite ?_ ?_)
    | (with_reducible refine LeO.bind ?_ (fun _ => ?_))
  · intro y0 y1 y2 y3 y4 y5 y6 y7 y8
    unfold netlist_Form.l0
    repeat' first
    | (with_reducible exact ih1 _ _ _ _ _ _ _ _ _)
    | (with_reducible exact ih2 _ _ _ _ _ _ _ _ _)
    | (with_reducible exact graph_Names.mono _ _)
    | (with_reducible exact LeO.refl _)
    | (with_reducible exact LeO.none _)
    | (with_reducible refine LeO.ite ?_ ?_)
    | (with_reducible refine LeO.bind ?_ (fun _ => ?_))
  · intro y0 y1 y2 y3 y4 y5 y6 y7 y8
    unfold netlist_Form.l1
    repeat' first
    | (with_reducible exact ih3 _ _ _ _ _ _ _ _ _ _ _ _ _)
    | (with_reducible exact netlist_ends.mono _ _ _ _ _ _)
    | (with_reducible exact LeO.refl _)
    | (with_reducible exact LeO.none _)
    | (with_reducible refine LeO.ite ?_ ?_)
    | (with_reducible refine LeO.bind ?_ (fun _ => ?_))
  · intro y0 y1 y2 y3 y4 y5 y6 y7 y8 y9 y10 y11 y12
    unfold netlist_Form.l2
    repeat' first
    | (with_reducible exact ih2 _ _ _ _ _ _ _ _ _)
    | (with_reducible exact ih3 _ _ _ _ _ _ _ _ _ _ _ _ _)
    | (with_reducible exact LeO.refl _)
    | (with_reducible exact LeO.none _)
    | (with_reducible refine LeO.ite ?_ ?_)
    | (with_reducible refine LeO.bind ?_ (fun _ => ?_))
theorem netlist_Form.mono : ∀ a0 a1 a2 a3 a4 k, LeO (netlist_Form.f k a0 a1 a2 a3 a4) (netlist_Form.f (k + 1) a0 a1 a2 a3 a4) := by
 intro a0 a1 a2 a3 a4 k
 obtain ⟨ih0, ih1, ih2, ih3⟩ := netlist_Form.mono_l k
 unfold netlist_Form.f
 repeat' first
  | (with_reducible exact ih0 _ _ _ _ _ _)
  | (with_reducible exact LeO.refl _)
  | (with_reducible exact LeO.none _)
  | (with_reducible refine LeO.ite ?_ ?_)
  | (with_reducible refine LeO.bind ?_ (fun _ => ?_))
set_option maxHeartbeats 8000000 in
set_option maxRecDepth 100000 in
theorem netlist_Form.calls (k : Nat) (A0_0 : Option Addr) (c0_0 : Nat) (l0_0 : List ByteArray) (A0_1 : Option Addr) (c0_1 : Nat) (l0_1 : List ByteArray) (A0_2 : Option Addr) (c0_2 : Nat) (l0_2 : List (S44)) (A0_3 : Option Addr) (c0_3 : Nat) (l0_3 : List (S51)) (A0_4 : Option Addr) (c0_4 : Nat) (l0_4 : List Int) (r : Int) (w : World) (hr0_0 : Kd.C Kd.string w A0_0 l0_0.length l0_0) (hc0_0 : l0_0.length ≤ c0_0) (hr0_1 : Kd.C Kd.string w A0_1 l0_1.length l0_1) (hc0_1 : l0_1.length ≤ c0_1) (hr0_2 : Kd.C k44 w A0_2 l0_2.length l0_2) (hc0_2 : l0_2.length ≤ c0_2) (hr0_3 : Kd.C k51 w A0_3 l0_3.length l0_3) (hc0_3 : l0_3.length ≤ c0_3) (hr0_4 : Kd.C (Kd.int .i64) w A0_4 l0_4.length l0_4) (hc0_4 : l0_4.length ≤ c0_4) (h : netlist_Form.f k l0_0 l0_1 l0_2 l0_3 l0_4 = some r) :
 Calls Tryd.prog 40 #[.agg #[.slice A0_0 l0_0.length c0_0, .slice A0_1 l0_1.length c0_1, .slice A0_2 l0_2.length c0_2, .slice A0_3 l0_3.length c0_3, .slice A0_4 l0_4.length c0_4]] w fun e w' => e = .returned (.int .i64 r) ∧ Below w.heap.size w w' := by
 have HR0_0 := Aside0.mk hr0_0
 have HC0_0 := Aside0.mk hc0_0
 clear hr0_0 hc0_0
 have HR0_1 := Aside0.mk hr0_1
 have HC0_1 := Aside0.mk hc0_1
 clear hr0_1 hc0_1
 have HR0_2 := Aside0.mk hr0_2
 have HC0_2 := Aside0.mk hc0_2
 clear hr0_2 hc0_2
 have HR0_3 := Aside0.mk hr0_3
 have HC0_3 := Aside0.mk hc0_3
 clear hr0_3 hc0_3
 have HR0_4 := Aside0.mk hr0_4
 have HC0_4 := Aside0.mk hc0_4
 clear hr0_4 hc0_4
 have HB := Aside0.mk (Below.refl w.heap.size w)
 have H : (if (l0_0.length : Int) > 128 then (netlist_Form.j0 k true l0_0 l0_1 l0_2 l0_3 l0_4) else (if (l0_1.length : Int) > 128 then (netlist_Form.j0 k true l0_0 l0_1 l0_2 l0_3 l0_4) else (if (l0_2.length : Int) > 288 then (netlist_Form.j0 k true l0_0 l0_1 l0_2 l0_3 l0_4) else (netlist_Form.j0 k (decide ((l0_3.length : Int) > 1200)) l0_0 l0_1 l0_2 l0_3 l0_4)))) = some r := h
 clear h
 have HC2 := Aside0.mk H
 clear H
 go_enter Tryd.func40, Tryd.ntmps40
 go_upto_region 1 with (first | ((with_reducible refine gate_dst (N := 1) rfl ?_); (try (refine gate_guard (by rfl) ?_; dsimp only)); refine box_event ?hg (N := 1) ?hd (cs := #[.slice A0_0 l0_0.length c0_0, .slice A0_1 l0_1.length c0_1, .slice A0_2 l0_2.length c0_2, .slice A0_3 l0_3.length c0_3, .slice A0_4 l0_4.length c0_4]) (t := 27) ?hr ?_; (case hd => rfl); (case hg => rfl); (case hr => first | (go_simp; done) | (go_simp; rfl)); intro gb109 hg w3 hbox hb; have BK109 := Aside0.mk (hbox); replace HB := Aside0.mk (below_step bl hb); clear hb hbox hg))
 repeat (go_quiet (fail); go_upto_region 1 with (fail))
 (try simp only [Act.put, List.setIfInBounds_toArray, List.set_cons_zero, List.set_cons_succ])
 go_cut [34] (fun v34 wc => ∃ (kq : Nat) (x34_1 : Bool), v34 = .bool x34_1 ∧ Aside0 (netlist_Form.j0 kq x34_1 l0_0 l0_1 l0_2 l0_3 l0_4 = some r) ∧ Aside0 (kq ≤ k) ∧ Aside0 (wc.heap[gb109]? = some (.cells #[(.slice A0_0 l0_0.length c0_0), (.slice A0_1 l0_1.length c0_1), (.slice A0_2 l0_2.length c0_2), (.slice A0_3 l0_3.length c0_3), (.slice A0_4 l0_4.length c0_4)] 27 (0, 0))) ∧ Aside0 (Below w.heap.size w wc))
 case first =>
  have H := HC2.out
  clear HC2
  by_cases c4 : (l0_0.length : Int) > 128
  · rw [if_pos c4] at H
    have c4b0 : decide (128 < (l0_0.length : Int)) = true := decide_eq_true c4
    clear c4
    (first | rw [c4b0] | (simp only [i64_w, i32_w]; rw [c4b0]) | skip)
    have H' := Aside0.mk H
    clear H
    obtain ⟨hcz5_0, hcz5_1, hcz5_2, hcz5_3, hcz5_4, hfz5_0, hfz5_1, hfz5_2, hfz5_3, hfz5_4⟩ := bz5 BK109.out
    go_wp2
    repeat (go_quiet (fail); try go_wp2)
    go_meet
    case rel => exact ⟨_, (true), (by first | rfl | (simp; done) | (simp [*]; done)), H', ⟨by first | omega | exact Nat.le_refl _⟩, ⟨bk BK109.out⟩, ⟨bl⟩⟩
  rw [if_neg c4] at H
  have c4b0 : decide (128 < (l0_0.length : Int)) = false := decide_eq_false c4
  have c4b1 : decide (128 < l0_0.length) = false := decide_eq_false (by omega)
  clear c4
  (first | rw [c4b0] | (simp only [i64_w, i32_w]; rw [c4b0]) | skip)
  by_cases c6 : (l0_1.length : Int) > 128
  · rw [if_pos c6] at H
    have c6b0 : decide (128 < (l0_1.length : Int)) = true := decide_eq_true c6
    clear c6
    have H' := Aside0.mk H
    clear H
    obtain ⟨hcz7_0, hcz7_1, hcz7_2, hcz7_3, hcz7_4, hfz7_0, hfz7_1, hfz7_2, hfz7_3, hfz7_4⟩ := bz5 BK109.out
    go_wp2
    repeat (go_quiet (fail); try go_wp2)
    go_meet
    case rel => exact ⟨_, (true), (by first | rfl | (simp; done) | (simp [*]; done)), H', ⟨by first | omega | exact Nat.le_refl _⟩, ⟨bk BK109.out⟩, ⟨bl⟩⟩
  rw [if_neg c6] at H
  have c6b0 : decide (128 < (l0_1.length : Int)) = false := decide_eq_false c6
  have c6b1 : decide (128 < l0_1.length) = false := decide_eq_false (by omega)
  clear c6
  by_cases c8 : (l0_2.length : Int) > 288
  · rw [if_pos c8] at H
    have c8b0 : decide (288 < (l0_2.length : Int)) = true := decide_eq_true c8
    clear c8
    have H' := Aside0.mk H
    clear H
    obtain ⟨hcz9_0, hcz9_1, hcz9_2, hcz9_3, hcz9_4, hfz9_0, hfz9_1, hfz9_2, hfz9_3, hfz9_4⟩ := bz5 BK109.out
    go_wp2
    repeat (go_quiet (fail); try go_wp2)
    go_meet
    case rel => exact ⟨_, (true), (by first | rfl | (simp; done) | (simp [*]; done)), H', ⟨by first | omega | exact Nat.le_refl _⟩, ⟨bk BK109.out⟩, ⟨bl⟩⟩
  rw [if_neg c8] at H
  have c8b0 : decide (288 < (l0_2.length : Int)) = false := decide_eq_false c8
  clear c8
  have H' := Aside0.mk H
  clear H
  obtain ⟨hcz10_0, hcz10_1, hcz10_2, hcz10_3, hcz10_4, hfz10_0, hfz10_1, hfz10_2, hfz10_3, hfz10_4⟩ := bz5 BK109.out
  go_wp2
  repeat (go_quiet (fail); try go_wp2)
  go_meet
  case rel => exact ⟨_, (decide ((l0_3.length : Int) > 1200)), (by first | rfl | (simp; done) | (simp [*]; done)), H', ⟨by first | omega | exact Nat.le_refl _⟩, ⟨bk BK109.out⟩, ⟨bl⟩⟩
 clear HC2
 obtain ⟨kq, x34_1, rfl, HA, HJ1, BK109, HB⟩ := hcut
 cases kq with
 | zero => exact absurd HA.out (by simp [netlist_Form.j0])
 | succ kj1 =>
  have H := HA.out
  clear HA
  simp only [netlist_Form.j0] at H
  by_cases c11 : x34_1 = true
  · subst c11
    have H1 : (some 3) = some r := by rw [if_pos rfl] at H; exact H
    clear H
    have H := H1
    clear H1
    obtain rfl := Option.some.inj H
    go_wp2
    repeat (go_quiet (fail); try go_wp2)
    go_ret
    exact ⟨by first | rfl | (simp [errW_none, errW_some] <;> rfl) | (simp [*, errW_none, errW_some] <;> rfl), bl⟩
  replace c11 := Bool.eq_false_iff.mpr c11
  subst c11
  have H1 : (if (l0_1.length : Int) = (l0_4.length : Int) then ((slices_Clone_string_string.f l0_0).bind fun t110 => (netlist_Form.l0 kj1 t110 l0_2 (l0_2.length : Int) 0 l0_0 l0_1 l0_2 l0_3 l0_4)) else (some 4)) = some r := by rw [if_neg (show ¬ (false = true) by decide)] at H; exact H
  clear H
  have H := H1
  clear H1
  by_cases c12 : (l0_1.length : Int) = (l0_4.length : Int)
  rotate_left
  · rw [if_neg c12] at H
    have c12b1 : ((l0_1.length : Int) != (l0_4.length : Int)) = true := bne_iff_ne.mpr c12
    obtain rfl := Option.some.inj H
    obtain ⟨hcz66_0, hcz66_1, hcz66_2, hcz66_3, hcz66_4, hfz66_0, hfz66_1, hfz66_2, hfz66_3, hfz66_4⟩ := bz5 BK109.out
    go_wp2
    repeat (go_quiet (fail); try go_wp2)
    go_ret
    exact ⟨by first | rfl | (simp [errW_none, errW_some] <;> rfl) | (simp [*, errW_none, errW_some] <;> rfl), bl⟩
  rw [if_pos c12] at H
  have c12b0 : ((l0_1.length : Int) == (l0_4.length : Int)) = true := beq_iff_eq.mpr c12
  have c12b1 : ((l0_1.length : Int) != (l0_4.length : Int)) = false := bne_eq_false_iff_eq.mpr c12
  have c12b2 : (l0_1.length == l0_4.length) = true := by first | simpa using c12 | (simp at c12 ⊢; omega)
  clear c12
  replace H := Option.bind_eq_some_iff.mp H
  obtain ⟨t110, A130, H⟩ := H
  replace H : (netlist_Form.l0 kj1 t110 l0_2 (l0_2.length : Int) 0 l0_0 l0_1 l0_2 l0_3 l0_4) = some r := H
  have A13 := Aside0.mk A130
  clear A130
  have H' := Aside0.mk H
  clear H
  obtain ⟨hcz14_0, hcz14_1, hcz14_2, hcz14_3, hcz14_4, hfz14_0, hfz14_1, hfz14_2, hfz14_3, hfz14_4⟩ := bz5 BK109.out
  go_wp2_with (go_at_call 30; (with_reducible refine (slices_Clone_string_string.calls _ _ l0_0 t110 _ ?side1 ?side2 A13.out).mono ?_); (case side1 => exact kc (Kd.C_below HR0_0.out HB.out)); (case side2 => exact HC0_0.out); rintro e w15 ⟨v111, rfl, ho0, hb⟩; have HO112 := Aside0.mk (Kd.R_lower ho0 (below_size bl)); replace BK109 := Aside0.mk (bb BK109.out hb); replace HB := Aside0.mk (below_step bl hb); (try clear hb); (try clear ho0); obtain ⟨hcz16_0, hcz16_1, hcz16_2, hcz16_3, hcz16_4, hfz16_0, hfz16_1, hfz16_2, hfz16_3, hfz16_4⟩ := bz5 BK109.out)
  repeat (go_quiet (fail); try go_wp2_with fail)
  go_loopg [3, 48] kj1 (fun kq v3 v48 w' => ∃ (x3_2 : List ByteArray) (x48_2 : Int), v48 = .int .i64 x48_2 ∧ Aside0 (netlist_Form.l0 kq x3_2 l0_2 (l0_2.length : Int) x48_2 l0_0 l0_1 l0_2 l0_3 l0_4 = some r) ∧ Aside0 (kq ≤ kj1) ∧ Aside0 (Kd.R Kd.string 9 w' w.heap.size (fun _ => True) v3 x3_2) ∧ Aside0 (w'.heap[gb109]? = some (.cells #[(.slice A0_0 l0_0.length c0_0), (.slice A0_1 l0_1.length c0_1), (.slice A0_2 l0_2.length c0_2), (.slice A0_3 l0_3.length c0_3), (.slice A0_4 l0_4.length c0_4)] 27 (0, 0))) ∧ Aside0 (Below w.heap.size w w'))
  case atStart => exact ⟨(t110), (0), (by first | rfl | (simp; done) | (simp [*]; done)), H', ⟨Nat.le_refl _⟩, ⟨by (with_reducible repeat (first | apply Kd.R_alloc | apply Kd.R_drewN | apply Kd.R_drew)); exact HO112.out⟩, ⟨bk BK109.out⟩, ⟨bl⟩⟩
  clear H'
  clear c12b0 c12b1 c12b2 hcz14_0 hcz14_1 hcz14_2 hcz14_3 hcz14_4 hcz16_0 hcz16_1 hcz16_2 hcz16_3 hcz16_4 hfz14_0 hfz14_1 hfz14_2 hfz14_3 hfz14_4 hfz16_0 hfz16_1 hfz16_2 hfz16_3 hfz16_4
  obtain ⟨x3_2, x48_2, rfl, HA, HK2, HO_3, BK109, HB⟩ := hrel
  cases gk with
  | zero => exact absurd HA.out (by simp [netlist_Form.l0])
  | succ k2 =>
   have H := HA.out
   clear HA
   simp only [netlist_Form.l0] at H
   by_cases c17 : x48_2 < (l0_2.length : Int)
   · rw [if_pos c17] at H
     have c17b0 : decide (x48_2 < (l0_2.length : Int)) = true := decide_eq_true c17
     clear c17
     by_cases c18 : 0 ≤ x48_2
     rotate_left
     · rw [if_neg c18] at H
       exact absurd H (by simp)
     rw [if_pos c18] at H
     have c18b0 : decide (0 ≤ x48_2) = true := decide_eq_true c18
     clear c18
     by_cases c19 : x48_2 < (l0_2.length : Int)
     rotate_left
     · rw [if_neg c19] at H
       exact absurd H (by simp)
     rw [if_pos c19] at H
     have c19b0 : decide (x48_2 < (l0_2.length : Int)) = true := decide_eq_true c19
     clear c19
     by_cases c20 : x3_2.length < 8796093022208
     rotate_left
     · rw [if_neg c20] at H
       exact absurd H (by simp)
     rw [if_pos c20] at H
     have LMc20 := Aside0.mk c20
     clear c20
     obtain ⟨y115, hy115⟩ : ∃ y_ : List ByteArray, y_ = (x3_2 ++ [(rd_T44 l0_2 x48_2).f0]) := ⟨_, rfl⟩
     replace H : (netlist_Form.l0 k2 y115 l0_2 (l0_2.length : Int) (wrap64 (x48_2 + 1)) l0_0 l0_1 l0_2 l0_3 l0_4) = some r := by first | (rw [hy115]; with_reducible exact H) | (have H2_ := (Option.bind_some _ _).symm.trans H; rw [hy115]; with_reducible exact H2_) | (have H2_ := (Option.bind_some _ _).symm.trans H; with_reducible exact H2_) | with_reducible exact H | (rw [hy115]; exact H) | exact H
     have Ny115 := Aside0.mk hy115
     clear hy115
     have H' := Aside0.mk H
     clear H
     have p113 : 0 ≤ (x48_2 : Int) := of_decide_eq_true (by first | (with_reducible assumption) | assumption)
     have q113 : x48_2 < (l0_2.length : Int) := of_decide_eq_true (by first | (with_reducible assumption) | assumption)
     obtain ⟨ad113, e113, hx113_0, hx113_1, hx113_2, hx113_3, hx113_4⟩ := at_T44 HR0_2.out x48_2 p113 q113
     cases e113
     replace hx113_0 := hc HB.out hx113_0
     replace hx113_1 := hc HB.out hx113_1
     replace hx113_2 := hc HB.out hx113_2
     replace hx113_3 := hc HB.out hx113_3
     replace hx113_4 := hc HB.out hx113_4
     replace p113 := eq_true p113
     replace q113 := eq_true q113
     go_wp2_with (first | ((with_reducible refine gate_dst (N := 5) rfl ?_); (try (refine gate_guard (by rfl) ?_; dsimp only)); refine box_event ?hg (N := 5) ?hd (cs := #[.string (⟨#[]⟩ : ByteArray), .int .i64 0, .int .i64 0, .int .i64 0, .bool false]) (t := 44) ?hr ?_; (case hd => rfl); (case hg => rfl); (case hr => first | (go_simp; done) | (go_simp; rfl)); intro gb114 hg w21 hbox hb; replace HO_3 := Aside0.mk (rb HO_3.out hb); have BK114 := Aside0.mk (hbox); have GE114 := Aside0.mk (ge (w := w) hg); replace HB := Aside0.mk (below_step bl hb); have NB109_114 := Aside0.mk (nl hg (bk BK109.out)); have NB114_109 := Aside0.mk (ng hg (bk BK109.out)); replace BK109 := Aside0.mk (bb BK109.out hb); clear hb hbox hg; obtain ⟨hcz23_0, hcz23_1, hcz23_2, hcz23_3, hcz23_4, hfz23_0, hfz23_1, hfz23_2, hfz23_3, hfz23_4⟩ := bz5 BK114.out) | ((with_reducible refine gate_builtin (b := .append) (xs := #[.tmp 52, .tmp 55]) rfl ?_); (try (refine gate_guard (by rfl) ?_; dsimp only)); at_builtin; refine Kd.R_append Kd.string (w0 := w) w.heap.size rfl (.tmp 52) (.tmp 55) 22 9 (.string ⟨#[]⟩) 16 rfl Tryd.underlying22 info9 rfl (by decide) (by omega) u3 x3_2 ((rd_T44 l0_2 x48_2).f0) [.string ((rd_T44 l0_2 x48_2).f0)] (fun _ => True) (fun _ => False) rfl (by first | (go_simp; done) | (go_simp; rfl)) ?aP (fun _ hk => hk.elim) ?aF ?aO ?aB ?aS ?aL ?_; (case aP => exact rfl); (case aB => exact bl); (case aF => exact (fun _ _ => trivial)); (case aO => exact (by (with_reducible repeat (first | apply Kd.R_alloc | apply Kd.R_drewN | apply Kd.R_drew)); exact Kd.R_mono (Kd.R_far (p := ⟨gb114, 4, none⟩) (Kd.R_far (p := ⟨gb114, 3, none⟩) (Kd.R_far (p := ⟨gb114, 2, none⟩) (Kd.R_far (p := ⟨gb114, 1, none⟩) (Kd.R_far (p := ⟨gb114, 0, none⟩) (Kd.R_types HO_3.out BK114.out (by decide)) (fun _ hk => hk.2) (.string ((rd_T44 l0_2 x48_2).f0))) (fun _ hk => hk.2) (.int .i64 ((rd_T44 l0_2 x48_2).f1))) (fun _ hk => hk.2) (.int .i64 ((rd_T44 l0_2 x48_2).f2))) (fun _ hk => hk.2) (.int .i64 ((rd_T44 l0_2 x48_2).f3))) (fun _ hk => hk.2) (.bool ((rd_T44 l0_2 x48_2).f4))) (fun _ hk => trivial))); (case aS => exact (below_size bl)); (case aL => have := LMc20.out; omega); intro v116 w24 ho hb hg hat; rw [← Ny115.out] at ho; replace BK109 := Aside0.mk (blk_grown (bf BK109.out) hg (Kd.R_ne HO_3.out BK109.out (by decide))); replace BK114 := Aside0.mk (blk_grown (g := gb114) (o := .cells #[.string ((rd_T44 l0_2 x48_2).f0), .int .i64 ((rd_T44 l0_2 x48_2).f1), .int .i64 ((rd_T44 l0_2 x48_2).f2), .int .i64 ((rd_T44 l0_2 x48_2).f3), .bool ((rd_T44 l0_2 x48_2).f4)] 44 (0, 0)) (by (with_reducible repeat (first | refine blk_drewN ?_ _ | refine blk_drew ?_ | refine blk_alloc ?_ _)); refine blk_put (cs := #[.string ((rd_T44 l0_2 x48_2).f0), .int .i64 ((rd_T44 l0_2 x48_2).f1), .int .i64 ((rd_T44 l0_2 x48_2).f2), .int .i64 ((rd_T44 l0_2 x48_2).f3), .bool false]) ?_ 4 _ rfl; (with_reducible repeat (first | refine blk_drewN ?_ _ | refine blk_drew ?_ | refine blk_alloc ?_ _)); refine blk_put (cs := #[.string ((rd_T44 l0_2 x48_2).f0), .int .i64 ((rd_T44 l0_2 x48_2).f1), .int .i64 ((rd_T44 l0_2 x48_2).f2), .int .i64 0, .bool false]) ?_ 3 _ rfl; (with_reducible repeat (first | refine blk_drewN ?_ _ | refine blk_drew ?_ | refine blk_alloc ?_ _)); refine blk_put (cs := #[.string ((rd_T44 l0_2 x48_2).f0), .int .i64 ((rd_T44 l0_2 x48_2).f1), .int .i64 0, .int .i64 0, .bool false]) ?_ 2 _ rfl; (with_reducible repeat (first | refine blk_drewN ?_ _ | refine blk_drew ?_ | refine blk_alloc ?_ _)); refine blk_put (cs := #[.string ((rd_T44 l0_2 x48_2).f0), .int .i64 0, .int .i64 0, .int .i64 0, .bool false]) ?_ 1 _ rfl; (with_reducible repeat (first | refine blk_drewN ?_ _ | refine blk_drew ?_ | refine blk_alloc ?_ _)); refine blk_put (cs := #[.string (⟨#[]⟩ : ByteArray), .int .i64 0, .int .i64 0, .int .i64 0, .bool false]) ?_ 0 _ rfl; (with_reducible repeat (first | refine blk_drewN ?_ _ | refine blk_drew ?_ | refine blk_alloc ?_ _)); exact BK114.out) hg (Kd.R_ne HO_3.out BK114.out (by decide))); replace HB := Aside0.mk (hb); have HO117 := Aside0.mk (ho); clear HO_3; clear ho hb hg hat))
     repeat (go_quiet (fail); try go_wp2_with fail)
     go_roundg k2
     case measure => have := HJ1.out; have := HK2.out; omega
     case rel => exact ⟨(y115), (wrap64 (x48_2 + 1)), (by first | rfl | (simp; done) | (simp [*]; done)), H', ⟨by have := HJ1.out; have := HK2.out; omega⟩, ⟨by (with_reducible repeat (first | apply Kd.R_alloc | apply Kd.R_drewN | apply Kd.R_drew)); exact HO117.out⟩, ⟨bk BK109.out⟩, ⟨bl⟩⟩
   rw [if_neg c17] at H
   have c17b0 : decide (x48_2 < (l0_2.length : Int)) = false := decide_eq_false c17
   clear c17
   replace H := Option.bind_eq_some_iff.mp H
   obtain ⟨t118, A250, H⟩ := H
   replace H : (if t118 = 0 then ((graph_Names.f k2 l0_1).bind fun t119 => (if t119 = 0 then ((netlist_First.f l0_0 l0_1 l0_2 l0_3 l0_4).bind fun t120 => (netlist_Form.l1 k2 t120 l0_3 (l0_3.length : Int) 0 l0_0 l0_1 l0_2 l0_3 l0_4)) else (some t119))) else (some t118)) = some r := H
   have A25 := Aside0.mk A250
   clear A250
   by_cases c26 : t118 = 0
   rotate_left
   · rw [if_neg c26] at H
     have c26b1 : (t118 != 0) = true := bne_iff_ne.mpr c26
     obtain rfl := Option.some.inj H
     obtain ⟨Ao64, co64, eo64⟩ := Kd.R_slice HO_3.out
     subst eo64
     go_wp2_with (go_at_call 59; (with_reducible refine (graph_Names.calls k2 _ _ x3_2 t118 _ ?side1 ?side2 A25.out).mono ?_); (case side1 => exact kc ((Kd.R_reads' HO_3.out).2.2)); (case side2 => exact (Kd.R_reads' HO_3.out).2.1); rintro e w65 ⟨rfl, hb⟩; replace HO_3 := Aside0.mk (rb HO_3.out hb); replace BK109 := Aside0.mk (bb BK109.out hb); replace HB := Aside0.mk (below_step bl hb); (try clear hb))
     repeat (go_quiet (fail); try go_wp2_with fail)
     go_ret
     exact ⟨by first | rfl | (simp [errW_none, errW_some] <;> rfl) | (simp [*, errW_none, errW_some] <;> rfl), bl⟩
   rw [if_pos c26] at H
   have c26b0 : (t118 == 0) = true := beq_iff_eq.mpr c26
   have c26b1 : (t118 != 0) = false := bne_eq_false_iff_eq.mpr c26
   clear c26
   replace H := Option.bind_eq_some_iff.mp H
   obtain ⟨t119, A270, H⟩ := H
   replace H : (if t119 = 0 then ((netlist_First.f l0_0 l0_1 l0_2 l0_3 l0_4).bind fun t120 => (netlist_Form.l1 k2 t120 l0_3 (l0_3.length : Int) 0 l0_0 l0_1 l0_2 l0_3 l0_4)) else (some t119)) = some r := H
   have A27 := Aside0.mk A270
   clear A270
   by_cases c28 : t119 = 0
   rotate_left
   · rw [if_neg c28] at H
     have c28b1 : (t119 != 0) = true := bne_iff_ne.mpr c28
     obtain rfl := Option.some.inj H
     obtain ⟨Ao60, co60, eo60⟩ := Kd.R_slice HO_3.out
     subst eo60
     go_wp2_with (first | (go_at_call 59; (with_reducible refine (graph_Names.calls k2 _ _ x3_2 t118 _ ?side1 ?side2 A25.out).mono ?_); (case side1 => exact kc ((Kd.R_reads' HO_3.out).2.2)); (case side2 => exact (Kd.R_reads' HO_3.out).2.1); rintro e w61 ⟨rfl, hb⟩; replace HO_3 := Aside0.mk (rb HO_3.out hb); replace BK109 := Aside0.mk (bb BK109.out hb); replace HB := Aside0.mk (below_step bl hb); (try clear hb); obtain ⟨hcz62_0, hcz62_1, hcz62_2, hcz62_3, hcz62_4, hfz62_0, hfz62_1, hfz62_2, hfz62_3, hfz62_4⟩ := bz5 BK109.out) | (go_at_call 59; (with_reducible refine (graph_Names.calls k2 _ _ l0_1 t119 _ ?side1 ?side2 A27.out).mono ?_); (case side1 => exact kc (Kd.C_below HR0_1.out HB.out)); (case side2 => exact HC0_1.out); rintro e w63 ⟨rfl, hb⟩; replace HO_3 := Aside0.mk (rb HO_3.out hb); replace BK109 := Aside0.mk (bb BK109.out hb); replace HB := Aside0.mk (below_step bl hb); (try clear hb)))
     repeat (go_quiet (fail); try go_wp2_with fail)
     go_ret
     exact ⟨by first | rfl | (simp [errW_none, errW_some] <;> rfl) | (simp [*, errW_none, errW_some] <;> rfl), bl⟩
   rw [if_pos c28] at H
   have c28b0 : (t119 == 0) = true := beq_iff_eq.mpr c28
   have c28b1 : (t119 != 0) = false := bne_eq_false_iff_eq.mpr c28
   clear c28
   replace H := Option.bind_eq_some_iff.mp H
   obtain ⟨t120, A290, H⟩ := H
   replace H : (netlist_Form.l1 k2 t120 l0_3 (l0_3.length : Int) 0 l0_0 l0_1 l0_2 l0_3 l0_4) = some r := H
   have A29 := Aside0.mk A290
   clear A290
   have H' := Aside0.mk H
   clear H
   obtain ⟨Ao30, co30, eo30⟩ := Kd.R_slice HO_3.out
   subst eo30
   go_wp2_with (first | (go_at_call 59; (with_reducible refine (graph_Names.calls k2 _ _ x3_2 t118 _ ?side1 ?side2 A25.out).mono ?_); (case side1 => exact kc ((Kd.R_reads' HO_3.out).2.2)); (case side2 => exact (Kd.R_reads' HO_3.out).2.1); rintro e w31 ⟨rfl, hb⟩; replace HO_3 := Aside0.mk (rb HO_3.out hb); replace BK109 := Aside0.mk (bb BK109.out hb); replace HB := Aside0.mk (below_step bl hb); (try clear hb); obtain ⟨hcz32_0, hcz32_1, hcz32_2, hcz32_3, hcz32_4, hfz32_0, hfz32_1, hfz32_2, hfz32_3, hfz32_4⟩ := bz5 BK109.out) | (go_at_call 59; (with_reducible refine (graph_Names.calls k2 _ _ l0_1 t119 _ ?side1 ?side2 A27.out).mono ?_); (case side1 => exact kc (Kd.C_below HR0_1.out HB.out)); (case side2 => exact HC0_1.out); rintro e w33 ⟨rfl, hb⟩; replace HO_3 := Aside0.mk (rb HO_3.out hb); replace BK109 := Aside0.mk (bb BK109.out hb); replace HB := Aside0.mk (below_step bl hb); (try clear hb); obtain ⟨hcz34_0, hcz34_1, hcz34_2, hcz34_3, hcz34_4, hfz34_0, hfz34_1, hfz34_2, hfz34_3, hfz34_4⟩ := bz5 BK109.out) | (go_at_call 47; (with_reducible refine (netlist_First.calls _ _ l0_0 _ _ l0_1 _ _ l0_2 _ _ l0_3 _ _ l0_4 t120 _ ?side1 ?side2 ?side3 ?side4 ?side5 ?side6 ?side7 ?side8 ?side9 ?side10 A29.out).mono ?_); (case side1 => exact kc (Kd.C_below HR0_0.out HB.out)); (case side2 => exact HC0_0.out); (case side3 => exact kc (Kd.C_below HR0_1.out HB.out)); (case side4 => exact HC0_1.out); (case side5 => exact kc (Kd.C_below HR0_2.out HB.out)); (case side6 => exact HC0_2.out); (case side7 => exact kc (Kd.C_below HR0_3.out HB.out)); (case side8 => exact HC0_3.out); (case side9 => exact kc (Kd.C_below HR0_4.out HB.out)); (case side10 => exact HC0_4.out); rintro e w35 ⟨rfl, hb⟩; replace HO_3 := Aside0.mk (rb HO_3.out hb); replace BK109 := Aside0.mk (bb BK109.out hb); replace HB := Aside0.mk (below_step bl hb); (try clear hb); obtain ⟨hcz36_0, hcz36_1, hcz36_2, hcz36_3, hcz36_4, hfz36_0, hfz36_1, hfz36_2, hfz36_3, hfz36_4⟩ := bz5 BK109.out))
   repeat (go_quiet (fail); try go_wp2_with fail)
   go_loopg [74] k2 (fun kq v74 w' => ∃ (x74_3 : Int), v74 = .int .i64 x74_3 ∧ Aside0 (netlist_Form.l1 kq t120 l0_3 (l0_3.length : Int) x74_3 l0_0 l0_1 l0_2 l0_3 l0_4 = some r) ∧ Aside0 (kq ≤ k2) ∧ Aside0 (w'.heap[gb109]? = some (.cells #[(.slice A0_0 l0_0.length c0_0), (.slice A0_1 l0_1.length c0_1), (.slice A0_2 l0_2.length c0_2), (.slice A0_3 l0_3.length c0_3), (.slice A0_4 l0_4.length c0_4)] 27 (0, 0))) ∧ Aside0 (Below w.heap.size w w'))
   case atStart => exact ⟨(0), (by first | rfl | (simp; done) | (simp [*]; done)), H', ⟨Nat.le_refl _⟩, ⟨bk BK109.out⟩, ⟨bl⟩⟩
   clear H'
   clear c17b0 c26b0 c26b1 c28b0 c28b1 hcz32_0 hcz32_1 hcz32_2 hcz32_3 hcz32_4 hcz34_0 hcz34_1 hcz34_2 hcz34_3 hcz34_4 hcz36_0 hcz36_1 hcz36_2 hcz36_3 hcz36_4 hfz32_0 hfz32_1 hfz32_2 hfz32_3 hfz32_4 hfz34_0 hfz34_1 hfz34_2 hfz34_3 hfz34_4 hfz36_0 hfz36_1 hfz36_2 hfz36_3 hfz36_4
   obtain ⟨x74_3, rfl, HA, HK3, BK109, HB⟩ := hrel
   cases gk with
   | zero => exact absurd HA.out (by simp [netlist_Form.l1])
   | succ k3 =>
    have H := HA.out
    clear HA
    simp only [netlist_Form.l1] at H
    by_cases c37 : x74_3 < (l0_3.length : Int)
    rotate_left
    · rw [if_neg c37] at H
      have c37b0 : decide (x74_3 < (l0_3.length : Int)) = false := decide_eq_false c37
      clear c37
      replace H := Option.bind_eq_some_iff.mp H
      obtain ⟨t121, A570, H⟩ := H
      replace H : (some t121) = some r := H
      have A57 := Aside0.mk A570
      clear A570
      obtain rfl := Option.some.inj H
      obtain ⟨hcz58_0, hcz58_1, hcz58_2, hcz58_3, hcz58_4, hfz58_0, hfz58_1, hfz58_2, hfz58_3, hfz58_4⟩ := bz5 BK109.out
      go_wp2_with (go_at_call 61; (with_reducible refine (netlist_ends.calls k3 _ _ l0_0 _ _ l0_1 _ _ l0_2 _ _ l0_3 _ _ l0_4 t121 _ ?side1 ?side2 ?side3 ?side4 ?side5 ?side6 ?side7 ?side8 ?side9 ?side10 A57.out).mono ?_); (case side1 => exact kc (Kd.C_below HR0_0.out HB.out)); (case side2 => exact HC0_0.out); (case side3 => exact kc (Kd.C_below HR0_1.out HB.out)); (case side4 => exact HC0_1.out); (case side5 => exact kc (Kd.C_below HR0_2.out HB.out)); (case side6 => exact HC0_2.out); (case side7 => exact kc (Kd.C_below HR0_3.out HB.out)); (case side8 => exact HC0_3.out); (case side9 => exact kc (Kd.C_below HR0_4.out HB.out)); (case side10 => exact HC0_4.out); rintro e w59 ⟨rfl, hb⟩; replace BK109 := Aside0.mk (bb BK109.out hb); replace HB := Aside0.mk (below_step bl hb); (try clear hb))
      repeat (go_quiet (fail); try go_wp2_with fail)
      go_ret
      exact ⟨by first | rfl | (simp [errW_none, errW_some] <;> rfl) | (simp [*, errW_none, errW_some] <;> rfl), bl⟩
    rw [if_pos c37] at H
    have c37b0 : decide (x74_3 < (l0_3.length : Int)) = true := decide_eq_true c37
    clear c37
    by_cases c38 : 0 ≤ x74_3
    rotate_left
    · rw [if_neg c38] at H
      exact absurd H (by simp)
    rw [if_pos c38] at H
    have c38b0 : decide (0 ≤ x74_3) = true := decide_eq_true c38
    clear c38
    by_cases c39 : x74_3 < (l0_3.length : Int)
    rotate_left
    · rw [if_neg c39] at H
      exact absurd H (by simp)
    rw [if_pos c39] at H
    have c39b0 : decide (x74_3 < (l0_3.length : Int)) = true := decide_eq_true c39
    clear c39
    by_cases c40 : (((rd_T51 l0_3 x74_3).f2).length : Int) > 6
    · rw [if_pos c40] at H
      have c40b0 : decide (6 < (((rd_T51 l0_3 x74_3).f2).length : Int)) = true := decide_eq_true c40
      clear c40
      obtain rfl := Option.some.inj H
      have p122 : 0 ≤ (x74_3 : Int) := of_decide_eq_true (by first | (with_reducible assumption) | assumption)
      have q122 : x74_3 < (l0_3.length : Int) := of_decide_eq_true (by first | (with_reducible assumption) | assumption)
      obtain ⟨ad122, A122_2, c122_2, e122, hx122_0, hx122_1, hx122_2, hl122_2, hi122_2⟩ := at_T51 HR0_3.out x74_3 p122 q122
      cases e122
      replace hx122_0 := hc HB.out hx122_0
      replace hx122_1 := hc HB.out hx122_1
      replace hx122_2 := hc HB.out hx122_2
      clear hi122_2 hl122_2
      replace p122 := eq_true p122
      replace q122 := eq_true q122
      go_wp2_with ((with_reducible refine gate_dst (N := 10) rfl ?_); (try (refine gate_guard (by rfl) ?_; dsimp only)); refine box_event ?hg (N := 10) ?hd (cs := #[.int .i64 0, .int .u64 0, .slice none 0 0]) (t := 51) ?hr ?_; (case hd => rfl); (case hg => rfl); (case hr => first | (go_simp; done) | (go_simp; rfl)); intro gb123 hg w41 hbox hb; have BK123 := Aside0.mk (hbox); have GE123 := Aside0.mk (ge (w := w) hg); replace HB := Aside0.mk (below_step bl hb); have NB109_123 := Aside0.mk (nl hg (bk BK109.out)); have NB123_109 := Aside0.mk (ng hg (bk BK109.out)); replace BK109 := Aside0.mk (bb BK109.out hb); clear hb hbox hg; obtain ⟨hcz43_0, hcz43_1, hcz43_2, hfz43_0, hfz43_1, hfz43_2⟩ := bz3 BK123.out)
      repeat (go_quiet (fail); try go_wp2_with fail)
      go_ret
      exact ⟨by first | rfl | (simp [errW_none, errW_some] <;> rfl) | (simp [*, errW_none, errW_some] <;> rfl), bl⟩
    rw [if_neg c40] at H
    have c40b0 : decide (6 < (((rd_T51 l0_3 x74_3).f2).length : Int)) = false := decide_eq_false c40
    have c40b1 : decide (6 < ((rd_T51 l0_3 x74_3).f2).length) = false := decide_eq_false (by omega)
    clear c40
    replace H := Option.bind_eq_some_iff.mp H
    obtain ⟨t124, A440, H⟩ := H
    replace H : (if (Go.bits .andNot .u64 ((rd_T51 l0_3 x74_3).f1) t124) = 0 then (netlist_Form.l2 k3 t120 x74_3 l0_3 (l0_3.length : Int) x74_3 ((rd_T51 l0_3 x74_3).f2) (((rd_T51 l0_3 x74_3).f2).length : Int) 0 l0_0 l0_1 l0_2 l0_3 l0_4) else (some 4)) = some r := H
    have A44 := Aside0.mk A440
    clear A440
    by_cases c45 : (Go.bits .andNot .u64 ((rd_T51 l0_3 x74_3).f1) t124) = 0
    rotate_left
    · rw [if_neg c45] at H
      have c45b1 : ((Go.bits .andNot .u64 ((rd_T51 l0_3 x74_3).f1) t124) != 0) = true := bne_iff_ne.mpr c45
      obtain rfl := Option.some.inj H
      have p122 : 0 ≤ (x74_3 : Int) := of_decide_eq_true (by first | (with_reducible assumption) | assumption)
      have q122 : x74_3 < (l0_3.length : Int) := of_decide_eq_true (by first | (with_reducible assumption) | assumption)
      obtain ⟨ad122, A122_2, c122_2, e122, hx122_0, hx122_1, hx122_2, hl122_2, hi122_2⟩ := at_T51 HR0_3.out x74_3 p122 q122
      cases e122
      replace hx122_0 := hc HB.out hx122_0
      replace hx122_1 := hc HB.out hx122_1
      replace hx122_2 := hc HB.out hx122_2
      clear hi122_2 hl122_2
      replace p122 := eq_true p122
      replace q122 := eq_true q122
      go_wp2_with ((with_reducible refine gate_dst (N := 10) rfl ?_); (try (refine gate_guard (by rfl) ?_; dsimp only)); refine box_event ?hg (N := 10) ?hd (cs := #[.int .i64 0, .int .u64 0, .slice none 0 0]) (t := 51) ?hr ?_; (case hd => rfl); (case hg => rfl); (case hr => first | (go_simp; done) | (go_simp; rfl)); intro gb123 hg w54 hbox hb; have BK123 := Aside0.mk (hbox); have GE123 := Aside0.mk (ge (w := w) hg); replace HB := Aside0.mk (below_step bl hb); have NB109_123 := Aside0.mk (nl hg (bk BK109.out)); have NB123_109 := Aside0.mk (ng hg (bk BK109.out)); replace BK109 := Aside0.mk (bb BK109.out hb); clear hb hbox hg; obtain ⟨hcz56_0, hcz56_1, hcz56_2, hfz56_0, hfz56_1, hfz56_2⟩ := bz3 BK123.out)
      repeat (go_quiet (first | (go_at_call 60; (with_reducible refine (netlist_Mask.calls (((rd_T51 l0_3 x74_3).f2).length : Int) t124 _ A44.out).mono ?_); rintro e w' ⟨rfl, ⟨nd, rfl⟩⟩; (try first | exact ⟨rfl, _, World.drewN_drewN _ _ _⟩ | exact ⟨rfl, _, Eq.trans (World.drewN_drewN _ _ _) (congrArg (World.drewN _) (Nat.add_assoc _ _ _))⟩))); try go_wp2_with fail)
      go_ret
      exact ⟨by first | rfl | (simp [errW_none, errW_some] <;> rfl) | (simp [*, errW_none, errW_some] <;> rfl), bl⟩
    rw [if_pos c45] at H
    have c45b0 : ((Go.bits .andNot .u64 ((rd_T51 l0_3 x74_3).f1) t124) == 0) = true := beq_iff_eq.mpr c45
    have c45b1 : ((Go.bits .andNot .u64 ((rd_T51 l0_3 x74_3).f1) t124) != 0) = false := bne_eq_false_iff_eq.mpr c45
    clear c45
    have H' := Aside0.mk H
    clear H
    have p122 : 0 ≤ (x74_3 : Int) := of_decide_eq_true (by first | (with_reducible assumption) | assumption)
    have q122 : x74_3 < (l0_3.length : Int) := of_decide_eq_true (by first | (with_reducible assumption) | assumption)
    obtain ⟨ad122, A122_2, c122_2, e122, hx122_0, hx122_1, hx122_2, hl122_2, hi122_2⟩ := at_T51 HR0_3.out x74_3 p122 q122
    cases e122
    replace hx122_0 := hc HB.out hx122_0
    replace hx122_1 := hc HB.out hx122_1
    replace hx122_2 := hc HB.out hx122_2
    have HR122_2 := Aside0.mk hi122_2
    clear hi122_2 hl122_2
    replace p122 := eq_true p122
    replace q122 := eq_true q122
    go_wp2_with ((with_reducible refine gate_dst (N := 10) rfl ?_); (try (refine gate_guard (by rfl) ?_; dsimp only)); refine box_event ?hg (N := 10) ?hd (cs := #[.int .i64 0, .int .u64 0, .slice none 0 0]) (t := 51) ?hr ?_; (case hd => rfl); (case hg => rfl); (case hr => first | (go_simp; done) | (go_simp; rfl)); intro gb123 hg w46 hbox hb; have BK123 := Aside0.mk (hbox); have GE123 := Aside0.mk (ge (w := w) hg); replace HB := Aside0.mk (below_step bl hb); have NB109_123 := Aside0.mk (nl hg (bk BK109.out)); have NB123_109 := Aside0.mk (ng hg (bk BK109.out)); replace BK109 := Aside0.mk (bb BK109.out hb); clear hb hbox hg; obtain ⟨hcz48_0, hcz48_1, hcz48_2, hfz48_0, hfz48_1, hfz48_2⟩ := bz3 BK123.out)
    repeat (go_quiet (first | (go_at_call 60; (with_reducible refine (netlist_Mask.calls (((rd_T51 l0_3 x74_3).f2).length : Int) t124 _ A44.out).mono ?_); rintro e w' ⟨rfl, ⟨nd, rfl⟩⟩; (try first | exact ⟨rfl, _, World.drewN_drewN _ _ _⟩ | exact ⟨rfl, _, Eq.trans (World.drewN_drewN _ _ _) (congrArg (World.drewN _) (Nat.add_assoc _ _ _))⟩))); try go_wp2_with fail)
    go_loopg [94] k3 (fun kq v94 w' => ∃ (x94_4 : Int), v94 = .int .i64 x94_4 ∧ Aside0 (netlist_Form.l2 kq t120 x74_3 l0_3 (l0_3.length : Int) x74_3 ((rd_T51 l0_3 x74_3).f2) (((rd_T51 l0_3 x74_3).f2).length : Int) x94_4 l0_0 l0_1 l0_2 l0_3 l0_4 = some r) ∧ Aside0 (kq ≤ k3) ∧ Aside0 (w'.heap[gb109]? = some (.cells #[(.slice A0_0 l0_0.length c0_0), (.slice A0_1 l0_1.length c0_1), (.slice A0_2 l0_2.length c0_2), (.slice (some ad122) l0_3.length c0_3), (.slice A0_4 l0_4.length c0_4)] 27 (0, 0))) ∧ Aside0 (w'.heap[gb123]? = some (.cells #[.int .i64 ((rd_T51 l0_3 x74_3).f0), .int .u64 ((rd_T51 l0_3 x74_3).f1), (.slice A122_2 ((rd_T51 l0_3 x74_3).f2).length c122_2)] 51 (0, 0))) ∧ Aside0 (Below w.heap.size w w'))
    case atStart => exact ⟨(0), (by first | rfl | (simp; done) | (simp [*]; done)), H', ⟨Nat.le_refl _⟩, ⟨bf BK109.out⟩, ⟨by (with_reducible repeat (first | refine blk_drewN ?_ _ | refine blk_drew ?_ | refine blk_alloc ?_ _)); refine blk_put (cs := #[.int .i64 ((rd_T51 l0_3 x74_3).f0), .int .u64 ((rd_T51 l0_3 x74_3).f1), .slice none 0 0]) ?_ 2 _ rfl; (with_reducible repeat (first | refine blk_drewN ?_ _ | refine blk_drew ?_ | refine blk_alloc ?_ _)); refine blk_put (cs := #[.int .i64 ((rd_T51 l0_3 x74_3).f0), .int .u64 0, .slice none 0 0]) ?_ 1 _ rfl; (with_reducible repeat (first | refine blk_drewN ?_ _ | refine blk_drew ?_ | refine blk_alloc ?_ _)); refine blk_put (cs := #[.int .i64 0, .int .u64 0, .slice none 0 0]) ?_ 0 _ rfl; (with_reducible repeat (first | refine blk_drewN ?_ _ | refine blk_drew ?_ | refine blk_alloc ?_ _)); exact BK123.out⟩, ⟨bl⟩⟩
    clear H'
    clear c37b0 c38b0 c39b0 c40b0 c40b1 c45b0 c45b1 hcz48_0 hcz48_1 hcz48_2 hfz48_0 hfz48_1 hfz48_2 hx122_0 hx122_1 hx122_2 p122 q122
    obtain ⟨x94_4, rfl, HA, HK4, BK109, BK123, HB⟩ := hrel
    cases gk with
    | zero => exact absurd HA.out (by simp [netlist_Form.l2])
    | succ k4 =>
     have H := HA.out
     clear HA
     simp only [netlist_Form.l2] at H
     by_cases c49 : x94_4 < (((rd_T51 l0_3 x74_3).f2).length : Int)
     rotate_left
     · rw [if_neg c49] at H
       have c49b0 : decide (x94_4 < (((rd_T51 l0_3 x74_3).f2).length : Int)) = false := decide_eq_false c49
       clear c49
       have H' := Aside0.mk H
       clear H
       go_wp2
       repeat (go_quiet (fail); try go_wp2)
       go_roundg k4
       case measure => have := HJ1.out; have := HK2.out; have := HK3.out; have := HK4.out; omega
       case rel => exact ⟨(wrap64 (x74_3 + 1)), (by first | rfl | (simp; done) | (simp [*]; done)), H', ⟨by have := HJ1.out; have := HK2.out; have := HK3.out; have := HK4.out; omega⟩, ⟨bk BK109.out⟩, ⟨bl⟩⟩
     rw [if_pos c49] at H
     have c49b0 : decide (x94_4 < (((rd_T51 l0_3 x74_3).f2).length : Int)) = true := decide_eq_true c49
     clear c49
     by_cases c50 : 0 ≤ x94_4
     rotate_left
     · rw [if_neg c50] at H
       exact absurd H (by simp)
     rw [if_pos c50] at H
     have c50b0 : decide (0 ≤ x94_4) = true := decide_eq_true c50
     clear c50
     by_cases c51 : x94_4 < (((rd_T51 l0_3 x74_3).f2).length : Int)
     rotate_left
     · rw [if_neg c51] at H
       exact absurd H (by simp)
     rw [if_pos c51] at H
     have c51b0 : decide (x94_4 < (((rd_T51 l0_3 x74_3).f2).length : Int)) = true := decide_eq_true c51
     clear c51
     by_cases c52 : (rd ((rd_T51 l0_3 x74_3).f2) x94_4) < 0
     · rw [if_pos c52] at H
       have c52b0 : decide ((rd ((rd_T51 l0_3 x74_3).f2) x94_4) < 0) = true := decide_eq_true c52
       clear c52
       obtain rfl := Option.some.inj H
       have p125 : 0 ≤ (x94_4 : Int) := of_decide_eq_true (by first | (with_reducible assumption) | assumption)
       have q125 : x94_4 < (((rd_T51 l0_3 x74_3).f2).length : Int) := of_decide_eq_true (by first | (with_reducible assumption) | assumption)
       obtain ⟨ad125, e125, hx125_0⟩ := Kd.at_int HR122_2.out x94_4 p125 q125
       cases e125
       replace hx125_0 := hc HB.out hx125_0
       replace p125 := eq_true p125
       replace q125 := eq_true q125
       go_wp2
       repeat (go_quiet (fail); try go_wp2)
       go_ret
       exact ⟨by first | rfl | (simp [errW_none, errW_some] <;> rfl) | (simp [*, errW_none, errW_some] <;> rfl), bl⟩
     rw [if_neg c52] at H
     have c52b0 : decide ((rd ((rd_T51 l0_3 x74_3).f2) x94_4) < 0) = false := decide_eq_false c52
     clear c52
     by_cases c53 : (rd ((rd_T51 l0_3 x74_3).f2) x94_4) ≥ (wrap64 (t120 + x74_3))
     · rw [if_pos c53] at H
       have c53b0 : decide ((wrap64 (t120 + x74_3)) ≤ (rd ((rd_T51 l0_3 x74_3).f2) x94_4)) = true := decide_eq_true c53
       clear c53
       obtain rfl := Option.some.inj H
       have p125 : 0 ≤ (x94_4 : Int) := of_decide_eq_true (by first | (with_reducible assumption) | assumption)
       have q125 : x94_4 < (((rd_T51 l0_3 x74_3).f2).length : Int) := of_decide_eq_true (by first | (with_reducible assumption) | assumption)
       obtain ⟨ad125, e125, hx125_0⟩ := Kd.at_int HR122_2.out x94_4 p125 q125
       cases e125
       replace hx125_0 := hc HB.out hx125_0
       replace p125 := eq_true p125
       replace q125 := eq_true q125
       go_wp2
       repeat (go_quiet (fail); try go_wp2)
       go_ret
       exact ⟨by first | rfl | (simp [errW_none, errW_some] <;> rfl) | (simp [*, errW_none, errW_some] <;> rfl), bl⟩
     rw [if_neg c53] at H
     have c53b0 : decide ((wrap64 (t120 + x74_3)) ≤ (rd ((rd_T51 l0_3 x74_3).f2) x94_4)) = false := decide_eq_false c53
     clear c53
     have H' := Aside0.mk H
     clear H
     have p125 : 0 ≤ (x94_4 : Int) := of_decide_eq_true (by first | (with_reducible assumption) | assumption)
     have q125 : x94_4 < (((rd_T51 l0_3 x74_3).f2).length : Int) := of_decide_eq_true (by first | (with_reducible assumption) | assumption)
     obtain ⟨ad125, e125, hx125_0⟩ := Kd.at_int HR122_2.out x94_4 p125 q125
     cases e125
     replace hx125_0 := hc HB.out hx125_0
     replace p125 := eq_true p125
     replace q125 := eq_true q125
     go_wp2
     repeat (go_quiet (fail); try go_wp2)
     go_roundg k4
     case measure => have := HJ1.out; have := HK2.out; have := HK3.out; have := HK4.out; omega
     case rel => exact ⟨(wrap64 (x94_4 + 1)), (by first | rfl | (simp; done) | (simp [*]; done)), H', ⟨by have := HJ1.out; have := HK2.out; have := HK3.out; have := HK4.out; omega⟩, ⟨bk BK109.out⟩, ⟨bk BK123.out⟩, ⟨bl⟩⟩

end Go.Proofs.YtpkpmdmmnhmnlaaDoor.PT
namespace Go.Proofs.YtpkpmdmmnhmnlaaDoor.PT
open Go.RowKit Go.Proofs.YtpkpmdmmnhmnlaaDoorW.PrintWords Go.Proofs.YtpkpmdmmnhmnlaaDoorW.PrintLast Go.Proofs.YtpkpmdmmnhmnlaaDoorW.PrintMore
attribute [local go_sem] max2_int min2_int max_two min_two max_three min_three max_four min_four   -- for this text's walks alone
set_option linter.unusedVariables false
set_option linter.unusedSimpArgs false

/-! ### netlist_gate: function 41 -/
def netlist_gate.j0 : Nat → List (S48) → Bool → Int → Int → List Int → Option (Int)
 | 0, _, _, _, _, _ => none
 | k + 1, x1, x9, x127000, x127001, x127002 => if x9 = true then (some 7) else (if 0 ≤ x127000 then (if x127000 < (x1.length : Int) then (if (rd_T48 x1 x127000).f1 = true then (some 8) else (if ((rd_T48 x1 x127000).f2) = (x127002.length : Int) then (if ((rd_T48 x1 x127000).f3) = x127001 then (some 0) else (some 4)) else (some 4))) else (none)) else (none))
def netlist_gate.f (k : Nat) (a0_0 : Int) (a0_1 : Int) (l0_2 : List Int) (l1 : List (S48)) : Option (Int) := if a0_0 = (-1) then (some 0) else (if a0_0 < (-1) then (netlist_gate.j0 k l1 true a0_0 a0_1 l0_2) else (netlist_gate.j0 k l1 (decide (a0_0 ≥ (l1.length : Int))) a0_0 a0_1 l0_2))
theorem netlist_gate.mono_l : ∀ k, (∀ y0 y1 y2 y3 y4, LeO (netlist_gate.j0 k y0 y1 y2 y3 y4) (netlist_gate.j0 (k + 1) y0 y1 y2 y3 y4))
 | 0 => fun _ _ _ _ _ r h => by simp [netlist_gate.j0] at h
 | k + 1 => by
  have ih0 := netlist_gate.mono_l k
  · intro y0 y1 y2 y3 y4
    unfold netlist_gate.j0
    repeat' first
    | (with_reducible exact ih0 _ _ _ _ _)
    | (with_reducible exact LeO.refl _)
    | (with_reducible exact LeO.none _)
    | (with_reducible refine LeO.ite ?_ ?_)
    | (with_reducible refine LeO.bind ?_ (fun _ => ?_))
theorem netlist_gate.mono : ∀ a0 a1 a2 a3 k, LeO (netlist_gate.f k a0 a1 a2 a3) (netlist_gate.f (k + 1) a0 a1 a2 a3) := by
 intro a0 a1 a2 a3 k
 have ih0 := netlist_gate.mono_l k
 unfold netlist_gate.f
 repeat' first
  | (with_reducible exact ih0 _ _ _ _ _)
  | (with_reducible exact LeO.refl _)
  | (with_reducible exact LeO.none _)
  | (with_reducible refine LeO.ite ?_ ?_)
  | (with_reducible refine LeO.bind ?_ (fun _ => ?_))
set_option maxHeartbeats 8000000 in
set_option maxRecDepth 100000 in
theorem netlist_gate.calls (k : Nat) (a0_0 : Int) (a0_1 : Int) (A0_2 : Option Addr) (c0_2 : Nat) (l0_2 : List Int) (A1 : Option Addr) (c1 : Nat) (l1 : List (S48)) (r : Int) (w : World) (hr0_2 : Kd.C (Kd.int .i64) w A0_2 l0_2.length l0_2) (hc0_2 : l0_2.length ≤ c0_2) (hr1 : Kd.C k48 w A1 l1.length l1) (hc1 : l1.length ≤ c1) (h : netlist_gate.f k a0_0 a0_1 l0_2 l1 = some r) :
 Calls Tryd.prog 41 #[.agg #[.int .i64 a0_0, .int .u64 a0_1, .slice A0_2 l0_2.length c0_2], .slice A1 l1.length c1] w fun e w' => e = .returned (.int .i64 r) ∧ Below w.heap.size w w' := by
 clear hr0_2 hc0_2
 have HR1 := Aside0.mk hr1
 clear hr1 hc1
 have HB := Aside0.mk (Below.refl w.heap.size w)
 have H : (if a0_0 = (-1) then (some 0) else (if a0_0 < (-1) then (netlist_gate.j0 k l1 true a0_0 a0_1 l0_2) else (netlist_gate.j0 k l1 (decide (a0_0 ≥ (l1.length : Int))) a0_0 a0_1 l0_2))) = some r := h
 clear h
 by_cases c3 : a0_0 = (-1)
 · rw [if_pos c3] at H
   have c3b0 : (a0_0 == (-1)) = true := beq_iff_eq.mpr c3
   clear c3
   obtain rfl := Option.some.inj H
   go_enter Tryd.func41, Tryd.ntmps41
   go_wp2_with ((with_reducible refine gate_dst (N := 2) rfl ?_); (try (refine gate_guard (by rfl) ?_; dsimp only)); refine box_event ?hg (N := 2) ?hd (cs := #[.int .i64 a0_0, .int .u64 a0_1, .slice A0_2 l0_2.length c0_2]) (t := 51) ?hr ?_; (case hd => rfl); (case hg => rfl); (case hr => first | (go_simp; done) | (go_simp; rfl)); intro gb126 hg w4 hbox hb; have BK126 := Aside0.mk (hbox); replace HB := Aside0.mk (below_step bl hb); clear hb hbox hg; obtain ⟨hcz5_0, hcz5_1, hcz5_2, hfz5_0, hfz5_1, hfz5_2⟩ := bz3 BK126.out)
   repeat (go_quiet (fail); try go_wp2_with fail)
   go_ret
   exact ⟨by first | rfl | (simp [errW_none, errW_some] <;> rfl) | (simp [*, errW_none, errW_some] <;> rfl), bl⟩
 rw [if_neg c3] at H
 have c3b0 : (a0_0 == (-1)) = false := beq_eq_false_iff_ne.mpr c3
 have c3b1 : (a0_0 != (-1)) = true := bne_iff_ne.mpr c3
 have HC6 := Aside0.mk H
 clear H
 go_enter Tryd.func41, Tryd.ntmps41
 go_upto_region 3 with (first | ((with_reducible refine gate_dst (N := 2) rfl ?_); (try (refine gate_guard (by rfl) ?_; dsimp only)); refine box_event ?hg (N := 2) ?hd (cs := #[.int .i64 a0_0, .int .u64 a0_1, .slice A0_2 l0_2.length c0_2]) (t := 51) ?hr ?_; (case hd => rfl); (case hg => rfl); (case hr => first | (go_simp; done) | (go_simp; rfl)); intro gb126 hg w7 hbox hb; have BK126 := Aside0.mk (hbox); replace HB := Aside0.mk (below_step bl hb); clear hb hbox hg; obtain ⟨hcz8_0, hcz8_1, hcz8_2, hfz8_0, hfz8_1, hfz8_2⟩ := bz3 BK126.out))
 repeat (go_quiet (fail); go_upto_region 3 with (fail))
 (try simp only [Act.put, List.setIfInBounds_toArray, List.set_cons_zero, List.set_cons_succ])
 go_cut [9] (fun v9 wc => ∃ (kq : Nat) (x9_5 : Bool), v9 = .bool x9_5 ∧ Aside0 (netlist_gate.j0 kq l1 x9_5 a0_0 a0_1 l0_2 = some r) ∧ Aside0 (kq ≤ k) ∧ Aside0 (wc.heap[gb126]? = some (.cells #[.int .i64 a0_0, .int .u64 a0_1, (.slice A0_2 l0_2.length c0_2)] 51 (0, 0))) ∧ Aside0 (Below w.heap.size w wc))
 case first =>
  have H := HC6.out
  clear HC6
  by_cases c9 : a0_0 < (-1)
  · rw [if_pos c9] at H
    have c9b0 : decide (a0_0 < (-1)) = true := decide_eq_true c9
    clear c9
    (first | rw [c9b0] | (simp only [i64_w, i32_w]; rw [c9b0]) | skip)
    have H' := Aside0.mk H
    clear H
    obtain ⟨hcz10_0, hcz10_1, hcz10_2, hfz10_0, hfz10_1, hfz10_2⟩ := bz3 BK126.out
    go_wp2
    repeat (go_quiet (fail); try go_wp2)
    go_meet
    case rel => exact ⟨_, (true), (by first | rfl | (simp; done) | (simp [*]; done)), H', ⟨by first | omega | exact Nat.le_refl _⟩, ⟨bk BK126.out⟩, ⟨bl⟩⟩
  rw [if_neg c9] at H
  have c9b0 : decide (a0_0 < (-1)) = false := decide_eq_false c9
  clear c9
  (first | rw [c9b0] | (simp only [i64_w, i32_w]; rw [c9b0]) | skip)
  have H' := Aside0.mk H
  clear H
  obtain ⟨hcz11_0, hcz11_1, hcz11_2, hfz11_0, hfz11_1, hfz11_2⟩ := bz3 BK126.out
  go_wp2
  repeat (go_quiet (fail); try go_wp2)
  go_meet
  case rel => exact ⟨_, (decide (a0_0 ≥ (l1.length : Int))), (by first | rfl | (simp; done) | (simp [*]; done)), H', ⟨by first | omega | exact Nat.le_refl _⟩, ⟨bk BK126.out⟩, ⟨bl⟩⟩
 clear HC6
 clear c3 c3b0 c3b1 hcz8_0 hcz8_1 hcz8_2 hfz8_0 hfz8_1 hfz8_2
 obtain ⟨kq, x9_5, rfl, HA, HJ5, BK126, HB⟩ := hcut
 cases kq with
 | zero => exact absurd HA.out (by simp [netlist_gate.j0])
 | succ kj5 =>
  have H := HA.out
  clear HA
  simp only [netlist_gate.j0] at H
  by_cases c12 : x9_5 = true
  · subst c12
    have H1 : (some 7) = some r := by rw [if_pos rfl] at H; exact H
    clear H
    have H := H1
    clear H1
    obtain rfl := Option.some.inj H
    go_wp2
    repeat (go_quiet (fail); try go_wp2)
    go_ret
    exact ⟨by first | rfl | (simp [errW_none, errW_some] <;> rfl) | (simp [*, errW_none, errW_some] <;> rfl), bl⟩
  replace c12 := Bool.eq_false_iff.mpr c12
  subst c12
  have H1 : (if 0 ≤ a0_0 then (if a0_0 < (l1.length : Int) then (if (rd_T48 l1 a0_0).f1 = true then (some 8) else (if ((rd_T48 l1 a0_0).f2) = (l0_2.length : Int) then (if ((rd_T48 l1 a0_0).f3) = a0_1 then (some 0) else (some 4)) else (some 4))) else (none)) else (none)) = some r := by rw [if_neg (show ¬ (false = true) by decide)] at H; exact H
  clear H
  have H := H1
  clear H1
  by_cases c13 : 0 ≤ a0_0
  rotate_left
  · rw [if_neg c13] at H
    exact absurd H (by simp)
  rw [if_pos c13] at H
  have c13b0 : decide (0 ≤ a0_0) = true := decide_eq_true c13
  clear c13
  by_cases c14 : a0_0 < (l1.length : Int)
  rotate_left
  · rw [if_neg c14] at H
    exact absurd H (by simp)
  rw [if_pos c14] at H
  have c14b0 : decide (a0_0 < (l1.length : Int)) = true := decide_eq_true c14
  clear c14
  obtain ⟨bq15, hbq15⟩ : ∃ b_ : Bool, b_ = ((rd_T48 l1 a0_0).f1) := ⟨_, rfl⟩
  replace H : (if bq15 = true then (some 8) else (if ((rd_T48 l1 a0_0).f2) = (l0_2.length : Int) then (if ((rd_T48 l1 a0_0).f3) = a0_1 then (some 0) else (some 4)) else (some 4))) = some r := by rw [← hbq15] at H; exact H
  have Nbq15 := Aside0.mk hbq15
  clear hbq15
  by_cases c16 : bq15 = true
  · subst c16
    have H1 : (some 8) = some r := by rw [if_pos rfl] at H; exact H
    clear H
    have H := H1
    clear H1
    obtain rfl := Option.some.inj H
    obtain ⟨hcz17_0, hcz17_1, hcz17_2, hfz17_0, hfz17_1, hfz17_2⟩ := bz3 BK126.out
    have p127 : 0 ≤ (a0_0 : Int) := of_decide_eq_true (by first | (with_reducible assumption) | assumption)
    have q127 : a0_0 < (l1.length : Int) := of_decide_eq_true (by first | (with_reducible assumption) | assumption)
    obtain ⟨ad127, A127_5, c127_5, A127_6, c127_6, A127_7, c127_7, e127, hx127_0, hx127_1, hx127_2, hx127_3, hx127_4, hx127_5, hx127_6, hx127_7, hx127_8, hx127_9, hx127_10, hl127_5, hi127_5, hl127_6, hi127_6, hl127_7, hi127_7⟩ := at_T48 HR1.out a0_0 p127 q127
    (try rw [← Nbq15.out] at hx127_1)
    cases e127
    replace hx127_0 := hc HB.out hx127_0
    replace hx127_1 := hc HB.out hx127_1
    replace hx127_2 := hc HB.out hx127_2
    replace hx127_3 := hc HB.out hx127_3
    replace hx127_4 := hc HB.out hx127_4
    replace hx127_5 := hc HB.out hx127_5
    replace hx127_6 := hc HB.out hx127_6
    replace hx127_7 := hc HB.out hx127_7
    replace hx127_8 := hc HB.out hx127_8
    replace hx127_9 := hc HB.out hx127_9
    replace hx127_10 := hc HB.out hx127_10
    clear hi127_5 hl127_5
    clear hi127_6 hl127_6
    clear hi127_7 hl127_7
    replace p127 := eq_true p127
    replace q127 := eq_true q127
    go_wp2
    repeat (go_quiet (fail); try go_wp2)
    go_ret
    exact ⟨by first | rfl | (simp [errW_none, errW_some] <;> rfl) | (simp [*, errW_none, errW_some] <;> rfl), bl⟩
  replace c16 := Bool.eq_false_iff.mpr c16
  subst c16
  have H1 : (if ((rd_T48 l1 a0_0).f2) = (l0_2.length : Int) then (if ((rd_T48 l1 a0_0).f3) = a0_1 then (some 0) else (some 4)) else (some 4)) = some r := by rw [if_neg (show ¬ (false = true) by decide)] at H; exact H
  clear H
  have H := H1
  clear H1
  by_cases c18 : ((rd_T48 l1 a0_0).f2) = (l0_2.length : Int)
  rotate_left
  · rw [if_neg c18] at H
    have c18b1 : (((rd_T48 l1 a0_0).f2) != (l0_2.length : Int)) = true := bne_iff_ne.mpr c18
    obtain rfl := Option.some.inj H
    obtain ⟨hcz22_0, hcz22_1, hcz22_2, hfz22_0, hfz22_1, hfz22_2⟩ := bz3 BK126.out
    have p127 : 0 ≤ (a0_0 : Int) := of_decide_eq_true (by first | (with_reducible assumption) | assumption)
    have q127 : a0_0 < (l1.length : Int) := of_decide_eq_true (by first | (with_reducible assumption) | assumption)
    obtain ⟨ad127, A127_5, c127_5, A127_6, c127_6, A127_7, c127_7, e127, hx127_0, hx127_1, hx127_2, hx127_3, hx127_4, hx127_5, hx127_6, hx127_7, hx127_8, hx127_9, hx127_10, hl127_5, hi127_5, hl127_6, hi127_6, hl127_7, hi127_7⟩ := at_T48 HR1.out a0_0 p127 q127
    (try rw [← Nbq15.out] at hx127_1)
    cases e127
    replace hx127_0 := hc HB.out hx127_0
    replace hx127_1 := hc HB.out hx127_1
    replace hx127_2 := hc HB.out hx127_2
    replace hx127_3 := hc HB.out hx127_3
    replace hx127_4 := hc HB.out hx127_4
    replace hx127_5 := hc HB.out hx127_5
    replace hx127_6 := hc HB.out hx127_6
    replace hx127_7 := hc HB.out hx127_7
    replace hx127_8 := hc HB.out hx127_8
    replace hx127_9 := hc HB.out hx127_9
    replace hx127_10 := hc HB.out hx127_10
    clear hi127_5 hl127_5
    clear hi127_6 hl127_6
    clear hi127_7 hl127_7
    replace p127 := eq_true p127
    replace q127 := eq_true q127
    have p128 : 0 ≤ (a0_0 : Int) := of_decide_eq_true (by first | (with_reducible assumption) | assumption)
    have q128 : a0_0 < (l1.length : Int) := of_decide_eq_true (by first | (with_reducible assumption) | assumption)
    obtain ⟨ad128, A128_5, c128_5, A128_6, c128_6, A128_7, c128_7, e128, hx128_0, hx128_1, hx128_2, hx128_3, hx128_4, hx128_5, hx128_6, hx128_7, hx128_8, hx128_9, hx128_10, hl128_5, hi128_5, hl128_6, hi128_6, hl128_7, hi128_7⟩ := at_T48 HR1.out a0_0 p128 q128
    (try rw [← Nbq15.out] at hx128_1)
    obtain rfl : ad127 = ad128 := (by injection e128)
    replace hx128_0 := hc HB.out hx128_0
    replace hx128_1 := hc HB.out hx128_1
    replace hx128_2 := hc HB.out hx128_2
    replace hx128_3 := hc HB.out hx128_3
    replace hx128_4 := hc HB.out hx128_4
    replace hx128_5 := hc HB.out hx128_5
    replace hx128_6 := hc HB.out hx128_6
    replace hx128_7 := hc HB.out hx128_7
    replace hx128_8 := hc HB.out hx128_8
    replace hx128_9 := hc HB.out hx128_9
    replace hx128_10 := hc HB.out hx128_10
    have HR128_5 := Aside0.mk hi128_5
    have HC128_5 := Aside0.mk hl128_5
    clear hi128_5 hl128_5
    have HR128_6 := Aside0.mk hi128_6
    have HC128_6 := Aside0.mk hl128_6
    clear hi128_6 hl128_6
    have HR128_7 := Aside0.mk hi128_7
    have HC128_7 := Aside0.mk hl128_7
    clear hi128_7 hl128_7
    replace p128 := eq_true p128
    replace q128 := eq_true q128
    have ea_ := Option.some.inj (hx127_5.symm.trans hx128_5)
    injection ea_ with ea_ en_ ec_
    subst ea_
    subst ec_
    clear en_
    have ea_ := Option.some.inj (hx127_6.symm.trans hx128_6)
    injection ea_ with ea_ en_ ec_
    subst ea_
    subst ec_
    clear en_
    have ea_ := Option.some.inj (hx127_7.symm.trans hx128_7)
    injection ea_ with ea_ en_ ec_
    subst ea_
    subst ec_
    clear en_
    go_wp2
    repeat (go_quiet (fail); try go_wp2)
    go_ret
    exact ⟨by first | rfl | (simp [errW_none, errW_some] <;> rfl) | (simp [*, errW_none, errW_some] <;> rfl), bl⟩
  rw [if_pos c18] at H
  have c18b0 : (((rd_T48 l1 a0_0).f2) == (l0_2.length : Int)) = true := beq_iff_eq.mpr c18
  have c18b1 : (((rd_T48 l1 a0_0).f2) != (l0_2.length : Int)) = false := bne_eq_false_iff_eq.mpr c18
  clear c18
  by_cases c19 : ((rd_T48 l1 a0_0).f3) = a0_1
  rotate_left
  · rw [if_neg c19] at H
    have c19b1 : (((rd_T48 l1 a0_0).f3) != a0_1) = true := bne_iff_ne.mpr c19
    obtain rfl := Option.some.inj H
    obtain ⟨hcz21_0, hcz21_1, hcz21_2, hfz21_0, hfz21_1, hfz21_2⟩ := bz3 BK126.out
    have p127 : 0 ≤ (a0_0 : Int) := of_decide_eq_true (by first | (with_reducible assumption) | assumption)
    have q127 : a0_0 < (l1.length : Int) := of_decide_eq_true (by first | (with_reducible assumption) | assumption)
    obtain ⟨ad127, A127_5, c127_5, A127_6, c127_6, A127_7, c127_7, e127, hx127_0, hx127_1, hx127_2, hx127_3, hx127_4, hx127_5, hx127_6, hx127_7, hx127_8, hx127_9, hx127_10, hl127_5, hi127_5, hl127_6, hi127_6, hl127_7, hi127_7⟩ := at_T48 HR1.out a0_0 p127 q127
    (try rw [← Nbq15.out] at hx127_1)
    cases e127
    replace hx127_0 := hc HB.out hx127_0
    replace hx127_1 := hc HB.out hx127_1
    replace hx127_2 := hc HB.out hx127_2
    replace hx127_3 := hc HB.out hx127_3
    replace hx127_4 := hc HB.out hx127_4
    replace hx127_5 := hc HB.out hx127_5
    replace hx127_6 := hc HB.out hx127_6
    replace hx127_7 := hc HB.out hx127_7
    replace hx127_8 := hc HB.out hx127_8
    replace hx127_9 := hc HB.out hx127_9
    replace hx127_10 := hc HB.out hx127_10
    clear hi127_5 hl127_5
    clear hi127_6 hl127_6
    clear hi127_7 hl127_7
    replace p127 := eq_true p127
    replace q127 := eq_true q127
    have p128 : 0 ≤ (a0_0 : Int) := of_decide_eq_true (by first | (with_reducible assumption) | assumption)
    have q128 : a0_0 < (l1.length : Int) := of_decide_eq_true (by first | (with_reducible assumption) | assumption)
    obtain ⟨ad128, A128_5, c128_5, A128_6, c128_6, A128_7, c128_7, e128, hx128_0, hx128_1, hx128_2, hx128_3, hx128_4, hx128_5, hx128_6, hx128_7, hx128_8, hx128_9, hx128_10, hl128_5, hi128_5, hl128_6, hi128_6, hl128_7, hi128_7⟩ := at_T48 HR1.out a0_0 p128 q128
    (try rw [← Nbq15.out] at hx128_1)
    obtain rfl : ad127 = ad128 := (by injection e128)
    replace hx128_0 := hc HB.out hx128_0
    replace hx128_1 := hc HB.out hx128_1
    replace hx128_2 := hc HB.out hx128_2
    replace hx128_3 := hc HB.out hx128_3
    replace hx128_4 := hc HB.out hx128_4
    replace hx128_5 := hc HB.out hx128_5
    replace hx128_6 := hc HB.out hx128_6
    replace hx128_7 := hc HB.out hx128_7
    replace hx128_8 := hc HB.out hx128_8
    replace hx128_9 := hc HB.out hx128_9
    replace hx128_10 := hc HB.out hx128_10
    have HR128_5 := Aside0.mk hi128_5
    have HC128_5 := Aside0.mk hl128_5
    clear hi128_5 hl128_5
    have HR128_6 := Aside0.mk hi128_6
    have HC128_6 := Aside0.mk hl128_6
    clear hi128_6 hl128_6
    have HR128_7 := Aside0.mk hi128_7
    have HC128_7 := Aside0.mk hl128_7
    clear hi128_7 hl128_7
    replace p128 := eq_true p128
    replace q128 := eq_true q128
    have ea_ := Option.some.inj (hx127_5.symm.trans hx128_5)
    injection ea_ with ea_ en_ ec_
    subst ea_
    subst ec_
    clear en_
    have ea_ := Option.some.inj (hx127_6.symm.trans hx128_6)
    injection ea_ with ea_ en_ ec_
    subst ea_
    subst ec_
    clear en_
    have ea_ := Option.some.inj (hx127_7.symm.trans hx128_7)
    injection ea_ with ea_ en_ ec_
    subst ea_
    subst ec_
    clear en_
    have p129 : 0 ≤ (a0_0 : Int) := of_decide_eq_true (by first | (with_reducible assumption) | assumption)
    have q129 : a0_0 < (l1.length : Int) := of_decide_eq_true (by first | (with_reducible assumption) | assumption)
    obtain ⟨ad129, A129_5, c129_5, A129_6, c129_6, A129_7, c129_7, e129, hx129_0, hx129_1, hx129_2, hx129_3, hx129_4, hx129_5, hx129_6, hx129_7, hx129_8, hx129_9, hx129_10, hl129_5, hi129_5, hl129_6, hi129_6, hl129_7, hi129_7⟩ := at_T48 HR1.out a0_0 p129 q129
    (try rw [← Nbq15.out] at hx129_1)
    obtain rfl : ad127 = ad129 := (by injection e129)
    replace hx129_0 := hc HB.out hx129_0
    replace hx129_1 := hc HB.out hx129_1
    replace hx129_2 := hc HB.out hx129_2
    replace hx129_3 := hc HB.out hx129_3
    replace hx129_4 := hc HB.out hx129_4
    replace hx129_5 := hc HB.out hx129_5
    replace hx129_6 := hc HB.out hx129_6
    replace hx129_7 := hc HB.out hx129_7
    replace hx129_8 := hc HB.out hx129_8
    replace hx129_9 := hc HB.out hx129_9
    replace hx129_10 := hc HB.out hx129_10
    have HR129_5 := Aside0.mk hi129_5
    have HC129_5 := Aside0.mk hl129_5
    clear hi129_5 hl129_5
    have HR129_6 := Aside0.mk hi129_6
    have HC129_6 := Aside0.mk hl129_6
    clear hi129_6 hl129_6
    have HR129_7 := Aside0.mk hi129_7
    have HC129_7 := Aside0.mk hl129_7
    clear hi129_7 hl129_7
    replace p129 := eq_true p129
    replace q129 := eq_true q129
    have ea_ := Option.some.inj (hx127_5.symm.trans hx129_5)
    injection ea_ with ea_ en_ ec_
    subst ea_
    subst ec_
    clear en_
    have ea_ := Option.some.inj (hx127_6.symm.trans hx129_6)
    injection ea_ with ea_ en_ ec_
    subst ea_
    subst ec_
    clear en_
    have ea_ := Option.some.inj (hx127_7.symm.trans hx129_7)
    injection ea_ with ea_ en_ ec_
    subst ea_
    subst ec_
    clear en_
    go_wp2
    repeat (go_quiet (fail); try go_wp2)
    go_ret
    exact ⟨by first | rfl | (simp [errW_none, errW_some] <;> rfl) | (simp [*, errW_none, errW_some] <;> rfl), bl⟩
  rw [if_pos c19] at H
  have c19b1 : (((rd_T48 l1 a0_0).f3) != a0_1) = false := bne_eq_false_iff_eq.mpr c19
  clear c19
  obtain rfl := Option.some.inj H
  obtain ⟨hcz20_0, hcz20_1, hcz20_2, hfz20_0, hfz20_1, hfz20_2⟩ := bz3 BK126.out
  have p127 : 0 ≤ (a0_0 : Int) := of_decide_eq_true (by first | (with_reducible assumption) | assumption)
  have q127 : a0_0 < (l1.length : Int) := of_decide_eq_true (by first | (with_reducible assumption) | assumption)
  obtain ⟨ad127, A127_5, c127_5, A127_6, c127_6, A127_7, c127_7, e127, hx127_0, hx127_1, hx127_2, hx127_3, hx127_4, hx127_5, hx127_6, hx127_7, hx127_8, hx127_9, hx127_10, hl127_5, hi127_5, hl127_6, hi127_6, hl127_7, hi127_7⟩ := at_T48 HR1.out a0_0 p127 q127
  (try rw [← Nbq15.out] at hx127_1)
  cases e127
  replace hx127_0 := hc HB.out hx127_0
  replace hx127_1 := hc HB.out hx127_1
  replace hx127_2 := hc HB.out hx127_2
  replace hx127_3 := hc HB.out hx127_3
  replace hx127_4 := hc HB.out hx127_4
  replace hx127_5 := hc HB.out hx127_5
  replace hx127_6 := hc HB.out hx127_6
  replace hx127_7 := hc HB.out hx127_7
  replace hx127_8 := hc HB.out hx127_8
  replace hx127_9 := hc HB.out hx127_9
  replace hx127_10 := hc HB.out hx127_10
  clear hi127_5 hl127_5
  clear hi127_6 hl127_6
  clear hi127_7 hl127_7
  replace p127 := eq_true p127
  replace q127 := eq_true q127
  have p128 : 0 ≤ (a0_0 : Int) := of_decide_eq_true (by first | (with_reducible assumption) | assumption)
  have q128 : a0_0 < (l1.length : Int) := of_decide_eq_true (by first | (with_reducible assumption) | assumption)
  obtain ⟨ad128, A128_5, c128_5, A128_6, c128_6, A128_7, c128_7, e128, hx128_0, hx128_1, hx128_2, hx128_3, hx128_4, hx128_5, hx128_6, hx128_7, hx128_8, hx128_9, hx128_10, hl128_5, hi128_5, hl128_6, hi128_6, hl128_7, hi128_7⟩ := at_T48 HR1.out a0_0 p128 q128
  (try rw [← Nbq15.out] at hx128_1)
  obtain rfl : ad127 = ad128 := (by injection e128)
  replace hx128_0 := hc HB.out hx128_0
  replace hx128_1 := hc HB.out hx128_1
  replace hx128_2 := hc HB.out hx128_2
  replace hx128_3 := hc HB.out hx128_3
  replace hx128_4 := hc HB.out hx128_4
  replace hx128_5 := hc HB.out hx128_5
  replace hx128_6 := hc HB.out hx128_6
  replace hx128_7 := hc HB.out hx128_7
  replace hx128_8 := hc HB.out hx128_8
  replace hx128_9 := hc HB.out hx128_9
  replace hx128_10 := hc HB.out hx128_10
  have HR128_5 := Aside0.mk hi128_5
  have HC128_5 := Aside0.mk hl128_5
  clear hi128_5 hl128_5
  have HR128_6 := Aside0.mk hi128_6
  have HC128_6 := Aside0.mk hl128_6
  clear hi128_6 hl128_6
  have HR128_7 := Aside0.mk hi128_7
  have HC128_7 := Aside0.mk hl128_7
  clear hi128_7 hl128_7
  replace p128 := eq_true p128
  replace q128 := eq_true q128
  have ea_ := Option.some.inj (hx127_5.symm.trans hx128_5)
  injection ea_ with ea_ en_ ec_
  subst ea_
  subst ec_
  clear en_
  have ea_ := Option.some.inj (hx127_6.symm.trans hx128_6)
  injection ea_ with ea_ en_ ec_
  subst ea_
  subst ec_
  clear en_
  have ea_ := Option.some.inj (hx127_7.symm.trans hx128_7)
  injection ea_ with ea_ en_ ec_
  subst ea_
  subst ec_
  clear en_
  have p129 : 0 ≤ (a0_0 : Int) := of_decide_eq_true (by first | (with_reducible assumption) | assumption)
  have q129 : a0_0 < (l1.length : Int) := of_decide_eq_true (by first | (with_reducible assumption) | assumption)
  obtain ⟨ad129, A129_5, c129_5, A129_6, c129_6, A129_7, c129_7, e129, hx129_0, hx129_1, hx129_2, hx129_3, hx129_4, hx129_5, hx129_6, hx129_7, hx129_8, hx129_9, hx129_10, hl129_5, hi129_5, hl129_6, hi129_6, hl129_7, hi129_7⟩ := at_T48 HR1.out a0_0 p129 q129
  (try rw [← Nbq15.out] at hx129_1)
  obtain rfl : ad127 = ad129 := (by injection e129)
  replace hx129_0 := hc HB.out hx129_0
  replace hx129_1 := hc HB.out hx129_1
  replace hx129_2 := hc HB.out hx129_2
  replace hx129_3 := hc HB.out hx129_3
  replace hx129_4 := hc HB.out hx129_4
  replace hx129_5 := hc HB.out hx129_5
  replace hx129_6 := hc HB.out hx129_6
  replace hx129_7 := hc HB.out hx129_7
  replace hx129_8 := hc HB.out hx129_8
  replace hx129_9 := hc HB.out hx129_9
  replace hx129_10 := hc HB.out hx129_10
  have HR129_5 := Aside0.mk hi129_5
  have HC129_5 := Aside0.mk hl129_5
  clear hi129_5 hl129_5
  have HR129_6 := Aside0.mk hi129_6
  have HC129_6 := Aside0.mk hl129_6
  clear hi129_6 hl129_6
  have HR129_7 := Aside0.mk hi129_7
  have HC129_7 := Aside0.mk hl129_7
  clear hi129_7 hl129_7
  replace p129 := eq_true p129
  replace q129 := eq_true q129
  have ea_ := Option.some.inj (hx127_5.symm.trans hx129_5)
  injection ea_ with ea_ en_ ec_
  subst ea_
  subst ec_
  clear en_
  have ea_ := Option.some.inj (hx127_6.symm.trans hx129_6)
  injection ea_ with ea_ en_ ec_
  subst ea_
  subst ec_
  clear en_
  have ea_ := Option.some.inj (hx127_7.symm.trans hx129_7)
  injection ea_ with ea_ en_ ec_
  subst ea_
  subst ec_
  clear en_
  go_wp2
  repeat (go_quiet (fail); try go_wp2)
  go_ret
  exact ⟨by first | rfl | (simp [errW_none, errW_some] <;> rfl) | (simp [*, errW_none, errW_some] <;> rfl), bl⟩

end Go.Proofs.YtpkpmdmmnhmnlaaDoor.PT
namespace Go.Proofs.YtpkpmdmmnhmnlaaDoor.PT
open Go.RowKit Go.Proofs.YtpkpmdmmnhmnlaaDoorW.PrintWords Go.Proofs.YtpkpmdmmnhmnlaaDoorW.PrintLast Go.Proofs.YtpkpmdmmnhmnlaaDoorW.PrintMore
attribute [local go_sem] max2_int min2_int max_two min_two max_three min_three max_four min_four   -- for this text's walks alone
set_option linter.unusedVariables false
set_option linter.unusedSimpArgs false

/-! ### netlist_flop: function 42 -/
def netlist_flop.j0 : Nat → List (S48) → Bool → ByteArray → Int → Int → Int → Bool → Option (Int)
 | 0, _, _, _, _, _, _, _ => none
 | k + 1, x1, x9, x131000, x131001, x131002, x131003, x131004 => if x9 = true then (some 7) else (if 0 ≤ x131001 then (if x131001 < (x1.length : Int) then (if ((rd_T48 x1 x131001).f1 = true) then (if ((rd_T48 x1 x131001).f2) = 1 then (if x131003 = 1 then (some 0) else (some 4)) else (some 0)) else (some 8)) else (none)) else (none))
def netlist_flop.f (k : Nat) (a0_0 : ByteArray) (a0_1 : Int) (a0_2 : Int) (a0_3 : Int) (a0_4 : Bool) (l1 : List (S48)) : Option (Int) := if a0_1 = (-1) then (some 0) else (if a0_1 < (-1) then (netlist_flop.j0 k l1 true a0_0 a0_1 a0_2 a0_3 a0_4) else (netlist_flop.j0 k l1 (decide (a0_1 ≥ (l1.length : Int))) a0_0 a0_1 a0_2 a0_3 a0_4))
theorem netlist_flop.mono_l : ∀ k, (∀ y0 y1 y2 y3 y4 y5 y6, LeO (netlist_flop.j0 k y0 y1 y2 y3 y4 y5 y6) (netlist_flop.j0 (k + 1) y0 y1 y2 y3 y4 y5 y6))
 | 0 => fun _ _ _ _ _ _ _ r h => by simp [netlist_flop.j0] at h
 | k + 1 => by
  have ih0 := netlist_flop.mono_l k
  · intro y0 y1 y2 y3 y4 y5 y6
    unfold netlist_flop.j0
    repeat' first
    | (with_reducible exact ih0 _ _ _ _ _ _ _)
    | (with_reducible exact LeO.refl _)
    | (with_reducible exact LeO.none _)
    | (with_reducible refine LeO.ite ?_ ?_)
    | (with_reducible refine LeO.bind ?_ (fun _ => ?_))
theorem netlist_flop.mono : ∀ a0 a1 a2 a3 a4 a5 k, LeO (netlist_flop.f k a0 a1 a2 a3 a4 a5) (netlist_flop.f (k + 1) a0 a1 a2 a3 a4 a5) := by
 intro a0 a1 a2 a3 a4 a5 k
 have ih0 := netlist_flop.mono_l k
 unfold netlist_flop.f
 repeat' first
  | (with_reducible exact ih0 _ _ _ _ _ _ _)
  | (with_reducible exact LeO.refl _)
  | (with_reducible exact LeO.none _)
  | (with_reducible refine LeO.ite ?_ ?_)
  | (with_reducible refine LeO.bind ?_ (fun _ => ?_))
set_option maxHeartbeats 8000000 in
set_option maxRecDepth 100000 in
theorem netlist_flop.calls (k : Nat) (a0_0 : ByteArray) (a0_1 : Int) (a0_2 : Int) (a0_3 : Int) (a0_4 : Bool) (A1 : Option Addr) (c1 : Nat) (l1 : List (S48)) (r : Int) (w : World) (hr1 : Kd.C k48 w A1 l1.length l1) (hc1 : l1.length ≤ c1) (h : netlist_flop.f k a0_0 a0_1 a0_2 a0_3 a0_4 l1 = some r) :
 Calls Tryd.prog 42 #[.agg #[.string a0_0, .int .i64 a0_1, .int .i64 a0_2, .int .i64 a0_3, .bool a0_4], .slice A1 l1.length c1] w fun e w' => e = .returned (.int .i64 r) ∧ Below w.heap.size w w' := by
 have HR1 := Aside0.mk hr1
 clear hr1 hc1
 have HB := Aside0.mk (Below.refl w.heap.size w)
 have H : (if a0_1 = (-1) then (some 0) else (if a0_1 < (-1) then (netlist_flop.j0 k l1 true a0_0 a0_1 a0_2 a0_3 a0_4) else (netlist_flop.j0 k l1 (decide (a0_1 ≥ (l1.length : Int))) a0_0 a0_1 a0_2 a0_3 a0_4))) = some r := h
 clear h
 by_cases c3 : a0_1 = (-1)
 · rw [if_pos c3] at H
   have c3b0 : (a0_1 == (-1)) = true := beq_iff_eq.mpr c3
   clear c3
   obtain rfl := Option.some.inj H
   go_enter Tryd.func42, Tryd.ntmps42
   go_wp2_with ((with_reducible refine gate_dst (N := 2) rfl ?_); (try (refine gate_guard (by rfl) ?_; dsimp only)); refine box_event ?hg (N := 2) ?hd (cs := #[.string a0_0, .int .i64 a0_1, .int .i64 a0_2, .int .i64 a0_3, .bool a0_4]) (t := 44) ?hr ?_; (case hd => rfl); (case hg => rfl); (case hr => first | (go_simp; done) | (go_simp; rfl)); intro gb130 hg w4 hbox hb; have BK130 := Aside0.mk (hbox); replace HB := Aside0.mk (below_step bl hb); clear hb hbox hg; obtain ⟨hcz5_0, hcz5_1, hcz5_2, hcz5_3, hcz5_4, hfz5_0, hfz5_1, hfz5_2, hfz5_3, hfz5_4⟩ := bz5 BK130.out)
   go_ret
   exact ⟨by first | rfl | (simp [errW_none, errW_some] <;> rfl) | (simp [*, errW_none, errW_some] <;> rfl), bl⟩
 rw [if_neg c3] at H
 have c3b0 : (a0_1 == (-1)) = false := beq_eq_false_iff_ne.mpr c3
 have c3b1 : (a0_1 != (-1)) = true := bne_iff_ne.mpr c3
 have HC6 := Aside0.mk H
 clear H
 go_enter Tryd.func42, Tryd.ntmps42
 go_upto_region 3 with (first | ((with_reducible refine gate_dst (N := 2) rfl ?_); (try (refine gate_guard (by rfl) ?_; dsimp only)); refine box_event ?hg (N := 2) ?hd (cs := #[.string a0_0, .int .i64 a0_1, .int .i64 a0_2, .int .i64 a0_3, .bool a0_4]) (t := 44) ?hr ?_; (case hd => rfl); (case hg => rfl); (case hr => first | (go_simp; done) | (go_simp; rfl)); intro gb130 hg w7 hbox hb; have BK130 := Aside0.mk (hbox); replace HB := Aside0.mk (below_step bl hb); clear hb hbox hg; obtain ⟨hcz8_0, hcz8_1, hcz8_2, hcz8_3, hcz8_4, hfz8_0, hfz8_1, hfz8_2, hfz8_3, hfz8_4⟩ := bz5 BK130.out))
 (try simp only [Act.put, List.setIfInBounds_toArray, List.set_cons_zero, List.set_cons_succ])
 go_cut [9] (fun v9 wc => ∃ (kq : Nat) (x9_5 : Bool), v9 = .bool x9_5 ∧ Aside0 (netlist_flop.j0 kq l1 x9_5 a0_0 a0_1 a0_2 a0_3 a0_4 = some r) ∧ Aside0 (kq ≤ k) ∧ Aside0 (wc.heap[gb130]? = some (.cells #[.string a0_0, .int .i64 a0_1, .int .i64 a0_2, .int .i64 a0_3, .bool a0_4] 44 (0, 0))) ∧ Aside0 (Below w.heap.size w wc))
 case first =>
  have H := HC6.out
  clear HC6
  by_cases c9 : a0_1 < (-1)
  · rw [if_pos c9] at H
    have c9b0 : decide (a0_1 < (-1)) = true := decide_eq_true c9
    clear c9
    (first | rw [c9b0] | (simp only [i64_w, i32_w]; rw [c9b0]) | skip)
    have H' := Aside0.mk H
    clear H
    obtain ⟨hcz10_0, hcz10_1, hcz10_2, hcz10_3, hcz10_4, hfz10_0, hfz10_1, hfz10_2, hfz10_3, hfz10_4⟩ := bz5 BK130.out
    go_wp2
    go_meet
    case rel => exact ⟨_, (true), (by first | rfl | (simp; done) | (simp [*]; done)), H', ⟨by first | omega | exact Nat.le_refl _⟩, ⟨bk BK130.out⟩, ⟨bl⟩⟩
  rw [if_neg c9] at H
  have c9b0 : decide (a0_1 < (-1)) = false := decide_eq_false c9
  clear c9
  (first | rw [c9b0] | (simp only [i64_w, i32_w]; rw [c9b0]) | skip)
  have H' := Aside0.mk H
  clear H
  obtain ⟨hcz11_0, hcz11_1, hcz11_2, hcz11_3, hcz11_4, hfz11_0, hfz11_1, hfz11_2, hfz11_3, hfz11_4⟩ := bz5 BK130.out
  go_wp2
  go_meet
  case rel => exact ⟨_, (decide (a0_1 ≥ (l1.length : Int))), (by first | rfl | (simp; done) | (simp [*]; done)), H', ⟨by first | omega | exact Nat.le_refl _⟩, ⟨bk BK130.out⟩, ⟨bl⟩⟩
 clear HC6
 clear c3 c3b0 c3b1 hcz8_0 hcz8_1 hcz8_2 hcz8_3 hcz8_4 hfz8_0 hfz8_1 hfz8_2 hfz8_3 hfz8_4
 obtain ⟨kq, x9_5, rfl, HA, HJ5, BK130, HB⟩ := hcut
 cases kq with
 | zero => exact absurd HA.out (by simp [netlist_flop.j0])
 | succ kj5 =>
  have H := HA.out
  clear HA
  simp only [netlist_flop.j0] at H
  by_cases c12 : x9_5 = true
  · subst c12
    have H1 : (some 7) = some r := by rw [if_pos rfl] at H; exact H
    clear H
    have H := H1
    clear H1
    obtain rfl := Option.some.inj H
    go_wp2
    go_ret
    exact ⟨by first | rfl | (simp [errW_none, errW_some] <;> rfl) | (simp [*, errW_none, errW_some] <;> rfl), bl⟩
  replace c12 := Bool.eq_false_iff.mpr c12
  subst c12
  have H1 : (if 0 ≤ a0_1 then (if a0_1 < (l1.length : Int) then (if ((rd_T48 l1 a0_1).f1 = true) then (if ((rd_T48 l1 a0_1).f2) = 1 then (if a0_3 = 1 then (some 0) else (some 4)) else (some 0)) else (some 8)) else (none)) else (none)) = some r := by rw [if_neg (show ¬ (false = true) by decide)] at H; exact H
  clear H
  have H := H1
  clear H1
  by_cases c13 : 0 ≤ a0_1
  rotate_left
  · rw [if_neg c13] at H
    exact absurd H (by simp)
  rw [if_pos c13] at H
  have c13b0 : decide (0 ≤ a0_1) = true := decide_eq_true c13
  clear c13
  by_cases c14 : a0_1 < (l1.length : Int)
  rotate_left
  · rw [if_neg c14] at H
    exact absurd H (by simp)
  rw [if_pos c14] at H
  have c14b0 : decide (a0_1 < (l1.length : Int)) = true := decide_eq_true c14
  clear c14
  obtain ⟨bq15, hbq15⟩ : ∃ b_ : Bool, b_ = ((rd_T48 l1 a0_1).f1) := ⟨_, rfl⟩
  replace H : (if (bq15 = true) then (if ((rd_T48 l1 a0_1).f2) = 1 then (if a0_3 = 1 then (some 0) else (some 4)) else (some 0)) else (some 8)) = some r := by rw [← hbq15] at H; exact H
  have Nbq15 := Aside0.mk hbq15
  clear hbq15
  by_cases c16 : (bq15 = true)
  rotate_left
  · replace c16 := Bool.eq_false_iff.mpr c16
    subst c16
    have H1 : (some 8) = some r := by rw [if_neg (show ¬ (false = true) by decide)] at H; exact H
    clear H
    have H := H1
    clear H1
    obtain rfl := Option.some.inj H
    obtain ⟨hcz22_0, hcz22_1, hcz22_2, hcz22_3, hcz22_4, hfz22_0, hfz22_1, hfz22_2, hfz22_3, hfz22_4⟩ := bz5 BK130.out
    have p131 : 0 ≤ (a0_1 : Int) := of_decide_eq_true (by first | (with_reducible assumption) | assumption)
    have q131 : a0_1 < (l1.length : Int) := of_decide_eq_true (by first | (with_reducible assumption) | assumption)
    obtain ⟨ad131, A131_5, c131_5, A131_6, c131_6, A131_7, c131_7, e131, hx131_0, hx131_1, hx131_2, hx131_3, hx131_4, hx131_5, hx131_6, hx131_7, hx131_8, hx131_9, hx131_10, hl131_5, hi131_5, hl131_6, hi131_6, hl131_7, hi131_7⟩ := at_T48 HR1.out a0_1 p131 q131
    (try rw [← Nbq15.out] at hx131_1)
    cases e131
    replace hx131_0 := hc HB.out hx131_0
    replace hx131_1 := hc HB.out hx131_1
    replace hx131_2 := hc HB.out hx131_2
    replace hx131_3 := hc HB.out hx131_3
    replace hx131_4 := hc HB.out hx131_4
    replace hx131_5 := hc HB.out hx131_5
    replace hx131_6 := hc HB.out hx131_6
    replace hx131_7 := hc HB.out hx131_7
    replace hx131_8 := hc HB.out hx131_8
    replace hx131_9 := hc HB.out hx131_9
    replace hx131_10 := hc HB.out hx131_10
    clear hi131_5 hl131_5
    clear hi131_6 hl131_6
    clear hi131_7 hl131_7
    replace p131 := eq_true p131
    replace q131 := eq_true q131
    go_wp2
    go_ret
    exact ⟨by first | rfl | (simp [errW_none, errW_some] <;> rfl) | (simp [*, errW_none, errW_some] <;> rfl), bl⟩
  subst c16
  have H1 : (if ((rd_T48 l1 a0_1).f2) = 1 then (if a0_3 = 1 then (some 0) else (some 4)) else (some 0)) = some r := by rw [if_pos rfl] at H; exact H
  clear H
  have H := H1
  clear H1
  by_cases c17 : ((rd_T48 l1 a0_1).f2) = 1
  rotate_left
  · rw [if_neg c17] at H
    have c17b0 : (((rd_T48 l1 a0_1).f2) == 1) = false := beq_eq_false_iff_ne.mpr c17
    obtain rfl := Option.some.inj H
    obtain ⟨hcz21_0, hcz21_1, hcz21_2, hcz21_3, hcz21_4, hfz21_0, hfz21_1, hfz21_2, hfz21_3, hfz21_4⟩ := bz5 BK130.out
    have p131 : 0 ≤ (a0_1 : Int) := of_decide_eq_true (by first | (with_reducible assumption) | assumption)
    have q131 : a0_1 < (l1.length : Int) := of_decide_eq_true (by first | (with_reducible assumption) | assumption)
    obtain ⟨ad131, A131_5, c131_5, A131_6, c131_6, A131_7, c131_7, e131, hx131_0, hx131_1, hx131_2, hx131_3, hx131_4, hx131_5, hx131_6, hx131_7, hx131_8, hx131_9, hx131_10, hl131_5, hi131_5, hl131_6, hi131_6, hl131_7, hi131_7⟩ := at_T48 HR1.out a0_1 p131 q131
    (try rw [← Nbq15.out] at hx131_1)
    cases e131
    replace hx131_0 := hc HB.out hx131_0
    replace hx131_1 := hc HB.out hx131_1
    replace hx131_2 := hc HB.out hx131_2
    replace hx131_3 := hc HB.out hx131_3
    replace hx131_4 := hc HB.out hx131_4
    replace hx131_5 := hc HB.out hx131_5
    replace hx131_6 := hc HB.out hx131_6
    replace hx131_7 := hc HB.out hx131_7
    replace hx131_8 := hc HB.out hx131_8
    replace hx131_9 := hc HB.out hx131_9
    replace hx131_10 := hc HB.out hx131_10
    clear hi131_5 hl131_5
    clear hi131_6 hl131_6
    clear hi131_7 hl131_7
    replace p131 := eq_true p131
    replace q131 := eq_true q131
    have p132 : 0 ≤ (a0_1 : Int) := of_decide_eq_true (by first | (with_reducible assumption) | assumption)
    have q132 : a0_1 < (l1.length : Int) := of_decide_eq_true (by first | (with_reducible assumption) | assumption)
    obtain ⟨ad132, A132_5, c132_5, A132_6, c132_6, A132_7, c132_7, e132, hx132_0, hx132_1, hx132_2, hx132_3, hx132_4, hx132_5, hx132_6, hx132_7, hx132_8, hx132_9, hx132_10, hl132_5, hi132_5, hl132_6, hi132_6, hl132_7, hi132_7⟩ := at_T48 HR1.out a0_1 p132 q132
    (try rw [← Nbq15.out] at hx132_1)
    obtain rfl : ad131 = ad132 := (by injection e132)
    replace hx132_0 := hc HB.out hx132_0
    replace hx132_1 := hc HB.out hx132_1
    replace hx132_2 := hc HB.out hx132_2
    replace hx132_3 := hc HB.out hx132_3
    replace hx132_4 := hc HB.out hx132_4
    replace hx132_5 := hc HB.out hx132_5
    replace hx132_6 := hc HB.out hx132_6
    replace hx132_7 := hc HB.out hx132_7
    replace hx132_8 := hc HB.out hx132_8
    replace hx132_9 := hc HB.out hx132_9
    replace hx132_10 := hc HB.out hx132_10
    have HR132_5 := Aside0.mk hi132_5
    have HC132_5 := Aside0.mk hl132_5
    clear hi132_5 hl132_5
    have HR132_6 := Aside0.mk hi132_6
    have HC132_6 := Aside0.mk hl132_6
    clear hi132_6 hl132_6
    have HR132_7 := Aside0.mk hi132_7
    have HC132_7 := Aside0.mk hl132_7
    clear hi132_7 hl132_7
    replace p132 := eq_true p132
    replace q132 := eq_true q132
    have ea_ := Option.some.inj (hx131_5.symm.trans hx132_5)
    injection ea_ with ea_ en_ ec_
    subst ea_
    subst ec_
    clear en_
    have ea_ := Option.some.inj (hx131_6.symm.trans hx132_6)
    injection ea_ with ea_ en_ ec_
    subst ea_
    subst ec_
    clear en_
    have ea_ := Option.some.inj (hx131_7.symm.trans hx132_7)
    injection ea_ with ea_ en_ ec_
    subst ea_
    subst ec_
    clear en_
    go_wp2
    go_ret
    exact ⟨by first | rfl | (simp [errW_none, errW_some] <;> rfl) | (simp [*, errW_none, errW_some] <;> rfl), bl⟩
  rw [if_pos c17] at H
  have c17b0 : (((rd_T48 l1 a0_1).f2) == 1) = true := beq_iff_eq.mpr c17
  have c17b1 : (((rd_T48 l1 a0_1).f2) != 1) = false := bne_eq_false_iff_eq.mpr c17
  clear c17
  by_cases c18 : a0_3 = 1
  rotate_left
  · rw [if_neg c18] at H
    have c18b1 : (a0_3 != 1) = true := bne_iff_ne.mpr c18
    obtain rfl := Option.some.inj H
    obtain ⟨hcz20_0, hcz20_1, hcz20_2, hcz20_3, hcz20_4, hfz20_0, hfz20_1, hfz20_2, hfz20_3, hfz20_4⟩ := bz5 BK130.out
    have p131 : 0 ≤ (a0_1 : Int) := of_decide_eq_true (by first | (with_reducible assumption) | assumption)
    have q131 : a0_1 < (l1.length : Int) := of_decide_eq_true (by first | (with_reducible assumption) | assumption)
    obtain ⟨ad131, A131_5, c131_5, A131_6, c131_6, A131_7, c131_7, e131, hx131_0, hx131_1, hx131_2, hx131_3, hx131_4, hx131_5, hx131_6, hx131_7, hx131_8, hx131_9, hx131_10, hl131_5, hi131_5, hl131_6, hi131_6, hl131_7, hi131_7⟩ := at_T48 HR1.out a0_1 p131 q131
    (try rw [← Nbq15.out] at hx131_1)
    cases e131
    replace hx131_0 := hc HB.out hx131_0
    replace hx131_1 := hc HB.out hx131_1
    replace hx131_2 := hc HB.out hx131_2
    replace hx131_3 := hc HB.out hx131_3
    replace hx131_4 := hc HB.out hx131_4
    replace hx131_5 := hc HB.out hx131_5
    replace hx131_6 := hc HB.out hx131_6
    replace hx131_7 := hc HB.out hx131_7
    replace hx131_8 := hc HB.out hx131_8
    replace hx131_9 := hc HB.out hx131_9
    replace hx131_10 := hc HB.out hx131_10
    clear hi131_5 hl131_5
    clear hi131_6 hl131_6
    clear hi131_7 hl131_7
    replace p131 := eq_true p131
    replace q131 := eq_true q131
    have p132 : 0 ≤ (a0_1 : Int) := of_decide_eq_true (by first | (with_reducible assumption) | assumption)
    have q132 : a0_1 < (l1.length : Int) := of_decide_eq_true (by first | (with_reducible assumption) | assumption)
    obtain ⟨ad132, A132_5, c132_5, A132_6, c132_6, A132_7, c132_7, e132, hx132_0, hx132_1, hx132_2, hx132_3, hx132_4, hx132_5, hx132_6, hx132_7, hx132_8, hx132_9, hx132_10, hl132_5, hi132_5, hl132_6, hi132_6, hl132_7, hi132_7⟩ := at_T48 HR1.out a0_1 p132 q132
    (try rw [← Nbq15.out] at hx132_1)
    obtain rfl : ad131 = ad132 := (by injection e132)
    replace hx132_0 := hc HB.out hx132_0
    replace hx132_1 := hc HB.out hx132_1
    replace hx132_2 := hc HB.out hx132_2
    replace hx132_3 := hc HB.out hx132_3
    replace hx132_4 := hc HB.out hx132_4
    replace hx132_5 := hc HB.out hx132_5
    replace hx132_6 := hc HB.out hx132_6
    replace hx132_7 := hc HB.out hx132_7
    replace hx132_8 := hc HB.out hx132_8
    replace hx132_9 := hc HB.out hx132_9
    replace hx132_10 := hc HB.out hx132_10
    have HR132_5 := Aside0.mk hi132_5
    have HC132_5 := Aside0.mk hl132_5
    clear hi132_5 hl132_5
    have HR132_6 := Aside0.mk hi132_6
    have HC132_6 := Aside0.mk hl132_6
    clear hi132_6 hl132_6
    have HR132_7 := Aside0.mk hi132_7
    have HC132_7 := Aside0.mk hl132_7
    clear hi132_7 hl132_7
    replace p132 := eq_true p132
    replace q132 := eq_true q132
    have ea_ := Option.some.inj (hx131_5.symm.trans hx132_5)
    injection ea_ with ea_ en_ ec_
    subst ea_
    subst ec_
    clear en_
    have ea_ := Option.some.inj (hx131_6.symm.trans hx132_6)
    injection ea_ with ea_ en_ ec_
    subst ea_
    subst ec_
    clear en_
    have ea_ := Option.some.inj (hx131_7.symm.trans hx132_7)
    injection ea_ with ea_ en_ ec_
    subst ea_
    subst ec_
    clear en_
    go_wp2
    go_ret
    exact ⟨by first | rfl | (simp [errW_none, errW_some] <;> rfl) | (simp [*, errW_none, errW_some] <;> rfl), bl⟩
  rw [if_pos c18] at H
  have c18b1 : (a0_3 != 1) = false := bne_eq_false_iff_eq.mpr c18
  clear c18
  obtain rfl := Option.some.inj H
  obtain ⟨hcz19_0, hcz19_1, hcz19_2, hcz19_3, hcz19_4, hfz19_0, hfz19_1, hfz19_2, hfz19_3, hfz19_4⟩ := bz5 BK130.out
  have p131 : 0 ≤ (a0_1 : Int) := of_decide_eq_true (by first | (with_reducible assumption) | assumption)
  have q131 : a0_1 < (l1.length : Int) := of_decide_eq_true (by first | (with_reducible assumption) | assumption)
  obtain ⟨ad131, A131_5, c131_5, A131_6, c131_6, A131_7, c131_7, e131, hx131_0, hx131_1, hx131_2, hx131_3, hx131_4, hx131_5, hx131_6, hx131_7, hx131_8, hx131_9, hx131_10, hl131_5, hi131_5, hl131_6, hi131_6, hl131_7, hi131_7⟩ := at_T48 HR1.out a0_1 p131 q131
  (try rw [← Nbq15.out] at hx131_1)
  cases e131
  replace hx131_0 := hc HB.out hx131_0
  replace hx131_1 := hc HB.out hx131_1
  replace hx131_2 := hc HB.out hx131_2
  replace hx131_3 := hc HB.out hx131_3
  replace hx131_4 := hc HB.out hx131_4
  replace hx131_5 := hc HB.out hx131_5
  replace hx131_6 := hc HB.out hx131_6
  replace hx131_7 := hc HB.out hx131_7
  replace hx131_8 := hc HB.out hx131_8
  replace hx131_9 := hc HB.out hx131_9
  replace hx131_10 := hc HB.out hx131_10
  clear hi131_5 hl131_5
  clear hi131_6 hl131_6
  clear hi131_7 hl131_7
  replace p131 := eq_true p131
  replace q131 := eq_true q131
  have p132 : 0 ≤ (a0_1 : Int) := of_decide_eq_true (by first | (with_reducible assumption) | assumption)
  have q132 : a0_1 < (l1.length : Int) := of_decide_eq_true (by first | (with_reducible assumption) | assumption)
  obtain ⟨ad132, A132_5, c132_5, A132_6, c132_6, A132_7, c132_7, e132, hx132_0, hx132_1, hx132_2, hx132_3, hx132_4, hx132_5, hx132_6, hx132_7, hx132_8, hx132_9, hx132_10, hl132_5, hi132_5, hl132_6, hi132_6, hl132_7, hi132_7⟩ := at_T48 HR1.out a0_1 p132 q132
  (try rw [← Nbq15.out] at hx132_1)
  obtain rfl : ad131 = ad132 := (by injection e132)
  replace hx132_0 := hc HB.out hx132_0
  replace hx132_1 := hc HB.out hx132_1
  replace hx132_2 := hc HB.out hx132_2
  replace hx132_3 := hc HB.out hx132_3
  replace hx132_4 := hc HB.out hx132_4
  replace hx132_5 := hc HB.out hx132_5
  replace hx132_6 := hc HB.out hx132_6
  replace hx132_7 := hc HB.out hx132_7
  replace hx132_8 := hc HB.out hx132_8
  replace hx132_9 := hc HB.out hx132_9
  replace hx132_10 := hc HB.out hx132_10
  have HR132_5 := Aside0.mk hi132_5
  have HC132_5 := Aside0.mk hl132_5
  clear hi132_5 hl132_5
  have HR132_6 := Aside0.mk hi132_6
  have HC132_6 := Aside0.mk hl132_6
  clear hi132_6 hl132_6
  have HR132_7 := Aside0.mk hi132_7
  have HC132_7 := Aside0.mk hl132_7
  clear hi132_7 hl132_7
  replace p132 := eq_true p132
  replace q132 := eq_true q132
  have ea_ := Option.some.inj (hx131_5.symm.trans hx132_5)
  injection ea_ with ea_ en_ ec_
  subst ea_
  subst ec_
  clear en_
  have ea_ := Option.some.inj (hx131_6.symm.trans hx132_6)
  injection ea_ with ea_ en_ ec_
  subst ea_
  subst ec_
  clear en_
  have ea_ := Option.some.inj (hx131_7.symm.trans hx132_7)
  injection ea_ with ea_ en_ ec_
  subst ea_
  subst ec_
  clear en_
  go_wp2
  go_ret
  exact ⟨by first | rfl | (simp [errW_none, errW_some] <;> rfl) | (simp [*, errW_none, errW_some] <;> rfl), bl⟩

end Go.Proofs.YtpkpmdmmnhmnlaaDoor.PT
namespace Go.Proofs.YtpkpmdmmnhmnlaaDoor.PT
open Go.RowKit Go.Proofs.YtpkpmdmmnhmnlaaDoorW.PrintWords Go.Proofs.YtpkpmdmmnhmnlaaDoorW.PrintLast Go.Proofs.YtpkpmdmmnhmnlaaDoorW.PrintMore
attribute [local go_sem] max2_int min2_int max_two min_two max_three min_three max_four min_four   -- for this text's walks alone
set_option linter.unusedVariables false
set_option linter.unusedSimpArgs false

/-! ### netlist_Check: function 28 -/
mutual
def netlist_Check.l0 : Nat → List (S48) → List (S51) → Int → Int → List ByteArray → List ByteArray → List (S44) → List (S51) → List Int → Option (Int)
 | 0, _, _, _, _, _, _, _, _, _ => none
 | k + 1, x1, x18, x19, x20, x134000, x134001, x134002, x134003, x134004 => if x20 < x19 then (if 0 ≤ x20 then (if x20 < (x18.length : Int) then ((netlist_gate.f k ((rd_T51 x18 x20).f0) ((rd_T51 x18 x20).f1) ((rd_T51 x18 x20).f2) x1).bind fun t137 => (if t137 = 0 then (netlist_Check.l0 k x1 x18 x19 (wrap64 (x20 + 1)) x134000 x134001 x134002 x134003 x134004) else (some t137))) else (none)) else (none)) else (netlist_Check.l1 k x1 x134002 (x134002.length : Int) 0)
def netlist_Check.l1 : Nat → List (S48) → List (S44) → Int → Int → Option (Int)
 | 0, _, _, _, _ => none
 | k + 1, x1, x32, x33, x34 => if x34 < x33 then (if 0 ≤ x34 then (if x34 < (x32.length : Int) then ((netlist_flop.f k ((rd_T44 x32 x34).f0) ((rd_T44 x32 x34).f1) ((rd_T44 x32 x34).f2) ((rd_T44 x32 x34).f3) ((rd_T44 x32 x34).f4) x1).bind fun t140 => (if t140 = 0 then (netlist_Check.l1 k x1 x32 x33 (wrap64 (x34 + 1))) else (some t140))) else (none)) else (none)) else (some 0)
end
def netlist_Check.f (k : Nat) (l0_0 : List ByteArray) (l0_1 : List ByteArray) (l0_2 : List (S44)) (l0_3 : List (S51)) (l0_4 : List Int) (l1 : List (S48)) : Option (Int) := (netlist_Form.f k l0_0 l0_1 l0_2 l0_3 l0_4).bind fun t134 => (if t134 = 0 then (netlist_Check.l0 k l1 l0_3 (l0_3.length : Int) 0 l0_0 l0_1 l0_2 l0_3 l0_4) else (some t134))
theorem netlist_Check.mono_l : ∀ k, (∀ y0 y1 y2 y3 y4 y5 y6 y7 y8, LeO (netlist_Check.l0 k y0 y1 y2 y3 y4 y5 y6 y7 y8) (netlist_Check.l0 (k + 1) y0 y1 y2 y3 y4 y5 y6 y7 y8)) ∧ (∀ y0 y1 y2 y3, LeO (netlist_Check.l1 k y0 y1 y2 y3) (netlist_Check.l1 (k + 1) y0 y1 y2 y3))
 | 0 => ⟨fun _ _ _ _ _ _ _ _ _ r h => by simp [netlist_Check.l0] at h, fun _ _ _ _ r h => by simp [netlist_Check.l1] at h⟩
 | k + 1 => by
  obtain ⟨ih0, ih1⟩ := netlist_Check.mono_l k
  refine ⟨?_, ?_⟩
  · intro y0 y1 y2 y3 y4 y5 y6 y7 y8
    unfold netlist_Check.l0
    repeat' first
    | (with_reducible exact ih0 _ _ _ _ _ _ _ _ _)
    | (with_reducible exact ih1 _ _ _ _)
    | (with_reducible exact netlist_gate.mono _ _ _ _ _)
    | (with_reducible exact LeO.refl _)
    | (with_reducible exact LeO.none _)
    | (with_reducible refine LeO.ite ?_ ?_)
    | (with_reducible refine LeO.bind ?_ (fun _ => ?_))
  · intro y0 y1 y2 y3
    unfold netlist_Check.l1
    repeat' first
    | (with_reducible exact ih1 _ _ _ _)
    | (with_reducible exact netlist_flop.mono _ _ _ _ _ _ _)
    | (with_reducible exact LeO.refl _)
    | (with_reducible exact LeO.none _)
    | (with_reducible refine LeO.ite ?_ ?_)
    | (with_reducible refine LeO.bind ?_ (fun _ => ?_))
theorem netlist_Check.mono : ∀ a0 a1 a2 a3 a4 a5 k, LeO (netlist_Check.f k a0 a1 a2 a3 a4 a5) (netlist_Check.f (k + 1) a0 a1 a2 a3 a4 a5) := by
 intro a0 a1 a2 a3 a4 a5 k
 obtain ⟨ih0, ih1⟩ := netlist_Check.mono_l k
 unfold netlist_Check.f
 repeat' first
  | (with_reducible exact ih0 _ _ _ _ _ _ _ _ _)
  | (with_reducible exact netlist_Form.mono _ _ _ _ _ _)
  | (with_reducible exact LeO.refl _)
  | (with_reducible exact LeO.none _)
  | (with_reducible refine LeO.ite ?_ ?_)
  | (with_reducible refine LeO.bind ?_ (fun _ => ?_))
set_option maxHeartbeats 8000000 in
set_option maxRecDepth 100000 in
theorem netlist_Check.calls (k : Nat) (A0_0 : Option Addr) (c0_0 : Nat) (l0_0 : List ByteArray) (A0_1 : Option Addr) (c0_1 : Nat) (l0_1 : List ByteArray) (A0_2 : Option Addr) (c0_2 : Nat) (l0_2 : List (S44)) (A0_3 : Option Addr) (c0_3 : Nat) (l0_3 : List (S51)) (A0_4 : Option Addr) (c0_4 : Nat) (l0_4 : List Int) (A1 : Option Addr) (c1 : Nat) (l1 : List (S48)) (r : Int) (w : World) (hr0_0 : Kd.C Kd.string w A0_0 l0_0.length l0_0) (hc0_0 : l0_0.length ≤ c0_0) (hr0_1 : Kd.C Kd.string w A0_1 l0_1.length l0_1) (hc0_1 : l0_1.length ≤ c0_1) (hr0_2 : Kd.C k44 w A0_2 l0_2.length l0_2) (hc0_2 : l0_2.length ≤ c0_2) (hr0_3 : Kd.C k51 w A0_3 l0_3.length l0_3) (hc0_3 : l0_3.length ≤ c0_3) (hr0_4 : Kd.C (Kd.int .i64) w A0_4 l0_4.length l0_4) (hc0_4 : l0_4.length ≤ c0_4) (hr1 : Kd.C k48 w A1 l1.length l1) (hc1 : l1.length ≤ c1) (h : netlist_Check.f k l0_0 l0_1 l0_2 l0_3 l0_4 l1 = some r) :
 Calls Tryd.prog 28 #[.agg #[.slice A0_0 l0_0.length c0_0, .slice A0_1 l0_1.length c0_1, .slice A0_2 l0_2.length c0_2, .slice A0_3 l0_3.length c0_3, .slice A0_4 l0_4.length c0_4], .slice A1 l1.length c1] w fun e w' => e = .returned (.int .i64 r) ∧ Below w.heap.size w w' := by
 have HR0_0 := Aside0.mk hr0_0
 have HC0_0 := Aside0.mk hc0_0
 clear hr0_0 hc0_0
 have HR0_1 := Aside0.mk hr0_1
 have HC0_1 := Aside0.mk hc0_1
 clear hr0_1 hc0_1
 have HR0_2 := Aside0.mk hr0_2
 have HC0_2 := Aside0.mk hc0_2
 clear hr0_2 hc0_2
 have HR0_3 := Aside0.mk hr0_3
 have HC0_3 := Aside0.mk hc0_3
 clear hr0_3 hc0_3
 have HR0_4 := Aside0.mk hr0_4
 have HC0_4 := Aside0.mk hc0_4
 clear hr0_4 hc0_4
 have HR1 := Aside0.mk hr1
 have HC1 := Aside0.mk hc1
 clear hr1 hc1
 have HB := Aside0.mk (Below.refl w.heap.size w)
 have H : ((netlist_Form.f k l0_0 l0_1 l0_2 l0_3 l0_4).bind fun t134 => (if t134 = 0 then (netlist_Check.l0 k l1 l0_3 (l0_3.length : Int) 0 l0_0 l0_1 l0_2 l0_3 l0_4) else (some t134))) = some r := h
 clear h
 replace H := Option.bind_eq_some_iff.mp H
 obtain ⟨t134, A30, H⟩ := H
 replace H : (if t134 = 0 then (netlist_Check.l0 k l1 l0_3 (l0_3.length : Int) 0 l0_0 l0_1 l0_2 l0_3 l0_4) else (some t134)) = some r := H
 have A3 := Aside0.mk A30
 clear A30
 by_cases c4 : t134 = 0
 rotate_left
 · rw [if_neg c4] at H
   have c4b1 : (t134 != 0) = true := bne_iff_ne.mpr c4
   obtain rfl := Option.some.inj H
   go_enter Tryd.func28, Tryd.ntmps28
   go_wp2_with (first | ((with_reducible refine gate_dst (N := 2) rfl ?_); refine box_event ?hg (N := 2) ?hd (cs := #[.slice A0_0 l0_0.length c0_0, .slice A0_1 l0_1.length c0_1, .slice A0_2 l0_2.length c0_2, .slice A0_3 l0_3.length c0_3, .slice A0_4 l0_4.length c0_4]) (t := 27) ?hr ?_; (case hd => rfl); (case hg => rfl); (case hr => first | (go_simp; done) | (go_simp; rfl)); intro gb133 hg w36 hbox hb; have BK133 := Aside0.mk (hbox); replace HB := Aside0.mk (below_step bl hb); clear hb hbox hg; obtain ⟨hcz37_0, hcz37_1, hcz37_2, hcz37_3, hcz37_4, hfz37_0, hfz37_1, hfz37_2, hfz37_3, hfz37_4⟩ := bz5 BK133.out) | ((with_reducible refine gate_callee (f := 40) rfl ?_); refine goesL_ (some 13) rfl rfl Tryd.func40 (by kernel_rfl) rfl #[.agg #[.slice A0_0 l0_0.length c0_0, .slice A0_1 l0_1.length c0_1, .slice A0_2 l0_2.length c0_2, .slice A0_3 l0_3.length c0_3, .slice A0_4 l0_4.length c0_4]] rfl (by (try simp only [List.map_toArray, List.map_cons, List.map_nil]); first | done | rfl | (simp only [List.length_drop, List.length_take]; rfl)) ?_; (with_reducible refine (netlist_Form.calls k _ _ l0_0 _ _ l0_1 _ _ l0_2 _ _ l0_3 _ _ l0_4 t134 _ ?side1 ?side2 ?side3 ?side4 ?side5 ?side6 ?side7 ?side8 ?side9 ?side10 A3.out).mono ?_); (case side1 => exact kc (Kd.C_below HR0_0.out HB.out)); (case side2 => exact HC0_0.out); (case side3 => exact kc (Kd.C_below HR0_1.out HB.out)); (case side4 => exact HC0_1.out); (case side5 => exact kc (Kd.C_below HR0_2.out HB.out)); (case side6 => exact HC0_2.out); (case side7 => exact kc (Kd.C_below HR0_3.out HB.out)); (case side8 => exact HC0_3.out); (case side9 => exact kc (Kd.C_below HR0_4.out HB.out)); (case side10 => exact HC0_4.out); rintro e w38 ⟨rfl, hb⟩; refine ⟨_, rfl, ?_⟩; replace BK133 := Aside0.mk (bb BK133.out hb); replace HB := Aside0.mk (below_step bl hb); (try clear hb)))
   go_ret
   exact ⟨by first | rfl | (simp [errW_none, errW_some] <;> rfl) | (simp [*, errW_none, errW_some] <;> rfl), bl⟩
 rw [if_pos c4] at H
 have c4b0 : (t134 == 0) = true := beq_iff_eq.mpr c4
 have c4b1 : (t134 != 0) = false := bne_eq_false_iff_eq.mpr c4
 clear c4
 have H' := Aside0.mk H
 clear H
 go_enter Tryd.func28, Tryd.ntmps28
 go_wp2_with (first | ((with_reducible refine gate_dst (N := 2) rfl ?_); refine box_event ?hg (N := 2) ?hd (cs := #[.slice A0_0 l0_0.length c0_0, .slice A0_1 l0_1.length c0_1, .slice A0_2 l0_2.length c0_2, .slice A0_3 l0_3.length c0_3, .slice A0_4 l0_4.length c0_4]) (t := 27) ?hr ?_; (case hd => rfl); (case hg => rfl); (case hr => first | (go_simp; done) | (go_simp; rfl)); intro gb133 hg w5 hbox hb; have BK133 := Aside0.mk (hbox); replace HB := Aside0.mk (below_step bl hb); clear hb hbox hg; obtain ⟨hcz6_0, hcz6_1, hcz6_2, hcz6_3, hcz6_4, hfz6_0, hfz6_1, hfz6_2, hfz6_3, hfz6_4⟩ := bz5 BK133.out) | ((with_reducible refine gate_callee (f := 40) rfl ?_); refine goesL_ (some 13) rfl rfl Tryd.func40 (by kernel_rfl) rfl #[.agg #[.slice A0_0 l0_0.length c0_0, .slice A0_1 l0_1.length c0_1, .slice A0_2 l0_2.length c0_2, .slice A0_3 l0_3.length c0_3, .slice A0_4 l0_4.length c0_4]] rfl (by (try simp only [List.map_toArray, List.map_cons, List.map_nil]); first | done | rfl | (simp only [List.length_drop, List.length_take]; rfl)) ?_; (with_reducible refine (netlist_Form.calls k _ _ l0_0 _ _ l0_1 _ _ l0_2 _ _ l0_3 _ _ l0_4 t134 _ ?side1 ?side2 ?side3 ?side4 ?side5 ?side6 ?side7 ?side8 ?side9 ?side10 A3.out).mono ?_); (case side1 => exact kc (Kd.C_below HR0_0.out HB.out)); (case side2 => exact HC0_0.out); (case side3 => exact kc (Kd.C_below HR0_1.out HB.out)); (case side4 => exact HC0_1.out); (case side5 => exact kc (Kd.C_below HR0_2.out HB.out)); (case side6 => exact HC0_2.out); (case side7 => exact kc (Kd.C_below HR0_3.out HB.out)); (case side8 => exact HC0_3.out); (case side9 => exact kc (Kd.C_below HR0_4.out HB.out)); (case side10 => exact HC0_4.out); rintro e w7 ⟨rfl, hb⟩; refine ⟨_, rfl, ?_⟩; replace BK133 := Aside0.mk (bb BK133.out hb); replace HB := Aside0.mk (below_step bl hb); (try clear hb); obtain ⟨hcz8_0, hcz8_1, hcz8_2, hcz8_3, hcz8_4, hfz8_0, hfz8_1, hfz8_2, hfz8_3, hfz8_4⟩ := bz5 BK133.out))
 go_loopg [20] k (fun kq v20 w' => ∃ (x20_1 : Int), v20 = .int .i64 x20_1 ∧ Aside0 (netlist_Check.l0 kq l1 l0_3 (l0_3.length : Int) x20_1 l0_0 l0_1 l0_2 l0_3 l0_4 = some r) ∧ Aside0 (kq ≤ k) ∧ Aside0 (w'.heap[gb133]? = some (.cells #[(.slice A0_0 l0_0.length c0_0), (.slice A0_1 l0_1.length c0_1), (.slice A0_2 l0_2.length c0_2), (.slice A0_3 l0_3.length c0_3), (.slice A0_4 l0_4.length c0_4)] 27 (0, 0))) ∧ Aside0 (Below w.heap.size w w'))
 case atStart => exact ⟨(0), (by first | rfl | (simp; done) | (simp [*]; done)), H', ⟨Nat.le_refl _⟩, ⟨bk BK133.out⟩, ⟨bl⟩⟩
 clear H'
 clear c4b0 c4b1 hcz6_0 hcz6_1 hcz6_2 hcz6_3 hcz6_4 hcz8_0 hcz8_1 hcz8_2 hcz8_3 hcz8_4 hfz6_0 hfz6_1 hfz6_2 hfz6_3 hfz6_4 hfz8_0 hfz8_1 hfz8_2 hfz8_3 hfz8_4
 obtain ⟨x20_1, rfl, HA, HK1, BK133, HB⟩ := hrel
 cases gk with
 | zero => exact absurd HA.out (by simp [netlist_Check.l0])
 | succ k1 =>
  have H := HA.out
  clear HA
  simp only [netlist_Check.l0] at H
  by_cases c9 : x20_1 < (l0_3.length : Int)
  · rw [if_pos c9] at H
    have c9b0 : decide (x20_1 < (l0_3.length : Int)) = true := decide_eq_true c9
    clear c9
    by_cases c10 : 0 ≤ x20_1
    rotate_left
    · rw [if_neg c10] at H
      exact absurd H (by simp)
    rw [if_pos c10] at H
    have c10b0 : decide (0 ≤ x20_1) = true := decide_eq_true c10
    clear c10
    by_cases c11 : x20_1 < (l0_3.length : Int)
    rotate_left
    · rw [if_neg c11] at H
      exact absurd H (by simp)
    rw [if_pos c11] at H
    have c11b0 : decide (x20_1 < (l0_3.length : Int)) = true := decide_eq_true c11
    clear c11
    replace H := Option.bind_eq_some_iff.mp H
    obtain ⟨t137, A120, H⟩ := H
    replace H : (if t137 = 0 then (netlist_Check.l0 k1 l1 l0_3 (l0_3.length : Int) (wrap64 (x20_1 + 1)) l0_0 l0_1 l0_2 l0_3 l0_4) else (some t137)) = some r := H
    have A12 := Aside0.mk A120
    clear A120
    by_cases c13 : t137 = 0
    rotate_left
    · rw [if_neg c13] at H
      have c13b1 : (t137 != 0) = true := bne_iff_ne.mpr c13
      obtain rfl := Option.some.inj H
      have p135 : 0 ≤ (x20_1 : Int) := of_decide_eq_true (by first | (with_reducible assumption) | assumption)
      have q135 : x20_1 < (l0_3.length : Int) := of_decide_eq_true (by first | (with_reducible assumption) | assumption)
      obtain ⟨ad135, A135_2, c135_2, e135, hx135_0, hx135_1, hx135_2, hl135_2, hi135_2⟩ := at_T51 HR0_3.out x20_1 p135 q135
      cases e135
      replace hx135_0 := hc HB.out hx135_0
      replace hx135_1 := hc HB.out hx135_1
      replace hx135_2 := hc HB.out hx135_2
      have HR135_2 := Aside0.mk hi135_2
      have HC135_2 := Aside0.mk hl135_2
      clear hi135_2 hl135_2
      replace p135 := eq_true p135
      replace q135 := eq_true q135
      go_wp2_with (first | ((with_reducible refine gate_dst (N := 7) rfl ?_); refine box_event ?hg (N := 7) ?hd (cs := #[.int .i64 0, .int .u64 0, .slice none 0 0]) (t := 51) ?hr ?_; (case hd => rfl); (case hg => rfl); (case hr => first | (go_simp; done) | (go_simp; rfl)); intro gb136 hg w18 hbox hb; have BK136 := Aside0.mk (hbox); have GE136 := Aside0.mk (ge (w := w) hg); replace HB := Aside0.mk (below_step bl hb); have NB133_136 := Aside0.mk (nl hg (bk BK133.out)); have NB136_133 := Aside0.mk (ng hg (bk BK133.out)); replace BK133 := Aside0.mk (bb BK133.out hb); clear hb hbox hg; obtain ⟨hcz20_0, hcz20_1, hcz20_2, hfz20_0, hfz20_1, hfz20_2⟩ := bz3 BK136.out) | ((with_reducible refine gate_callee (f := 41) rfl ?_); refine goesL_ (some 26) rfl rfl Tryd.func41 (by kernel_rfl) rfl #[.agg #[.int .i64 ((rd_T51 l0_3 x20_1).f0), .int .u64 ((rd_T51 l0_3 x20_1).f1), .slice A135_2 ((rd_T51 l0_3 x20_1).f2).length c135_2], .slice A1 l1.length c1] rfl (by (try simp only [List.map_toArray, List.map_cons, List.map_nil]); first | done | rfl | (simp only [List.length_drop, List.length_take]; rfl)) ?_; (with_reducible refine (netlist_gate.calls k1 ((rd_T51 l0_3 x20_1).f0) ((rd_T51 l0_3 x20_1).f1) _ _ ((rd_T51 l0_3 x20_1).f2) _ _ l1 t137 _ ?side1 ?side2 ?side3 ?side4 A12.out).mono ?_); (case side1 => exact Kd.C_below HR135_2.out bl); (case side2 => exact HC135_2.out); (case side3 => exact Kd.C_below HR1.out bl); (case side4 => exact HC1.out); rintro e w21 ⟨rfl, hb⟩; refine ⟨_, rfl, ?_⟩; replace BK133 := Aside0.mk (blk_below (bf BK133.out) hb); replace BK136 := Aside0.mk (blk_below (g := gb136) (o := .cells #[.int .i64 ((rd_T51 l0_3 x20_1).f0), .int .u64 ((rd_T51 l0_3 x20_1).f1), .slice A135_2 ((rd_T51 l0_3 x20_1).f2).length c135_2] 51 (0, 0)) (by (with_reducible repeat (first | refine blk_drewN ?_ _ | refine blk_drew ?_ | refine blk_alloc ?_ _)); refine blk_put (cs := #[.int .i64 ((rd_T51 l0_3 x20_1).f0), .int .u64 ((rd_T51 l0_3 x20_1).f1), .slice none 0 0]) ?_ 2 _ rfl; (with_reducible repeat (first | refine blk_drewN ?_ _ | refine blk_drew ?_ | refine blk_alloc ?_ _)); refine blk_put (cs := #[.int .i64 ((rd_T51 l0_3 x20_1).f0), .int .u64 0, .slice none 0 0]) ?_ 1 _ rfl; (with_reducible repeat (first | refine blk_drewN ?_ _ | refine blk_drew ?_ | refine blk_alloc ?_ _)); refine blk_put (cs := #[.int .i64 0, .int .u64 0, .slice none 0 0]) ?_ 0 _ rfl; (with_reducible repeat (first | refine blk_drewN ?_ _ | refine blk_drew ?_ | refine blk_alloc ?_ _)); exact BK136.out) hb); replace HB := Aside0.mk (below_step bl hb); (try clear hb)))
      go_ret
      exact ⟨by first | rfl | (simp [errW_none, errW_some] <;> rfl) | (simp [*, errW_none, errW_some] <;> rfl), bl⟩
    rw [if_pos c13] at H
    have c13b1 : (t137 != 0) = false := bne_eq_false_iff_eq.mpr c13
    clear c13
    have H' := Aside0.mk H
    clear H
    have p135 : 0 ≤ (x20_1 : Int) := of_decide_eq_true (by first | (with_reducible assumption) | assumption)
    have q135 : x20_1 < (l0_3.length : Int) := of_decide_eq_true (by first | (with_reducible assumption) | assumption)
    obtain ⟨ad135, A135_2, c135_2, e135, hx135_0, hx135_1, hx135_2, hl135_2, hi135_2⟩ := at_T51 HR0_3.out x20_1 p135 q135
    cases e135
    replace hx135_0 := hc HB.out hx135_0
    replace hx135_1 := hc HB.out hx135_1
    replace hx135_2 := hc HB.out hx135_2
    have HR135_2 := Aside0.mk hi135_2
    have HC135_2 := Aside0.mk hl135_2
    clear hi135_2 hl135_2
    replace p135 := eq_true p135
    replace q135 := eq_true q135
    go_wp2_with (first | ((with_reducible refine gate_dst (N := 7) rfl ?_); refine box_event ?hg (N := 7) ?hd (cs := #[.int .i64 0, .int .u64 0, .slice none 0 0]) (t := 51) ?hr ?_; (case hd => rfl); (case hg => rfl); (case hr => first | (go_simp; done) | (go_simp; rfl)); intro gb136 hg w14 hbox hb; have BK136 := Aside0.mk (hbox); have GE136 := Aside0.mk (ge (w := w) hg); replace HB := Aside0.mk (below_step bl hb); have NB133_136 := Aside0.mk (nl hg (bk BK133.out)); have NB136_133 := Aside0.mk (ng hg (bk BK133.out)); replace BK133 := Aside0.mk (bb BK133.out hb); clear hb hbox hg; obtain ⟨hcz16_0, hcz16_1, hcz16_2, hfz16_0, hfz16_1, hfz16_2⟩ := bz3 BK136.out) | ((with_reducible refine gate_callee (f := 41) rfl ?_); refine goesL_ (some 26) rfl rfl Tryd.func41 (by kernel_rfl) rfl #[.agg #[.int .i64 ((rd_T51 l0_3 x20_1).f0), .int .u64 ((rd_T51 l0_3 x20_1).f1), .slice A135_2 ((rd_T51 l0_3 x20_1).f2).length c135_2], .slice A1 l1.length c1] rfl (by (try simp only [List.map_toArray, List.map_cons, List.map_nil]); first | done | rfl | (simp only [List.length_drop, List.length_take]; rfl)) ?_; (with_reducible refine (netlist_gate.calls k1 ((rd_T51 l0_3 x20_1).f0) ((rd_T51 l0_3 x20_1).f1) _ _ ((rd_T51 l0_3 x20_1).f2) _ _ l1 t137 _ ?side1 ?side2 ?side3 ?side4 A12.out).mono ?_); (case side1 => exact Kd.C_below HR135_2.out bl); (case side2 => exact HC135_2.out); (case side3 => exact Kd.C_below HR1.out bl); (case side4 => exact HC1.out); rintro e w17 ⟨rfl, hb⟩; refine ⟨_, rfl, ?_⟩; replace BK133 := Aside0.mk (blk_below (bf BK133.out) hb); replace BK136 := Aside0.mk (blk_below (g := gb136) (o := .cells #[.int .i64 ((rd_T51 l0_3 x20_1).f0), .int .u64 ((rd_T51 l0_3 x20_1).f1), .slice A135_2 ((rd_T51 l0_3 x20_1).f2).length c135_2] 51 (0, 0)) (by (with_reducible repeat (first | refine blk_drewN ?_ _ | refine blk_drew ?_ | refine blk_alloc ?_ _)); refine blk_put (cs := #[.int .i64 ((rd_T51 l0_3 x20_1).f0), .int .u64 ((rd_T51 l0_3 x20_1).f1), .slice none 0 0]) ?_ 2 _ rfl; (with_reducible repeat (first | refine blk_drewN ?_ _ | refine blk_drew ?_ | refine blk_alloc ?_ _)); refine blk_put (cs := #[.int .i64 ((rd_T51 l0_3 x20_1).f0), .int .u64 0, .slice none 0 0]) ?_ 1 _ rfl; (with_reducible repeat (first | refine blk_drewN ?_ _ | refine blk_drew ?_ | refine blk_alloc ?_ _)); refine blk_put (cs := #[.int .i64 0, .int .u64 0, .slice none 0 0]) ?_ 0 _ rfl; (with_reducible repeat (first | refine blk_drewN ?_ _ | refine blk_drew ?_ | refine blk_alloc ?_ _)); exact BK136.out) hb); replace HB := Aside0.mk (below_step bl hb); (try clear hb)))
    go_roundg k1
    case measure => have := HK1.out; omega
    case rel => exact ⟨(wrap64 (x20_1 + 1)), (by first | rfl | (simp; done) | (simp [*]; done)), H', ⟨by have := HK1.out; omega⟩, ⟨bk BK133.out⟩, ⟨bl⟩⟩
  rw [if_neg c9] at H
  have c9b0 : decide (x20_1 < (l0_3.length : Int)) = false := decide_eq_false c9
  clear c9
  have H' := Aside0.mk H
  clear H
  obtain ⟨hcz22_0, hcz22_1, hcz22_2, hcz22_3, hcz22_4, hfz22_0, hfz22_1, hfz22_2, hfz22_3, hfz22_4⟩ := bz5 BK133.out
  go_wp2
  go_loopg [34] k1 (fun kq v34 w' => ∃ (x34_2 : Int), v34 = .int .i64 x34_2 ∧ Aside0 (netlist_Check.l1 kq l1 l0_2 (l0_2.length : Int) x34_2 = some r) ∧ Aside0 (kq ≤ k1) ∧ Aside0 (w'.heap[gb133]? = some (.cells #[(.slice A0_0 l0_0.length c0_0), (.slice A0_1 l0_1.length c0_1), (.slice A0_2 l0_2.length c0_2), (.slice A0_3 l0_3.length c0_3), (.slice A0_4 l0_4.length c0_4)] 27 (0, 0))) ∧ Aside0 (Below w.heap.size w w'))
  case atStart => exact ⟨(0), (by first | rfl | (simp; done) | (simp [*]; done)), H', ⟨Nat.le_refl _⟩, ⟨bk BK133.out⟩, ⟨bl⟩⟩
  clear H'
  clear c9b0 hcz22_0 hcz22_1 hcz22_2 hcz22_3 hcz22_4 hfz22_0 hfz22_1 hfz22_2 hfz22_3 hfz22_4
  obtain ⟨x34_2, rfl, HA, HK2, BK133, HB⟩ := hrel
  cases gk with
  | zero => exact absurd HA.out (by simp [netlist_Check.l1])
  | succ k2 =>
   have H := HA.out
   clear HA
   simp only [netlist_Check.l1] at H
   by_cases c23 : x34_2 < (l0_2.length : Int)
   rotate_left
   · rw [if_neg c23] at H
     have c23b0 : decide (x34_2 < (l0_2.length : Int)) = false := decide_eq_false c23
     clear c23
     obtain rfl := Option.some.inj H
     go_wp2
     go_ret
     exact ⟨by first | rfl | (simp [errW_none, errW_some] <;> rfl) | (simp [*, errW_none, errW_some] <;> rfl), bl⟩
   rw [if_pos c23] at H
   have c23b0 : decide (x34_2 < (l0_2.length : Int)) = true := decide_eq_true c23
   clear c23
   by_cases c24 : 0 ≤ x34_2
   rotate_left
   · rw [if_neg c24] at H
     exact absurd H (by simp)
   rw [if_pos c24] at H
   have c24b0 : decide (0 ≤ x34_2) = true := decide_eq_true c24
   clear c24
   by_cases c25 : x34_2 < (l0_2.length : Int)
   rotate_left
   · rw [if_neg c25] at H
     exact absurd H (by simp)
   rw [if_pos c25] at H
   have c25b0 : decide (x34_2 < (l0_2.length : Int)) = true := decide_eq_true c25
   clear c25
   replace H := Option.bind_eq_some_iff.mp H
   obtain ⟨t140, A260, H⟩ := H
   replace H : (if t140 = 0 then (netlist_Check.l1 k2 l1 l0_2 (l0_2.length : Int) (wrap64 (x34_2 + 1))) else (some t140)) = some r := H
   have A26 := Aside0.mk A260
   clear A260
   by_cases c27 : t140 = 0
   rotate_left
   · rw [if_neg c27] at H
     have c27b1 : (t140 != 0) = true := bne_iff_ne.mpr c27
     obtain rfl := Option.some.inj H
     have p138 : 0 ≤ (x34_2 : Int) := of_decide_eq_true (by first | (with_reducible assumption) | assumption)
     have q138 : x34_2 < (l0_2.length : Int) := of_decide_eq_true (by first | (with_reducible assumption) | assumption)
     obtain ⟨ad138, e138, hx138_0, hx138_1, hx138_2, hx138_3, hx138_4⟩ := at_T44 HR0_2.out x34_2 p138 q138
     cases e138
     replace hx138_0 := hc HB.out hx138_0
     replace hx138_1 := hc HB.out hx138_1
     replace hx138_2 := hc HB.out hx138_2
     replace hx138_3 := hc HB.out hx138_3
     replace hx138_4 := hc HB.out hx138_4
     replace p138 := eq_true p138
     replace q138 := eq_true q138
     go_wp2_with (first | ((with_reducible refine gate_dst (N := 10) rfl ?_); refine box_event ?hg (N := 10) ?hd (cs := #[.string (⟨#[]⟩ : ByteArray), .int .i64 0, .int .i64 0, .int .i64 0, .bool false]) (t := 44) ?hr ?_; (case hd => rfl); (case hg => rfl); (case hr => first | (go_simp; done) | (go_simp; rfl)); intro gb139 hg w32 hbox hb; have BK139 := Aside0.mk (hbox); have GE139 := Aside0.mk (ge (w := w) hg); replace HB := Aside0.mk (below_step bl hb); have NB133_139 := Aside0.mk (nl hg (bk BK133.out)); have NB139_133 := Aside0.mk (ng hg (bk BK133.out)); replace BK133 := Aside0.mk (bb BK133.out hb); clear hb hbox hg; obtain ⟨hcz34_0, hcz34_1, hcz34_2, hcz34_3, hcz34_4, hfz34_0, hfz34_1, hfz34_2, hfz34_3, hfz34_4⟩ := bz5 BK139.out) | ((with_reducible refine gate_callee (f := 42) rfl ?_); refine goesL_ (some 40) rfl rfl Tryd.func42 (by kernel_rfl) rfl #[.agg #[.string ((rd_T44 l0_2 x34_2).f0), .int .i64 ((rd_T44 l0_2 x34_2).f1), .int .i64 ((rd_T44 l0_2 x34_2).f2), .int .i64 ((rd_T44 l0_2 x34_2).f3), .bool ((rd_T44 l0_2 x34_2).f4)], .slice A1 l1.length c1] rfl (by (try simp only [List.map_toArray, List.map_cons, List.map_nil]); first | done | rfl | (simp only [List.length_drop, List.length_take]; rfl)) ?_; (with_reducible refine (netlist_flop.calls k2 ((rd_T44 l0_2 x34_2).f0) ((rd_T44 l0_2 x34_2).f1) ((rd_T44 l0_2 x34_2).f2) ((rd_T44 l0_2 x34_2).f3) ((rd_T44 l0_2 x34_2).f4) _ _ l1 t140 _ ?side1 ?side2 A26.out).mono ?_); (case side1 => exact Kd.C_below HR1.out bl); (case side2 => exact HC1.out); rintro e w35 ⟨rfl, hb⟩; refine ⟨_, rfl, ?_⟩; replace BK133 := Aside0.mk (blk_below (bf BK133.out) hb); replace BK139 := Aside0.mk (blk_below (g := gb139) (o := .cells #[.string ((rd_T44 l0_2 x34_2).f0), .int .i64 ((rd_T44 l0_2 x34_2).f1), .int .i64 ((rd_T44 l0_2 x34_2).f2), .int .i64 ((rd_T44 l0_2 x34_2).f3), .bool ((rd_T44 l0_2 x34_2).f4)] 44 (0, 0)) (by (with_reducible repeat (first | refine blk_drewN ?_ _ | refine blk_drew ?_ | refine blk_alloc ?_ _)); refine blk_put (cs := #[.string ((rd_T44 l0_2 x34_2).f0), .int .i64 ((rd_T44 l0_2 x34_2).f1), .int .i64 ((rd_T44 l0_2 x34_2).f2), .int .i64 ((rd_T44 l0_2 x34_2).f3), .bool false]) ?_ 4 _ rfl; (with_reducible repeat (first | refine blk_drewN ?_ _ | refine blk_drew ?_ | refine blk_alloc ?_ _)); refine blk_put (cs := #[.string ((rd_T44 l0_2 x34_2).f0), .int .i64 ((rd_T44 l0_2 x34_2).f1), .int .i64 ((rd_T44 l0_2 x34_2).f2), .int .i64 0, .bool false]) ?_ 3 _ rfl; (with_reducible repeat (first | refine blk_drewN ?_ _ | refine blk_drew ?_ | refine blk_alloc ?_ _)); refine blk_put (cs := #[.string ((rd_T44 l0_2 x34_2).f0), .int .i64 ((rd_T44 l0_2 x34_2).f1), .int .i64 0, .int .i64 0, .bool false]) ?_ 2 _ rfl; (with_reducible repeat (first | refine blk_drewN ?_ _ | refine blk_drew ?_ | refine blk_alloc ?_ _)); refine blk_put (cs := #[.string ((rd_T44 l0_2 x34_2).f0), .int .i64 0, .int .i64 0, .int .i64 0, .bool false]) ?_ 1 _ rfl; (with_reducible repeat (first | refine blk_drewN ?_ _ | refine blk_drew ?_ | refine blk_alloc ?_ _)); refine blk_put (cs := #[.string (⟨#[]⟩ : ByteArray), .int .i64 0, .int .i64 0, .int .i64 0, .bool false]) ?_ 0 _ rfl; (with_reducible repeat (first | refine blk_drewN ?_ _ | refine blk_drew ?_ | refine blk_alloc ?_ _)); exact BK139.out) hb); replace HB := Aside0.mk (below_step bl hb); (try clear hb)))
     go_ret
     exact ⟨by first | rfl | (simp [errW_none, errW_some] <;> rfl) | (simp [*, errW_none, errW_some] <;> rfl), bl⟩
   rw [if_pos c27] at H
   have c27b1 : (t140 != 0) = false := bne_eq_false_iff_eq.mpr c27
   clear c27
   have H' := Aside0.mk H
   clear H
   have p138 : 0 ≤ (x34_2 : Int) := of_decide_eq_true (by first | (with_reducible assumption) | assumption)
   have q138 : x34_2 < (l0_2.length : Int) := of_decide_eq_true (by first | (with_reducible assumption) | assumption)
   obtain ⟨ad138, e138, hx138_0, hx138_1, hx138_2, hx138_3, hx138_4⟩ := at_T44 HR0_2.out x34_2 p138 q138
   cases e138
   replace hx138_0 := hc HB.out hx138_0
   replace hx138_1 := hc HB.out hx138_1
   replace hx138_2 := hc HB.out hx138_2
   replace hx138_3 := hc HB.out hx138_3
   replace hx138_4 := hc HB.out hx138_4
   replace p138 := eq_true p138
   replace q138 := eq_true q138
   go_wp2_with (first | ((with_reducible refine gate_dst (N := 10) rfl ?_); refine box_event ?hg (N := 10) ?hd (cs := #[.string (⟨#[]⟩ : ByteArray), .int .i64 0, .int .i64 0, .int .i64 0, .bool false]) (t := 44) ?hr ?_; (case hd => rfl); (case hg => rfl); (case hr => first | (go_simp; done) | (go_simp; rfl)); intro gb139 hg w28 hbox hb; have BK139 := Aside0.mk (hbox); have GE139 := Aside0.mk (ge (w := w) hg); replace HB := Aside0.mk (below_step bl hb); have NB133_139 := Aside0.mk (nl hg (bk BK133.out)); have NB139_133 := Aside0.mk (ng hg (bk BK133.out)); replace BK133 := Aside0.mk (bb BK133.out hb); clear hb hbox hg; obtain ⟨hcz30_0, hcz30_1, hcz30_2, hcz30_3, hcz30_4, hfz30_0, hfz30_1, hfz30_2, hfz30_3, hfz30_4⟩ := bz5 BK139.out) | ((with_reducible refine gate_callee (f := 42) rfl ?_); refine goesL_ (some 40) rfl rfl Tryd.func42 (by kernel_rfl) rfl #[.agg #[.string ((rd_T44 l0_2 x34_2).f0), .int .i64 ((rd_T44 l0_2 x34_2).f1), .int .i64 ((rd_T44 l0_2 x34_2).f2), .int .i64 ((rd_T44 l0_2 x34_2).f3), .bool ((rd_T44 l0_2 x34_2).f4)], .slice A1 l1.length c1] rfl (by (try simp only [List.map_toArray, List.map_cons, List.map_nil]); first | done | rfl | (simp only [List.length_drop, List.length_take]; rfl)) ?_; (with_reducible refine (netlist_flop.calls k2 ((rd_T44 l0_2 x34_2).f0) ((rd_T44 l0_2 x34_2).f1) ((rd_T44 l0_2 x34_2).f2) ((rd_T44 l0_2 x34_2).f3) ((rd_T44 l0_2 x34_2).f4) _ _ l1 t140 _ ?side1 ?side2 A26.out).mono ?_); (case side1 => exact Kd.C_below HR1.out bl); (case side2 => exact HC1.out); rintro e w31 ⟨rfl, hb⟩; refine ⟨_, rfl, ?_⟩; replace BK133 := Aside0.mk (blk_below (bf BK133.out) hb); replace BK139 := Aside0.mk (blk_below (g := gb139) (o := .cells #[.string ((rd_T44 l0_2 x34_2).f0), .int .i64 ((rd_T44 l0_2 x34_2).f1), .int .i64 ((rd_T44 l0_2 x34_2).f2), .int .i64 ((rd_T44 l0_2 x34_2).f3), .bool ((rd_T44 l0_2 x34_2).f4)] 44 (0, 0)) (by (with_reducible repeat (first | refine blk_drewN ?_ _ | refine blk_drew ?_ | refine blk_alloc ?_ _)); refine blk_put (cs := #[.string ((rd_T44 l0_2 x34_2).f0), .int .i64 ((rd_T44 l0_2 x34_2).f1), .int .i64 ((rd_T44 l0_2 x34_2).f2), .int .i64 ((rd_T44 l0_2 x34_2).f3), .bool false]) ?_ 4 _ rfl; (with_reducible repeat (first | refine blk_drewN ?_ _ | refine blk_drew ?_ | refine blk_alloc ?_ _)); refine blk_put (cs := #[.string ((rd_T44 l0_2 x34_2).f0), .int .i64 ((rd_T44 l0_2 x34_2).f1), .int .i64 ((rd_T44 l0_2 x34_2).f2), .int .i64 0, .bool false]) ?_ 3 _ rfl; (with_reducible repeat (first | refine blk_drewN ?_ _ | refine blk_drew ?_ | refine blk_alloc ?_ _)); refine blk_put (cs := #[.string ((rd_T44 l0_2 x34_2).f0), .int .i64 ((rd_T44 l0_2 x34_2).f1), .int .i64 0, .int .i64 0, .bool false]) ?_ 2 _ rfl; (with_reducible repeat (first | refine blk_drewN ?_ _ | refine blk_drew ?_ | refine blk_alloc ?_ _)); refine blk_put (cs := #[.string ((rd_T44 l0_2 x34_2).f0), .int .i64 0, .int .i64 0, .int .i64 0, .bool false]) ?_ 1 _ rfl; (with_reducible repeat (first | refine blk_drewN ?_ _ | refine blk_drew ?_ | refine blk_alloc ?_ _)); refine blk_put (cs := #[.string (⟨#[]⟩ : ByteArray), .int .i64 0, .int .i64 0, .int .i64 0, .bool false]) ?_ 0 _ rfl; (with_reducible repeat (first | refine blk_drewN ?_ _ | refine blk_drew ?_ | refine blk_alloc ?_ _)); exact BK139.out) hb); replace HB := Aside0.mk (below_step bl hb); (try clear hb)))
   go_roundg k2
   case measure => have := HK1.out; have := HK2.out; omega
   case rel => exact ⟨(wrap64 (x34_2 + 1)), (by first | rfl | (simp; done) | (simp [*]; done)), H', ⟨by have := HK1.out; have := HK2.out; omega⟩, ⟨bk BK133.out⟩, ⟨bl⟩⟩

end Go.Proofs.YtpkpmdmmnhmnlaaDoor.PT
namespace Go.Proofs.YtpkpmdmmnhmnlaaDoor.PT
open Go.RowKit Go.Proofs.YtpkpmdmmnhmnlaaDoorW.PrintWords Go.Proofs.YtpkpmdmmnhmnlaaDoorW.PrintLast Go.Proofs.YtpkpmdmmnhmnlaaDoorW.PrintMore
attribute [local go_sem] max2_int min2_int max_two min_two max_three min_three max_four min_four   -- for this text's walks alone
set_option linter.unusedVariables false
set_option linter.unusedSimpArgs false

/-! ### delay_Inputs: function 11 -/
def delay_Inputs.f (a0_0 : ByteArray) (a0_1 : Int) (a0_2 : Int) (a0_3 : Int) (a0_4 : Bool) : Option (Int) := if a0_3 = 1 then (some 1) else (some 2)
set_option maxHeartbeats 8000000 in
set_option maxRecDepth 100000 in
theorem delay_Inputs.calls (a0_0 : ByteArray) (a0_1 : Int) (a0_2 : Int) (a0_3 : Int) (a0_4 : Bool) (r : Int) (w : World) (h : delay_Inputs.f a0_0 a0_1 a0_2 a0_3 a0_4 = some r) :
    Calls Tryd.prog 11 #[.agg #[.string a0_0, .int .i64 a0_1, .int .i64 a0_2, .int .i64 a0_3, .bool a0_4]] w fun e w' => e = .returned (.int .i64 r) ∧ Below w.heap.size w w' := by
 have HB := Aside0.mk (Below.refl w.heap.size w)
 have H : (if a0_3 = 1 then (some 1) else (some 2)) = some r := h
 clear h
 by_cases c2 : a0_3 = 1
 rotate_left
 · rw [if_neg c2] at H
   have c2b0 : (a0_3 == 1) = false := beq_eq_false_iff_ne.mpr c2
   obtain rfl := Option.some.inj H
   go_enter Tryd.func11, Tryd.ntmps11
   go_wp2_with ((with_reducible refine gate_dst (N := 1) rfl ?_); refine box_event ?hg (N := 1) ?hd (cs := #[.string a0_0, .int .i64 a0_1, .int .i64 a0_2, .int .i64 a0_3, .bool a0_4]) (t := 44) ?hr ?_; (case hd => rfl); (case hg => rfl); (case hr => first | (go_simp; done) | (go_simp; rfl)); intro gb141 hg w5 hbox hb; have BK141 := Aside0.mk (hbox); replace HB := Aside0.mk (below_step bl hb); clear hb hbox hg; obtain ⟨hcz6_0, hcz6_1, hcz6_2, hcz6_3, hcz6_4, hfz6_0, hfz6_1, hfz6_2, hfz6_3, hfz6_4⟩ := bz5 BK141.out)
   go_ret
   exact ⟨by first | rfl | (simp [errW_none, errW_some] <;> rfl) | (simp [*, errW_none, errW_some] <;> rfl), bl⟩
 rw [if_pos c2] at H
 have c2b0 : (a0_3 == 1) = true := beq_iff_eq.mpr c2
 clear c2
 obtain rfl := Option.some.inj H
 go_enter Tryd.func11, Tryd.ntmps11
 go_wp2_with ((with_reducible refine gate_dst (N := 1) rfl ?_); refine box_event ?hg (N := 1) ?hd (cs := #[.string a0_0, .int .i64 a0_1, .int .i64 a0_2, .int .i64 a0_3, .bool a0_4]) (t := 44) ?hr ?_; (case hd => rfl); (case hg => rfl); (case hr => first | (go_simp; done) | (go_simp; rfl)); intro gb141 hg w3 hbox hb; have BK141 := Aside0.mk (hbox); replace HB := Aside0.mk (below_step bl hb); clear hb hbox hg; obtain ⟨hcz4_0, hcz4_1, hcz4_2, hcz4_3, hcz4_4, hfz4_0, hfz4_1, hfz4_2, hfz4_3, hfz4_4⟩ := bz5 BK141.out)
 go_ret
 exact ⟨by first | rfl | (simp [errW_none, errW_some] <;> rfl) | (simp [*, errW_none, errW_some] <;> rfl), bl⟩

end Go.Proofs.YtpkpmdmmnhmnlaaDoor.PT
