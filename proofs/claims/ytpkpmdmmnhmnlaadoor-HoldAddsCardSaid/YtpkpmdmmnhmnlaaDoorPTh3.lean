/- slices.Clone of gates, flip-flops and whole numbers, by hand. No conditions. -/
/- netlist.Same of two netlists that read the same: true. No conditions. -/
/- hold.Add answers with an error, by hand. Conditions: its arguments' rows are readable. -/
import Derived.Test.YtpkpmdmmnhmnlaaDoorPTx0
import Derived.Test.YtpkpmdmmnhmnlaaDoorHnd
import Derived.Test.YtpkpmdmmnhmnlaaDoorPTx75
import Derived.Test.YtpkpmdmmnhmnlaaDoorAid
import Derived.Test.YtpkpmdmmnhmnlaaDoorPTx61
import Derived.Test.YtpkpmdmmnhmnlaaDoorPTx13
namespace Go.Proofs.YtpkpmdmmnhmnlaaDoor.PT
open Go.RowKit Go.Proofs.YtpkpmdmmnhmnlaaDoorW.PrintWords Go.Proofs.YtpkpmdmmnhmnlaaDoorW.PrintLast Go.Proofs.YtpkpmdmmnhmnlaaDoorW.PrintMore
set_option linter.unusedVariables false
set_option linter.unusedSimpArgs false

theorem gat_heap : Kd.Heap k51 := Kd.heap_iso _ (Kd.heap_pair (Kd.heap_int .i64) (Kd.heap_pair (Kd.heap_int .u64) (Kd.heap_slice 3 (Kd.heap_int .i64))))
theorem infoG : (Tryd.prog.info? 51).map (fun i => (i.zero, i.size, i.bytes)) = some (some (.agg #[.int .i64 0, .int .u64 0, .slice none 0 0]), 3, 40) := by kernel_rfl
theorem infoF : (Tryd.prog.info? 44).map (fun i => (i.zero, i.size, i.bytes)) = some (some (.agg #[.string ⟨#[]⟩, .int .i64 0, .int .i64 0, .int .i64 0, .bool false]), 5, 48) := by kernel_rfl
theorem infoI : (Tryd.prog.info? 3).map (fun i => (i.zero, i.size, i.bytes)) = some (some (.int .i64 0), 1, 8) := by kernel_rfl
set_option maxHeartbeats 1000000 in
set_option maxRecDepth 100000 in
theorem cloneG (A0 : Option Addr) (c0 : Nat) (l : List S51) (w : World) (hr : Kd.C k51 w A0 l.length l) (hc : l.length ≤ c0) (hl : l.length < 1099511627776) :
    Calls Tryd.prog 13 #[.slice A0 l.length c0] w fun e w' => ∃ v : Value, e = .returned v ∧ Kd.N k51 51 w' w.heap.size (fun _ => True) v l ∧ Below w.heap.size w w' := by
  have hu := Tryd.underlying24
  rcases A0 with _ | ad
  · obtain rfl := Hnd.nilC hr
    have he := fun W => Lib.run_eql_slice_nil (P := Tryd.prog) W 24 51 none 0 c0 0 0 hu
    go_enter Tryd.func13, Tryd.ntmps13
    go_wp2
    go_ret
    exact ⟨_, rfl, Kd.N_nil _ _ _ _ _, Below.refl _ _⟩
  · have he := fun W => Lib.run_eql_slice_nil (P := Tryd.prog) W 24 51 (some ad) l.length c0 0 0 hu
    go_enter Tryd.func13, Tryd.ntmps13
    have hR0 := Kd.R_N (Hnd.litR k51 51 w w.heap.size (Nat.le_refl _))
    have hok : ∀ k, k < w.heap.size → True ∧ some k ≠ (Value.slice (some ⟨w.heap.size, 0, none⟩) 0 0).ownBlock := fun k hk => ⟨trivial, fun e => by
      have : k = w.heap.size := by simpa [Value.ownBlock] using e
      omega⟩
    have hF0 := Kd.F_below (Kd.C_F gat_heap hr) (below_alloc (Below.refl w.heap.size w) (.cells #[] 51))
    go_wp2_with (at_builtin; (refine Kd.N_append_rows k51 (w0 := w) w.heap.size rfl (.tmp 5) (.tmp 6) 24 51 (.agg #[.int .i64 0, .int .u64 0, .slice none 0 0]) 40 rfl hu infoG rfl (by decide) (by decide) _ [] l (some ad) l.length c0 (fun _ => True) (fun k => k < w.heap.size) rfl rfl hR0 hF0 hok (fun _ _ => trivial) (below_alloc (Below.refl _ _) _) (by simp) (by simp; omega) ?_; intro v1 w1 hN hB _ _))
    go_ret
    exact ⟨_, rfl, by simpa using hN, hB⟩
set_option maxHeartbeats 1000000 in
set_option maxRecDepth 100000 in
theorem cloneF (A0 : Option Addr) (c0 : Nat) (l : List S44) (w : World) (hr : Kd.C k44 w A0 l.length l) (hc : l.length ≤ c0) (hl : l.length < 1099511627776) :
    Calls Tryd.prog 14 #[.slice A0 l.length c0] w fun e w' => ∃ v : Value, e = .returned v ∧ Kd.R k44 44 w' w.heap.size (fun _ => True) v l ∧ Below w.heap.size w w' := by
  have hu := Tryd.underlying23
  rcases A0 with _ | ad
  · obtain rfl := Hnd.nilC hr
    have he := fun W => Lib.run_eql_slice_nil (P := Tryd.prog) W 23 44 none 0 c0 0 0 hu
    go_enter Tryd.func14, Tryd.ntmps14
    go_wp2
    go_ret
    exact ⟨_, rfl, Kd.R_nil _ _ _ _ _, Below.refl _ _⟩
  · have he := fun W => Lib.run_eql_slice_nil (P := Tryd.prog) W 23 44 (some ad) l.length c0 0 0 hu
    go_enter Tryd.func14, Tryd.ntmps14
    have hR0 := Hnd.litR k44 44 w w.heap.size (Nat.le_refl _)
    have hC0 := Kd.C_below hr (below_alloc (Below.refl w.heap.size w) (.cells #[] 44))
    go_wp2_with (at_builtin; refine Kd.R_append_rows k44 (w0 := w) w.heap.size rfl (.tmp 5) (.tmp 6) 23 44 (.agg #[.string ⟨#[]⟩, .int .i64 0, .int .i64 0, .int .i64 0, .bool false]) 48 rfl hu infoF rfl (by decide) (by decide) _ [] l (some ad) l.length c0 (fun _ => True) (fun _ => False) rfl rfl hR0 hC0 (fun x cs hx => by rw [k44_open hx]; exact k44_mkM _ _ _ x) (fun _ hk => hk.elim) (fun _ _ => trivial) (below_alloc (Below.refl _ _) _) (by simp) (by simp; omega) ?_; intro v1 w1 hR hB _ _)
    go_ret
    exact ⟨_, rfl, by simpa using hR, hB⟩
set_option maxHeartbeats 1000000 in
set_option maxRecDepth 100000 in
theorem cloneI (A0 : Option Addr) (c0 : Nat) (l : List Int) (w : World) (hr : Kd.C (Kd.int .i64) w A0 l.length l) (hc : l.length ≤ c0) (hl : l.length < 1099511627776) :
    Calls Tryd.prog 31 #[.slice A0 l.length c0] w fun e w' => ∃ v : Value, e = .returned v ∧ Kd.R (Kd.int .i64) 3 w' w.heap.size (fun _ => True) v l ∧ Below w.heap.size w w' := by
  have hu := Tryd.underlying25
  rcases A0 with _ | ad
  · obtain rfl := Hnd.nilC hr
    have he := fun W => Lib.run_eql_slice_nil (P := Tryd.prog) W 25 3 none 0 c0 0 0 hu
    go_enter Tryd.func31, Tryd.ntmps31
    go_wp2
    go_ret
    exact ⟨_, rfl, Kd.R_nil _ _ _ _ _, Below.refl _ _⟩
  · have he := fun W => Lib.run_eql_slice_nil (P := Tryd.prog) W 25 3 (some ad) l.length c0 0 0 hu
    go_enter Tryd.func31, Tryd.ntmps31
    have hR0 := Hnd.litR (Kd.int .i64) 3 w w.heap.size (Nat.le_refl _)
    have hC0 := Kd.C_below hr (below_alloc (Below.refl w.heap.size w) (.cells #[] 3))
    go_wp2_with (at_builtin; refine Kd.R_append_rows (Kd.int .i64) (w0 := w) w.heap.size rfl (.tmp 5) (.tmp 6) 25 3 (.int .i64 0) 8 rfl hu infoI rfl (by decide) (by decide) _ [] l (some ad) l.length c0 (fun _ => True) (fun _ => False) rfl rfl hR0 hC0 (fun x cs hx => hx) (fun _ hk => hk.elim) (fun _ _ => trivial) (below_alloc (Below.refl _ _) _) (by simp) (by simp; omega) ?_; intro v1 w1 hR hB _ _)
    go_ret
    exact ⟨_, rfl, by simpa using hR, hB⟩
end Go.Proofs.YtpkpmdmmnhmnlaaDoor.PT
namespace Go.Proofs.YtpkpmdmmnhmnlaaDoor.PT
open Go.RowKit Go.Proofs.YtpkpmdmmnhmnlaaDoorW.PrintWords Go.Proofs.YtpkpmdmmnhmnlaaDoorW.PrintLast Go.Proofs.YtpkpmdmmnhmnlaaDoorW.PrintMore Go.Proofs.YtpkpmdmmnhmnlaaDoor.Aid
set_option linter.unusedVariables false
set_option linter.unusedSimpArgs false

abbrev EqFl := api_Flop_23.f
theorem eqI_ev (l : List Int) (hl : l.length ≤ 9223372036854775807) : ∃ k, slices_Equal_int_int.f k l l = some true := by
  refine Ev.rounds (g := fun k => slices_Equal_int_int.f k l l) ?_
  unfold slices_Equal_int_int.f
  refine Ev.pos rfl ?_
  refine down (P := fun i => Ev (fun k => slices_Equal_int_int.l0 k l l (l.length : Int) (i : Int)) true) l.length ?_ ?_ 0 (by omega)
  · exact Ev.step (f := fun k => _) (fun k => by rw [slices_Equal_int_int.l0]) (Ev.neg (by omega) (Ev.now _))
  · intro i hi ih
    refine Ev.step (f := fun k => _) (fun k => by rw [slices_Equal_int_int.l0]) (Ev.pos (by omega) (Ev.pos (by omega) (Ev.pos (by omega) (Ev.pos (by omega) (Ev.pos rfl ?_)))))
    rw [ws hi hl]
    exact ih
theorem eqS_ev (l : List ByteArray) (hl : l.length ≤ 9223372036854775807) : ∃ k, slices_Equal_string_string.f k l l = some true := by
  refine Ev.rounds (g := fun k => slices_Equal_string_string.f k l l) ?_
  unfold slices_Equal_string_string.f
  refine Ev.pos rfl ?_
  refine down (P := fun i => Ev (fun k => slices_Equal_string_string.l0 k l l (l.length : Int) (i : Int)) true) l.length ?_ ?_ 0 (by omega)
  · exact Ev.step (f := fun k => _) (fun k => by rw [slices_Equal_string_string.l0]) (Ev.neg (by omega) (Ev.now _))
  · intro i hi ih
    refine Ev.step (f := fun k => _) (fun k => by rw [slices_Equal_string_string.l0]) (Ev.pos (by omega) (Ev.pos (by omega) (Ev.pos (by omega) (Ev.pos (by omega) (Ev.pos rfl ?_)))))
    rw [ws hi hl]
    exact ih
theorem eqF_ev (l : List S44) (hl : l.length ≤ 9223372036854775807) : ∃ k, api_Flop_23.f k l l = some true := by
  refine Ev.rounds (g := fun k => api_Flop_23.f k l l) ?_
  unfold api_Flop_23.f
  refine Ev.pos rfl ?_
  refine down (P := fun i => Ev (fun k => api_Flop_23.l0 k l l (l.length : Int) (i : Int)) true) l.length ?_ ?_ 0 (by omega)
  · exact Ev.step (f := fun k => _) (fun k => by rw [api_Flop_23.l0]) (Ev.neg (by omega) (Ev.now _))
  · intro i hi ih
    refine Ev.step (f := fun k => _) (fun k => by rw [api_Flop_23.l0]) (Ev.pos (by omega) (Ev.pos (by omega) (Ev.pos (by omega) (Ev.pos (by omega) (Ev.neg (by simp) ?_)))))
    rw [ws hi hl]
    exact ih
set_option maxHeartbeats 1000000 in
set_option maxRecDepth 100000 in
theorem gsame_c (a b : Int) (l : List Int) (A0 A1 : Option Addr) (c0 c1 : Nat) (w : World) (h0 : Kd.C (Kd.int .i64) w A0 l.length l) (n0 : l.length ≤ c0) (h1 : Kd.C (Kd.int .i64) w A1 l.length l) (n1 : l.length ≤ c1) :
    Calls Tryd.prog 20 #[.agg #[.int .i64 a, .int .u64 b, .slice A0 l.length c0], .agg #[.int .i64 a, .int .u64 b, .slice A1 l.length c1]] w fun e w' => e = .returned (.bool true) ∧ Below w.heap.size w w' := by
  obtain ⟨k, hk⟩ := eqI_ev l h0.2.1
  have HK := Aside0.mk hk
  have B0 := Aside0.mk (below_alloc (below_alloc (Below.refl w.heap.size w) (.cells #[.int .i64 a, .int .u64 b, .slice A0 l.length c0] 51)) (.cells #[.int .i64 a, .int .u64 b, .slice A1 l.length c1] 51))
  have H0 := Aside0.mk (Kd.C_below h0 B0.out)
  have H1 := Aside0.mk (Kd.C_below h1 B0.out)
  have N0 := Aside0.mk (show l.length ≤ c0 ∧ l.length ≤ c1 from ⟨n0, n1⟩)
  clear h0 h1 n0 n1 hk
  go_enter Tryd.func20, Tryd.ntmps20
  go_wp2_with fail
  refine (slices_Equal_int_int.calls k A0 c0 l A1 c1 l true _ H0.out N0.out.1 H1.out N0.out.2 HK.out).mono ?_
  rintro e w1 ⟨rfl, hw⟩
  have B1 := Aside0.mk (below_step B0.out hw.below)
  clear hw B0 H0 H1 HK
  go_wp2
  go_ret
  exact ⟨rfl, B1.out⟩
set_option maxHeartbeats 2000000 in
set_option maxRecDepth 100000 in
theorem gsames_c (A0 A1 : Option Addr) (c0 c1 : Nat) (l : List S51) (w : World) (h0 : Kd.C k51 w A0 l.length l) (n0 : l.length ≤ c0) (h1 : Kd.C k51 w A1 l.length l) (n1 : l.length ≤ c1) :
    Calls Tryd.prog 24 #[.slice A0 l.length c0, .slice A1 l.length c1, .func (.func 20) #[] #[]] w fun e w' => e = .returned (.bool true) ∧ Below w.heap.size w w' := by
  have h63 : l.length ≤ 9223372036854775807 := h0.2.1
  have H0 := Aside0.mk h0
  have H1 := Aside0.mk h1
  clear h0 h1
  go_enter Tryd.func24, Tryd.ntmps24
  go_wp2
  go_loopw [17] (fun v wr => ∃ i : Int, 0 ≤ i ∧ i ≤ l.length ∧ v = .int .i64 i ∧ Aside0 (Below w.heap.size w wr)) (fun v _ => (l.length - (intOf v).toNat))
  case atStart => exact ⟨0, by omega, by omega, rfl, ⟨Below.refl _ _⟩⟩
  case round =>
    obtain ⟨i, h0, h1, rfl, hb⟩ := hrel
    by_cases hlt : i < l.length
    · obtain ⟨ad, A2, c2, rfl, d0, d1, d2, m0, e0⟩ := at_T51 (Kd.C_below H0.out hb.out) i h0 hlt
      have B1 := Aside0.mk (below_alloc hb.out (.cells #[.int .i64 (rd_T51 l i).f0, .int .u64 (rd_T51 l i).f1, .slice A2 (rd_T51 l i).f2.length c2] 51))
      have E0 := Aside0.mk (Kd.C_below e0 (below_alloc (Below.refl wr.heap.size wr) (.cells #[.int .i64 (rd_T51 l i).f0, .int .u64 (rd_T51 l i).f1, .slice A2 (rd_T51 l i).f2.length c2] 51)))
      obtain ⟨ad', A3, c3, rfl, f0, f1, f2, m1, e1⟩ := at_T51 (Kd.C_below H1.out B1.out) i h0 hlt
      have B2 := Aside0.mk (below_alloc B1.out (.cells #[.int .i64 (rd_T51 l i).f0, .int .u64 (rd_T51 l i).f1, .slice A3 (rd_T51 l i).f2.length c3] 51))
      have HB := below_alloc (Below.refl (wr.alloc (.cells #[.int .i64 (rd_T51 l i).f0, .int .u64 (rd_T51 l i).f1, .slice A2 (rd_T51 l i).f2.length c2] 51)).heap.size _) (.cells #[.int .i64 (rd_T51 l i).f0, .int .u64 (rd_T51 l i).f1, .slice A3 (rd_T51 l i).f2.length c3] 51)
      have E1 := Aside0.mk (Kd.C_below E0.out HB)
      have E2 := Aside0.mk (Kd.C_below e1 HB)
      have M := Aside0.mk (show (rd_T51 l i).f2.length ≤ c2 ∧ (rd_T51 l i).f2.length ≤ c3 from ⟨m0, m1⟩)
      clear e0 e1 m0 m1 E0 HB
      go_wp2_with fail
      refine (gsame_c _ _ _ A2 A3 c2 c3 _ E1.out M.out.1 E2.out M.out.2).mono ?_
      rintro e w1 ⟨rfl, hw⟩
      have hb1 := Aside0.mk (below_step B2.out hw)
      clear hw hb B1 B2 E1 E2 M d0 d1 d2 f0 f1 f2
      go_wp2
      go_roundw
      case rel => exact ⟨i + 1, by omega, by omega, by go_num, hb1⟩
      case measure => simp [intOf]; omega
    · have hend : i.toNat = l.length := by omega
      go_wp2
      go_ret
      exact ⟨rfl, hb.out⟩
theorem ncells {w : World} {g : Nat} {T : TypeId} {a b c d e : Value} (h : w.heap[g]? = some (.cells #[a, b, c, d, e] T (0, 0))) : w.cell? ⟨g, 0, none⟩ = some a ∧ w.cell? ⟨g, 1, none⟩ = some b ∧ w.cell? ⟨g, 2, none⟩ = some c ∧ w.cell? ⟨g, 3, none⟩ = some d ∧ w.cell? ⟨g, 4, none⟩ = some e :=
  ⟨(blk_cell h 0).trans rfl, (blk_cell h 1).trans rfl, (blk_cell h 2).trans rfl, (blk_cell h 3).trans rfl, (blk_cell h 4).trans rfl⟩
/-- A netlist's five rows, as they are read. -/
def NetC (w : World) (A0 : Option Addr) (c0 : Nat) (i : List ByteArray) (A1 : Option Addr) (c1 : Nat) (o : List ByteArray) (A2 : Option Addr) (c2 : Nat) (f : List S44) (A3 : Option Addr) (c3 : Nat) (g : List S51) (A4 : Option Addr) (c4 : Nat) (s : List Int) : Prop :=
  (Kd.C Kd.string w A0 i.length i ∧ Kd.C Kd.string w A1 o.length o ∧ Kd.C k44 w A2 f.length f ∧ Kd.C k51 w A3 g.length g ∧ Kd.C (Kd.int .i64) w A4 s.length s) ∧ i.length ≤ c0 ∧ o.length ≤ c1 ∧ f.length ≤ c2 ∧ g.length ≤ c3 ∧ s.length ≤ c4
theorem NetC.below {w w' : World} {A0 A1 A2 A3 A4 : Option Addr} {c0 c1 c2 c3 c4 : Nat} {i o : List ByteArray} {f : List S44} {g : List S51} {s : List Int} (h : NetC w A0 c0 i A1 c1 o A2 c2 f A3 c3 g A4 c4 s) (hb : Below w.heap.size w w') : NetC w' A0 c0 i A1 c1 o A2 c2 f A3 c3 g A4 c4 s :=
  ⟨⟨Kd.C_below h.1.1 hb, Kd.C_below h.1.2.1 hb, Kd.C_below h.1.2.2.1 hb, Kd.C_below h.1.2.2.2.1 hb, Kd.C_below h.1.2.2.2.2 hb⟩, h.2⟩
set_option maxHeartbeats 4000000 in
set_option maxRecDepth 100000 in
theorem same_c (A0 : Option Addr) (c0 : Nat) (i : List ByteArray) (A1 : Option Addr) (c1 : Nat) (o : List ByteArray) (A2 : Option Addr) (c2 : Nat) (f : List S44) (A3 : Option Addr) (c3 : Nat) (g : List S51) (A4 : Option Addr) (c4 : Nat) (s : List Int) (B0 : Option Addr) (d0 : Nat) (B1 : Option Addr) (d1 : Nat) (B2 : Option Addr) (d2 : Nat) (B3 : Option Addr) (d3 : Nat) (B4 : Option Addr) (d4 : Nat) (w : World)
    (h : NetC w A0 c0 i A1 c1 o A2 c2 f A3 c3 g A4 c4 s) (h' : NetC w B0 d0 i B1 d1 o B2 d2 f B3 d3 g B4 d4 s) :
    Calls Tryd.prog 7 #[.agg #[.slice A0 i.length c0, .slice A1 o.length c1, .slice A2 f.length c2, .slice A3 g.length c3, .slice A4 s.length c4], .agg #[.slice B0 i.length d0, .slice B1 o.length d1, .slice B2 f.length d2, .slice B3 g.length d3, .slice B4 s.length d4]] w fun e w' => e = .returned (.bool true) ∧ Below w.heap.size w w' := by
  have hu27 := Tryd.underlying27
  obtain ⟨k0, e0⟩ := eqS_ev i h.1.1.2.1
  obtain ⟨k1, e1⟩ := eqS_ev o h.1.2.1.2.1
  obtain ⟨k2, e2⟩ := eqF_ev f h.1.2.2.1.2.1
  obtain ⟨k4, e4⟩ := eqI_ev s h.1.2.2.2.2.2.1
  have F0 := Aside0.mk e0
  have F1 := Aside0.mk e1
  have F2 := Aside0.mk e2
  have F4 := Aside0.mk e4
  have BA := blk_new w (.cells #[.slice A0 i.length c0, .slice A1 o.length c1, .slice A2 f.length c2, .slice A3 g.length c3, .slice A4 s.length c4] 27)
  have HB := Aside0.mk (below_alloc (below_alloc (Below.refl w.heap.size w) (.cells #[.slice A0 i.length c0, .slice A1 o.length c1, .slice A2 f.length c2, .slice A3 g.length c3, .slice A4 s.length c4] 27)) (.cells #[.slice B0 i.length d0, .slice B1 o.length d1, .slice B2 f.length d2, .slice B3 g.length d3, .slice B4 s.length d4] 27))
  have XA := Aside0.mk (blk_alloc BA (.cells #[.slice B0 i.length d0, .slice B1 o.length d1, .slice B2 f.length d2, .slice B3 g.length d3, .slice B4 s.length d4] 27))
  have XB := Aside0.mk (Hnd.blk_new1 w (.cells #[.slice A0 i.length c0, .slice A1 o.length c1, .slice A2 f.length c2, .slice A3 g.length c3, .slice A4 s.length c4] 27) (.cells #[.slice B0 i.length d0, .slice B1 o.length d1, .slice B2 f.length d2, .slice B3 g.length d3, .slice B4 s.length d4] 27))
  have HA := Aside0.mk (h.below HB.out)
  have HC := Aside0.mk (h'.below HB.out)
  clear e0 e1 e2 e4 BA h h'
  go_enter Tryd.func7, Tryd.ntmps7
  go_wp2_with fail
  refine (slices_Equal_string_string.calls k0 A0 c0 i B0 d0 i true _ HA.out.1.1 HA.out.2.1 HC.out.1.1 HC.out.2.1 F0.out).mono ?_
  rintro e w1 ⟨rfl, hw0⟩
  have hw := hw0.below
  clear hw0
  replace HB := Aside0.mk (below_step HB.out hw)
  replace XA := Aside0.mk (blk_below XA.out hw)
  replace XB := Aside0.mk (blk_below XB.out hw)
  replace HA := Aside0.mk (HA.out.below hw)
  replace HC := Aside0.mk (HC.out.below hw)
  clear hw
  obtain ⟨a0, a1, a2, a3, a4⟩ := ncells XA.out
  obtain ⟨b0, b1, b2, b3, b4⟩ := ncells XB.out
  go_wp2_with fail
  refine (slices_Equal_string_string.calls k1 A1 c1 o B1 d1 o true _ HA.out.1.2.1 HA.out.2.2.1 HC.out.1.2.1 HC.out.2.2.1 F1.out).mono ?_
  rintro e w2 ⟨rfl, hw0⟩
  have hw := hw0.below
  clear hw0
  replace HB := Aside0.mk (below_step HB.out hw)
  replace XA := Aside0.mk (blk_below XA.out hw)
  replace XB := Aside0.mk (blk_below XB.out hw)
  replace HA := Aside0.mk (HA.out.below hw)
  replace HC := Aside0.mk (HC.out.below hw)
  clear hw
  obtain ⟨a0, a1, a2, a3, a4⟩ := ncells XA.out
  obtain ⟨b0, b1, b2, b3, b4⟩ := ncells XB.out
  go_wp2_with fail
  refine (api_Flop_23.calls k2 A2 c2 f B2 d2 f true _ HA.out.1.2.2.1 HA.out.2.2.2.1 HC.out.1.2.2.1 HC.out.2.2.2.1 F2.out).mono ?_
  rintro e w3 ⟨rfl, hw0⟩
  have hw := hw0.below
  clear hw0
  replace HB := Aside0.mk (below_step HB.out hw)
  replace XA := Aside0.mk (blk_below XA.out hw)
  replace XB := Aside0.mk (blk_below XB.out hw)
  replace HA := Aside0.mk (HA.out.below hw)
  replace HC := Aside0.mk (HC.out.below hw)
  clear hw
  obtain ⟨a0, a1, a2, a3, a4⟩ := ncells XA.out
  obtain ⟨b0, b1, b2, b3, b4⟩ := ncells XB.out
  go_wp2_with fail
  refine (gsames_c A3 B3 c3 d3 g _ HA.out.1.2.2.2.1 HA.out.2.2.2.2.1 HC.out.1.2.2.2.1 HC.out.2.2.2.2.1).mono ?_
  rintro e w4 ⟨rfl, hw⟩
  replace HB := Aside0.mk (below_step HB.out hw)
  replace XA := Aside0.mk (blk_below XA.out hw)
  replace XB := Aside0.mk (blk_below XB.out hw)
  replace HA := Aside0.mk (HA.out.below hw)
  replace HC := Aside0.mk (HC.out.below hw)
  clear hw
  obtain ⟨a0, a1, a2, a3, a4⟩ := ncells XA.out
  obtain ⟨b0, b1, b2, b3, b4⟩ := ncells XB.out
  go_wp2_with fail
  refine (slices_Equal_int_int.calls k4 A4 c4 s B4 d4 s true _ HA.out.1.2.2.2.2 HA.out.2.2.2.2.2 HC.out.1.2.2.2.2 HC.out.2.2.2.2.2 F4.out).mono ?_
  rintro e w5 ⟨rfl, hw0⟩
  have HB5 := Aside0.mk (below_step HB.out hw0.below)
  clear hw0 HB XA XB HA HC
  go_wp2
  go_ret
  exact ⟨rfl, HB5.out⟩
end Go.Proofs.YtpkpmdmmnhmnlaaDoor.PT
namespace Go.Proofs.YtpkpmdmmnhmnlaaDoor.PT
open Go.RowKit Go.Proofs.YtpkpmdmmnhmnlaaDoorW.PrintWords Go.Proofs.YtpkpmdmmnhmnlaaDoorW.PrintLast Go.Proofs.YtpkpmdmmnhmnlaaDoorW.PrintMore Go.Proofs.YtpkpmdmmnhmnlaaDoor.Aid
set_option linter.unusedVariables false
set_option linter.unusedSimpArgs false

abbrev Cel := S48
abbrev Flp := S44
abbrev Gat := S51
def isbV (x : Cel) : Bool := !x.f1 && (decide (x.f2 = 1) && x.f3 == 2)
theorem isbV_eq (x : Cel) : tree_IsBuffer.f x.f0 x.f1 x.f2 x.f3 x.f4 x.f5 x.f6 x.f7 x.f8 x.f9 x.f10 = some (isbV x) := by
  unfold tree_IsBuffer.f isbV
  cases x.f1 <;> by_cases h : x.f2 = 1 <;> simp [h]
def takesV (x : Flp) : Int := if x.f3 = 1 then 1 else 2
theorem takesV_eq (x : Flp) : delay_Inputs.f x.f0 x.f1 x.f2 x.f3 x.f4 = some (takesV x) := by
  unfold delay_Inputs.f takesV
  split <;> rfl
/-- The flip-flop's input is there. -/
def EndB (f : List Flp) (flop input : Int) : Prop := 0 ≤ flop ∧ flop < (f.length : Int) ∧ 0 ≤ input ∧ input < takesV (rd_T44 f flop)
def CelB (lb : List Cel) (cell : Int) : Prop := 0 ≤ cell ∧ cell < (lb.length : Int) ∧ isbV (rd_T48 lb cell) = true
def netN (i : List ByteArray) (f : List Flp) (g : List Gat) : Int := wrap64 (wrap64 (wrap64 (2 + (i.length : Int)) + (f.length : Int)) + (g.length : Int))
def newF (input : Int) (x : Flp) (n : Int) : Flp := if input = 1 then ⟨x.f0, x.f1, x.f2, n, x.f4⟩ else ⟨x.f0, x.f1, n, x.f3, x.f4⟩
def oldD (input : Int) (x : Flp) : Int := if input = 1 then x.f3 else x.f2
def outF (i : List ByteArray) (f : List Flp) (g : List Gat) (flop input : Int) : List Flp := f.set flop.toNat (newF input (rd_T44 f flop) (netN i f g))
def outG (f : List Flp) (g : List Gat) (flop input cell : Int) : List Gat := g ++ [⟨cell, 2, [oldD input (rd_T44 f flop)]⟩]
/-- Why a buffer is not put in. -/
def ErrB (ce : Int) (f : List Flp) (g : List Gat) (lb : List Cel) (flop input cell err : Int) : Prop :=
  (ce ≠ 0 ∧ err = ce) ∨ (ce = 0 ∧ ¬ EndB f flop input ∧ err = 7) ∨ (ce = 0 ∧ EndB f flop input ∧ ¬ CelB lb cell ∧ err = 8) ∨ (ce = 0 ∧ EndB f flop input ∧ CelB lb cell ∧ g.length + f.length = 300 ∧ err = 3)
theorem nfarR {α : Type} {K : Kd α} {e base : Nat} {ok : Nat → Prop} {W : World} {v : Value} {xs : List α} {g : Nat} (h : Kd.R K e W base ok v xs) (hok : ∀ k, ok k → k ≠ g) (a b c d e' : Value) : Kd.R K e (((((W.setCell ⟨g, 0, none⟩ a).setCell ⟨g, 1, none⟩ b).setCell ⟨g, 2, none⟩ c).setCell ⟨g, 3, none⟩ d).setCell ⟨g, 4, none⟩ e') base ok v xs :=
  Kd.R_far (Kd.R_far (Kd.R_far (Kd.R_far (Kd.R_far h (p := ⟨g, 0, none⟩) hok a) (p := ⟨g, 1, none⟩) hok b) (p := ⟨g, 2, none⟩) hok c) (p := ⟨g, 3, none⟩) hok d) (p := ⟨g, 4, none⟩) hok e'
theorem nfarN {α : Type} {K : Kd α} {e base : Nat} {ok : Nat → Prop} {W : World} {v : Value} {xs : List α} {g : Nat} (h : Kd.N K e W base ok v xs) (hok : ∀ k, ok k → k ≠ g) (a b c d e' : Value) : Kd.N K e (((((W.setCell ⟨g, 0, none⟩ a).setCell ⟨g, 1, none⟩ b).setCell ⟨g, 2, none⟩ c).setCell ⟨g, 3, none⟩ d).setCell ⟨g, 4, none⟩ e') base ok v xs :=
  Kd.N_far (Kd.N_far (Kd.N_far (Kd.N_far (Kd.N_far h (p := ⟨g, 0, none⟩) hok a) (p := ⟨g, 1, none⟩) hok b) (p := ⟨g, 2, none⟩) hok c) (p := ⟨g, 3, none⟩) hok d) (p := ⟨g, 4, none⟩) hok e'
theorem nput {w : World} {g : Nat} {T : TypeId} {a b c d e : Value} (h : w.heap[g]? = some (.cells #[a, b, c, d, e] T (0, 0))) (a' b' c' d' e' : Value) : (((((w.setCell ⟨g, 0, none⟩ a').setCell ⟨g, 1, none⟩ b').setCell ⟨g, 2, none⟩ c').setCell ⟨g, 3, none⟩ d').setCell ⟨g, 4, none⟩ e').heap[g]? = some (.cells #[a', b', c', d', e'] T (0, 0)) :=
  blk_put (cs := #[a', b', c', d', e]) (blk_put (cs := #[a', b', c', d, e]) (blk_put (cs := #[a', b', c, d, e]) (blk_put (cs := #[a', b, c, d, e]) (blk_put (cs := #[a, b, c, d, e]) h 0 _ rfl) 1 _ rfl) 2 _ rfl) 3 _ rfl) 4 _ rfl
theorem nput_below {w W : World} {g : Nat} {a b c d e : Value} (h : Below w.heap.size w W) (hg : w.heap.size ≤ g) : Below w.heap.size w (((((W.setCell ⟨g, 0, none⟩ a).setCell ⟨g, 1, none⟩ b).setCell ⟨g, 2, none⟩ c).setCell ⟨g, 3, none⟩ d).setCell ⟨g, 4, none⟩ e) :=
  below_set (below_set (below_set (below_set (below_set h hg) hg) hg) hg) hg
theorem nfroz {w : World} {g : Nat} {T : TypeId} {a b c d e : Value} (h : w.heap[g]? = some (.cells #[a, b, c, d, e] T (0, 0))) : w.frozen? ⟨g, 0, none⟩ = false ∧ w.frozen? ⟨g, 1, none⟩ = false ∧ w.frozen? ⟨g, 2, none⟩ = false ∧ w.frozen? ⟨g, 3, none⟩ = false ∧ w.frozen? ⟨g, 4, none⟩ = false :=
  ⟨blk_frozen h 0, blk_frozen h 1, blk_frozen h 2, blk_frozen h 3, blk_frozen h 4⟩
set_option maxHeartbeats 8000000 in
set_option maxRecDepth 100000 in
theorem add_err (A0 : Option Addr) (c0 : Nat) (i : List ByteArray) (A1 : Option Addr) (c1 : Nat) (o : List ByteArray) (A2 : Option Addr) (c2 : Nat) (f : List S44) (A3 : Option Addr) (c3 : Nat) (g : List S51) (A4 : Option Addr) (c4 : Nat) (s : List Int) (AL : Option Addr) (cL : Nat) (lb : List S48) (flop input cell : Int) (ce : Int) (k : Nat) (w : World) (hn : NetC w A0 c0 i A1 c1 o A2 c2 f A3 c3 g A4 c4 s) (hl : Kd.C k48 w AL lb.length lb) (hcL : lb.length ≤ cL) (hck : floor_CheckChip.f k i o f g s lb = some ce) (err : Int) (he : ErrB ce f g lb flop input cell err) :
    Calls Tryd.prog 5 #[.agg #[.slice A0 i.length c0, .slice A1 o.length c1, .slice A2 f.length c2, .slice A3 g.length c3, .slice A4 s.length c4], .slice AL lb.length cL, .int .i64 flop, .int .i64 input, .int .i64 cell] w fun e w' => e = .returned (.tuple #[.agg #[.slice none 0 0, .slice none 0 0, .slice none 0 0, .slice none 0 0, .slice none 0 0], .int .i64 err]) ∧ Below w.heap.size w w' := by
  have hu27 := Tryd.underlying27
  have HB := Aside0.mk (below_alloc (below_alloc (Below.refl w.heap.size w) (.cells #[.slice A0 i.length c0, .slice A1 o.length c1, .slice A2 f.length c2, .slice A3 g.length c3, .slice A4 s.length c4] 27)) (.cells #[.slice none 0 0, .slice none 0 0, .slice none 0 0, .slice none 0 0, .slice none 0 0] 27))
  have X := Aside0.mk (blk_alloc (blk_new w (.cells #[.slice A0 i.length c0, .slice A1 o.length c1, .slice A2 f.length c2, .slice A3 g.length c3, .slice A4 s.length c4] 27)) (.cells #[.slice none 0 0, .slice none 0 0, .slice none 0 0, .slice none 0 0, .slice none 0 0] 27))
  have Z := Aside0.mk (Hnd.blk_new1 w (.cells #[.slice A0 i.length c0, .slice A1 o.length c1, .slice A2 f.length c2, .slice A3 g.length c3, .slice A4 s.length c4] 27) (.cells #[.slice none 0 0, .slice none 0 0, .slice none 0 0, .slice none 0 0, .slice none 0 0] 27))
  have HN := Aside0.mk (hn.below HB.out)
  have HL := Aside0.mk (Kd.C_below hl HB.out)
  have ML := Aside0.mk hcL
  have CK := Aside0.mk hck
  clear hn hl hcL hck
  go_enter Tryd.func5, Tryd.ntmps5
  go_wp2_with fail
  refine (floor_CheckChip.calls k A0 c0 i A1 c1 o A2 c2 f A3 c3 g A4 c4 s AL cL lb ce _ HN.out.1.1 HN.out.2.1 HN.out.1.2.1 HN.out.2.2.1 HN.out.1.2.2.1 HN.out.2.2.2.1 HN.out.1.2.2.2.1 HN.out.2.2.2.2.1 HN.out.1.2.2.2.2 HN.out.2.2.2.2.2 HL.out ML.out CK.out).mono ?_
  rintro e w1 ⟨rfl, hw⟩
  replace HB := Aside0.mk (below_step HB.out hw)
  replace X := Aside0.mk (blk_below X.out hw)
  replace Z := Aside0.mk (blk_below Z.out hw)
  replace HN := Aside0.mk (HN.out.below hw)
  replace HL := Aside0.mk (Kd.C_below HL.out hw)
  clear hw
  obtain ⟨x0, x1, x2, x3, x4⟩ := ncells X.out
  obtain ⟨z0, z1, z2, z3, z4⟩ := ncells Z.out
  obtain ⟨y0, y1, y2, y3, y4⟩ := nfroz Z.out
  rcases he with ⟨h0, he⟩ | ⟨h0, h1, rfl⟩ | ⟨h0, h1, h2, rfl⟩ | ⟨h0, h1, h2, h3, rfl⟩
  · obtain rfl : err = ce := he
    have q1 : (err == 0) = false := beq_eq_false_iff_ne.mpr h0
    have q2 : (err != 0) = true := bne_iff_ne.mpr h0
    clear h0
    go_wp2
    refine bodyPost_ret (results_ct rfl _ _ (w.heap.size + 1) 27 #[.slice none 0 0, .slice none 0 0, .slice none 0 0, .slice none 0 0, .slice none 0 0] (0, 0) _ rfl (nput Z.out _ _ _ _ _) hu27 rfl (by kernel_rfl)) rfl ?_
    exact ⟨rfl, nput_below HB.out (Nat.le_succ _)⟩
  · subst h0
    by_cases e0 : 0 ≤ flop
    · by_cases e1 : flop < (f.length : Int)
      · by_cases e2 : 0 ≤ input
        · have e3 : takesV (rd_T44 f flop) ≤ input := Int.not_lt.1 (fun e3 => h1 ⟨e0, e1, e2, e3⟩)
          have d1 : decide (flop < 0) = false := decide_eq_false (by omega)
          have d2 : decide (flop ≥ (f.length : Int)) = false := decide_eq_false (by omega)
          have d2' : decide ((f.length : Int) ≤ flop) = false := decide_eq_false (by omega)
          have d3 : decide (input < 0) = false := decide_eq_false (by omega)
          obtain ⟨ad, rfl, t0, t1, t2, t3, t4⟩ := at_T44 HN.out.1.2.2.1 flop e0 e1
          go_wp2_with fail
          refine (delay_Inputs.calls _ _ _ _ _ (takesV (rd_T44 f flop)) _ (takesV_eq _)).mono ?_
          rintro e w2 ⟨rfl, hw⟩
          clear t0 t1 t2 t3 t4
          (try clear x0 x1 x2 x3 x4 z0 z1 z2 z3 z4 y0 y1 y2 y3 y4)
          replace HB := Aside0.mk (below_step HB.out hw)
          replace X := Aside0.mk (blk_below X.out hw)
          replace Z := Aside0.mk (blk_below Z.out hw)
          replace HN := Aside0.mk (HN.out.below hw)
          replace HL := Aside0.mk (Kd.C_below HL.out hw)
          clear hw
          obtain ⟨x0, x1, x2, x3, x4⟩ := ncells X.out
          obtain ⟨z0, z1, z2, z3, z4⟩ := ncells Z.out
          obtain ⟨y0, y1, y2, y3, y4⟩ := nfroz Z.out
          have d4 : decide (input ≥ takesV (rd_T44 f flop)) = true := decide_eq_true (by omega)
          have d4' : decide (takesV (rd_T44 f flop) ≤ input) = true := decide_eq_true (by omega)
          go_wp2
          refine bodyPost_ret (results_ct rfl _ _ (w.heap.size + 1) 27 #[.slice none 0 0, .slice none 0 0, .slice none 0 0, .slice none 0 0, .slice none 0 0] (0, 0) _ rfl (nput Z.out _ _ _ _ _) hu27 rfl (by kernel_rfl)) rfl ?_
          exact ⟨rfl, nput_below HB.out (Nat.le_succ _)⟩
        · skip
          have d1 : decide (flop < 0) = false := decide_eq_false (by omega)
          have d2 : decide (flop ≥ (f.length : Int)) = false := decide_eq_false (by omega)
          have d2' : decide ((f.length : Int) ≤ flop) = false := decide_eq_false (by omega)
          have d3 : decide (input < 0) = true := decide_eq_true (by omega)
          go_wp2
          refine bodyPost_ret (results_ct rfl _ _ (w.heap.size + 1) 27 #[.slice none 0 0, .slice none 0 0, .slice none 0 0, .slice none 0 0, .slice none 0 0] (0, 0) _ rfl (nput Z.out _ _ _ _ _) hu27 rfl (by kernel_rfl)) rfl ?_
          exact ⟨rfl, nput_below HB.out (Nat.le_succ _)⟩
      · skip
        have d1 : decide (flop < 0) = false := decide_eq_false (by omega)
        have d2 : decide (flop ≥ (f.length : Int)) = true := decide_eq_true (by omega)
        have d2' : decide ((f.length : Int) ≤ flop) = true := decide_eq_true (by omega)
        go_wp2
        refine bodyPost_ret (results_ct rfl _ _ (w.heap.size + 1) 27 #[.slice none 0 0, .slice none 0 0, .slice none 0 0, .slice none 0 0, .slice none 0 0] (0, 0) _ rfl (nput Z.out _ _ _ _ _) hu27 rfl (by kernel_rfl)) rfl ?_
        exact ⟨rfl, nput_below HB.out (Nat.le_succ _)⟩
    · skip
      have d1 : decide (flop < 0) = true := decide_eq_true (by omega)
      go_wp2
      refine bodyPost_ret (results_ct rfl _ _ (w.heap.size + 1) 27 #[.slice none 0 0, .slice none 0 0, .slice none 0 0, .slice none 0 0, .slice none 0 0] (0, 0) _ rfl (nput Z.out _ _ _ _ _) hu27 rfl (by kernel_rfl)) rfl ?_
      exact ⟨rfl, nput_below HB.out (Nat.le_succ _)⟩
  · subst h0
    obtain ⟨e0, e1, e2, e3⟩ := h1
    have d1 : decide (flop < 0) = false := decide_eq_false (by omega)
    have d2 : decide (flop ≥ (f.length : Int)) = false := decide_eq_false (by omega)
    have d2' : decide ((f.length : Int) ≤ flop) = false := decide_eq_false (by omega)
    have d3 : decide (input < 0) = false := decide_eq_false (by omega)
    obtain ⟨ad, rfl, t0, t1, t2, t3, t4⟩ := at_T44 HN.out.1.2.2.1 flop e0 e1
    go_wp2_with fail
    refine (delay_Inputs.calls _ _ _ _ _ (takesV (rd_T44 f flop)) _ (takesV_eq _)).mono ?_
    rintro e w2 ⟨rfl, hw⟩
    clear t0 t1 t2 t3 t4
    (try clear x0 x1 x2 x3 x4 z0 z1 z2 z3 z4 y0 y1 y2 y3 y4)
    replace HB := Aside0.mk (below_step HB.out hw)
    replace X := Aside0.mk (blk_below X.out hw)
    replace Z := Aside0.mk (blk_below Z.out hw)
    replace HN := Aside0.mk (HN.out.below hw)
    replace HL := Aside0.mk (Kd.C_below HL.out hw)
    clear hw
    obtain ⟨x0, x1, x2, x3, x4⟩ := ncells X.out
    obtain ⟨z0, z1, z2, z3, z4⟩ := ncells Z.out
    obtain ⟨y0, y1, y2, y3, y4⟩ := nfroz Z.out
    have d4 : decide (input ≥ takesV (rd_T44 f flop)) = false := decide_eq_false (by omega)
    have d4' : decide (takesV (rd_T44 f flop) ≤ input) = false := decide_eq_false (by omega)
    by_cases b0 : 0 ≤ cell
    · by_cases b1 : cell < (lb.length : Int)
      · have hb : isbV (rd_T48 lb cell) = false := by
          cases hb : isbV (rd_T48 lb cell) with
          | true => exact absurd ⟨b0, b1, hb⟩ h2
          | false => rfl
        have g1 : decide (cell < 0) = false := decide_eq_false (by omega)
        have g2 : decide (cell ≥ (lb.length : Int)) = false := decide_eq_false (by omega)
        have g2' : decide ((lb.length : Int) ≤ cell) = false := decide_eq_false (by omega)
        obtain ⟨ab, A5, c5, A6, c6, A7, c7, rfl, u0, u1, u2, u3, u4, u5, u6, u7, u8, u9, u10, l5, r5, l6, r6, l7, r7⟩ := at_T48 HL.out cell b0 b1
        go_wp2_with fail
        refine (tree_IsBuffer.calls _ _ _ _ _ A5 c5 _ A6 c6 _ A7 c7 _ _ _ _ false _ r5 l5 r6 l6 r7 l7 ((isbV_eq _).trans (congrArg some hb))).mono ?_
        rintro e w3 ⟨rfl, hw⟩
        clear u0 u1 u2 u3 u4 u5 u6 u7 u8 u9 u10 l5 r5 l6 r6 l7 r7
        (try clear x0 x1 x2 x3 x4 z0 z1 z2 z3 z4 y0 y1 y2 y3 y4)
        replace HB := Aside0.mk (below_step HB.out hw)
        replace X := Aside0.mk (blk_below X.out hw)
        replace Z := Aside0.mk (blk_below Z.out hw)
        replace HN := Aside0.mk (HN.out.below hw)
        replace HL := Aside0.mk (Kd.C_below HL.out hw)
        clear hw
        obtain ⟨x0, x1, x2, x3, x4⟩ := ncells X.out
        obtain ⟨z0, z1, z2, z3, z4⟩ := ncells Z.out
        obtain ⟨y0, y1, y2, y3, y4⟩ := nfroz Z.out
        go_wp2
        refine bodyPost_ret (results_ct rfl _ _ (w.heap.size + 1) 27 #[.slice none 0 0, .slice none 0 0, .slice none 0 0, .slice none 0 0, .slice none 0 0] (0, 0) _ rfl (nput Z.out _ _ _ _ _) hu27 rfl (by kernel_rfl)) rfl ?_
        exact ⟨rfl, nput_below HB.out (Nat.le_succ _)⟩
      · skip
        have g1 : decide (cell < 0) = false := decide_eq_false (by omega)
        have g2 : decide (cell ≥ (lb.length : Int)) = true := decide_eq_true (by omega)
        have g2' : decide ((lb.length : Int) ≤ cell) = true := decide_eq_true (by omega)
        go_wp2
        refine bodyPost_ret (results_ct rfl _ _ (w.heap.size + 1) 27 #[.slice none 0 0, .slice none 0 0, .slice none 0 0, .slice none 0 0, .slice none 0 0] (0, 0) _ rfl (nput Z.out _ _ _ _ _) hu27 rfl (by kernel_rfl)) rfl ?_
        exact ⟨rfl, nput_below HB.out (Nat.le_succ _)⟩
    · skip
      have g1 : decide (cell < 0) = true := decide_eq_true (by omega)
      go_wp2
      refine bodyPost_ret (results_ct rfl _ _ (w.heap.size + 1) 27 #[.slice none 0 0, .slice none 0 0, .slice none 0 0, .slice none 0 0, .slice none 0 0] (0, 0) _ rfl (nput Z.out _ _ _ _ _) hu27 rfl (by kernel_rfl)) rfl ?_
      exact ⟨rfl, nput_below HB.out (Nat.le_succ _)⟩
  · subst h0
    obtain ⟨e0, e1, e2, e3⟩ := h1
    obtain ⟨b0, b1, hb⟩ := h2
    have d1 : decide (flop < 0) = false := decide_eq_false (by omega)
    have d2 : decide (flop ≥ (f.length : Int)) = false := decide_eq_false (by omega)
    have d2' : decide ((f.length : Int) ≤ flop) = false := decide_eq_false (by omega)
    have d3 : decide (input < 0) = false := decide_eq_false (by omega)
    obtain ⟨ad, rfl, t0, t1, t2, t3, t4⟩ := at_T44 HN.out.1.2.2.1 flop e0 e1
    go_wp2_with fail
    refine (delay_Inputs.calls _ _ _ _ _ (takesV (rd_T44 f flop)) _ (takesV_eq _)).mono ?_
    rintro e w2 ⟨rfl, hw⟩
    clear t0 t1 t2 t3 t4
    (try clear x0 x1 x2 x3 x4 z0 z1 z2 z3 z4 y0 y1 y2 y3 y4)
    replace HB := Aside0.mk (below_step HB.out hw)
    replace X := Aside0.mk (blk_below X.out hw)
    replace Z := Aside0.mk (blk_below Z.out hw)
    replace HN := Aside0.mk (HN.out.below hw)
    replace HL := Aside0.mk (Kd.C_below HL.out hw)
    clear hw
    obtain ⟨x0, x1, x2, x3, x4⟩ := ncells X.out
    obtain ⟨z0, z1, z2, z3, z4⟩ := ncells Z.out
    obtain ⟨y0, y1, y2, y3, y4⟩ := nfroz Z.out
    have d4 : decide (input ≥ takesV (rd_T44 f flop)) = false := decide_eq_false (by omega)
    have d4' : decide (takesV (rd_T44 f flop) ≤ input) = false := decide_eq_false (by omega)
    have g1 : decide (cell < 0) = false := decide_eq_false (by omega)
    have g2 : decide (cell ≥ (lb.length : Int)) = false := decide_eq_false (by omega)
    have g2' : decide ((lb.length : Int) ≤ cell) = false := decide_eq_false (by omega)
    obtain ⟨ab, A5, c5, A6, c6, A7, c7, rfl, u0, u1, u2, u3, u4, u5, u6, u7, u8, u9, u10, l5, r5, l6, r6, l7, r7⟩ := at_T48 HL.out cell b0 b1
    go_wp2_with fail
    refine (tree_IsBuffer.calls _ _ _ _ _ A5 c5 _ A6 c6 _ A7 c7 _ _ _ _ true _ r5 l5 r6 l6 r7 l7 ((isbV_eq _).trans (congrArg some hb))).mono ?_
    rintro e w3 ⟨rfl, hw⟩
    clear u0 u1 u2 u3 u4 u5 u6 u7 u8 u9 u10 l5 r5 l6 r6 l7 r7
    (try clear x0 x1 x2 x3 x4 z0 z1 z2 z3 z4 y0 y1 y2 y3 y4)
    replace HB := Aside0.mk (below_step HB.out hw)
    replace X := Aside0.mk (blk_below X.out hw)
    replace Z := Aside0.mk (blk_below Z.out hw)
    replace HN := Aside0.mk (HN.out.below hw)
    replace HL := Aside0.mk (Kd.C_below HL.out hw)
    clear hw
    obtain ⟨x0, x1, x2, x3, x4⟩ := ncells X.out
    obtain ⟨z0, z1, z2, z3, z4⟩ := ncells Z.out
    obtain ⟨y0, y1, y2, y3, y4⟩ := nfroz Z.out
    have s1 : wrap64 ((g.length : Int) + (f.length : Int)) = 300 := by rw [w64 (by omega) (by omega)]; omega
    go_wp2
    refine bodyPost_ret (results_ct rfl _ _ (w.heap.size + 1) 27 #[.slice none 0 0, .slice none 0 0, .slice none 0 0, .slice none 0 0, .slice none 0 0] (0, 0) _ rfl (nput Z.out _ _ _ _ _) hu27 rfl (by kernel_rfl)) rfl ?_
    exact ⟨rfl, nput_below HB.out (Nat.le_succ _)⟩
end Go.Proofs.YtpkpmdmmnhmnlaaDoor.PT
