/- slices.Clone of flip-flops, gates and whole numbers (by hand), with what the print's first text lacks for rows that share. No conditions. -/
-- PRINTED by print.py (a twelfth state) out of the translation. Not trusted: Lean checks it.
import Derived.Test.YtpkpmdmmnhmnlaaDoorPTx0
import Derived.Test.YtpkpmdmmnhmnlaaDoorHnd
import Derived.Test.YtpkpmdmmnhmnlaaDoorCmp
import Derived.Test.YtpkpmdmmnhmnlaaDoorPTx13
namespace Go.Proofs.YtpkpmdmmnhmnlaaDoor.PT
open Go.RowKit Go.Proofs.YtpkpmdmmnhmnlaaDoorW.PrintWords Go.Proofs.YtpkpmdmmnhmnlaaDoorW.PrintLast Go.Proofs.YtpkpmdmmnhmnlaaDoorW.PrintMore
set_option linter.unusedVariables false
set_option linter.unusedSimpArgs false
theorem Hnd.litN {α : Type} (d : Kd α) (e : Nat) (W : World) : Kd.R d e (W.alloc (.cells #[] e)) W.heap.size (fun k => k = W.heap.size) (.slice (some ⟨W.heap.size, 0, none⟩) 0 0) [] :=
  ⟨fun k hk => by simpa [Value.ownBlock] using hk.symm, OwnRow.lit (ps := []) (inner := []) W W.heap.size (Reps.none _ _) (Nat.le_refl _) (by simp)⟩
theorem info44 : (Tryd.prog.info? 44).map (fun i => (i.zero, i.size, i.bytes)) = some (some (.agg #[(.string ⟨#[]⟩), (.int .i64 0), (.int .i64 0), (.int .i64 0), (.bool false)]), 5, 48) := by kernel_rfl
theorem info51 : (Tryd.prog.info? 51).map (fun i => (i.zero, i.size, i.bytes)) = some (some (.agg #[(.int .i64 0), (.int .u64 0), (.slice none 0 0)]), 3, 40) := by kernel_rfl
theorem k44_heap : Kd.Heap k44 := Kd.heap_iso _ (Kd.heap_pair Kd.heap_string (Kd.heap_pair (Kd.heap_int .i64) (Kd.heap_pair (Kd.heap_int .i64) (Kd.heap_pair (Kd.heap_int .i64) Kd.heap_bool))))
theorem k44_mkF (W : World) (ok : Nat → Prop) (x : S44) : Kd.FK k44 W ok x [.string x.f0, .int .i64 x.f1, .int .i64 x.f2, .int .i64 x.f3, .bool x.f4] := fun W2 _ => k44_mk W2 x
theorem k51_heap : Kd.Heap k51 := Kd.heap_iso _ (Kd.heap_pair (Kd.heap_int .i64) (Kd.heap_pair (Kd.heap_int .u64) (Kd.heap_slice 3 (Kd.heap_int .i64))))
theorem k51_openF {W : World} {ok : Nat → Prop} {x : S51} {cs : List Value} (h : Kd.FK k51 W ok x cs) : ∃ A2 c2, cs = [.int .i64 x.f0, .int .u64 x.f1, .slice A2 x.f2.length c2] ∧ x.f2.length ≤ c2 ∧ Kd.F (Kd.int .i64) W ok A2 x.f2.length x.f2 := by
  obtain ⟨A2, c2, rfl, l2, _⟩ := k51_open (Kd.FK_now h)
  exact ⟨A2, c2, rfl, l2, (fun W' hW => by obtain ⟨A2_, c2_, he, l2_, g2_⟩ := k51_open (h W' hW); injection (Option.some.inj (show some (Value.slice A2 x.f2.length c2) = some (Value.slice A2_ x.f2.length c2_) from congrArg (fun l => l[2]?) he)) with ha_ _ _; rw [ha_]; exact g2_)⟩
theorem k51_mkF (W : World) (ok : Nat → Prop) (x : S51) {A2 : Option Addr} {c2 : Nat} (l2 : x.f2.length ≤ c2) (g2 : Kd.F (Kd.int .i64) W ok A2 x.f2.length x.f2) : Kd.FK k51 W ok x [.int .i64 x.f0, .int .u64 x.f1, .slice A2 x.f2.length c2] := fun W2 hW => k51_mk W2 x l2 (g2 W2 hW)

-- the contract of function 13 (slices.Clone[[]maskwright/api.Gate,maskwright/api.Gate]): written by hand
/-! ### api_Gate: function 13 -/
def api_Gate.f (l0 : List (S51)) : Option (List (S51)) := if l0.length < 1099511627776 then some l0 else none
set_option maxHeartbeats 1000000 in
set_option maxRecDepth 100000 in
theorem api_Gate.calls (P0_ : Nat → Prop) (A0 : Option Addr) (c0 : Nat) (l0 : List (S51)) (r : List (S51)) (w : World) (hs0 : Kd.V k51 51 w w.heap.size (fun k_ => P0_ k_) (.slice A0 l0.length c0) l0) (h : api_Gate.f l0 = some r) :
    Calls Tryd.prog 13 #[.slice A0 l0.length c0] w fun e w' => ∃ v0_ : Value, e = .returned (v0_) ∧ Kd.N k51 51 w' w.heap.size (fun k_ => (P0_ k_ ∨ w.heap.size ≤ k_)) v0_ r ∧ Below w.heap.size w w' := by
  unfold api_Gate.f at h
  split at h
  · rename_i hlim
    obtain rfl := Option.some.inj h
    clear h
    have hF := Kd.F_bound (Kd.V_F hs0)
    have hc : l0.length ≤ c0 := (Kd.V_at hs0).2.1
    clear hs0
    have hu := Tryd.underlying24
    rcases A0 with _ | ad
    · obtain rfl := Hnd.nilC (Kd.F_now hF)
      have he := fun W => Lib.run_eql_slice_nil (P := Tryd.prog) W 24 51 none 0 c0 0 0 hu
      go_enter Tryd.func13, Tryd.ntmps13
      go_wp2
      go_ret
      exact ⟨_, rfl, Kd.N_nil _ _ _ _ _, Below.refl _ _⟩
    · have he := fun W => Lib.run_eql_slice_nil (P := Tryd.prog) W 24 51 (some ad) l0.length c0 0 0 hu
      go_enter Tryd.func13, Tryd.ntmps13
      have hR0 := Kd.N_mono (Kd.R_N (Hnd.litN k51 51 w)) (ok' := fun k_ => (P0_ k_ ∨ w.heap.size ≤ k_)) (fun k hk => .inr (Nat.le_of_eq hk.symm))
      have hok : ∀ k, (P0_ k ∧ k < w.heap.size) → (P0_ k ∨ w.heap.size ≤ k) ∧ some k ≠ (Value.slice (some ⟨w.heap.size, 0, none⟩) 0 0).ownBlock := fun k hk => ⟨.inl hk.1, fun e => by
        have : k = w.heap.size := by simpa [Value.ownBlock] using e
        have := hk.2
        omega⟩
      have hfr : ∀ k, (w.alloc (.cells #[] 51)).heap.size ≤ k → (P0_ k ∨ w.heap.size ≤ k) := fun k hk => .inr (by
        have : w.heap.size ≤ (w.alloc (.cells #[] 51)).heap.size := (below_alloc (Below.refl w.heap.size w) (.cells #[] 51)).size
        omega)
      have hF0 := Kd.F_below hF (below_alloc (Below.refl w.heap.size w) (.cells #[] 51))
      go_wp2_with (at_builtin; refine Kd.N_append_rows k51 (w0 := w) w.heap.size rfl (.tmp 5) (.tmp 6) 24 51 (.agg #[.int .i64 0, .int .u64 0, .slice none 0 0]) 40 rfl hu info51 rfl (by decide) (by decide) _ [] l0 (some ad) l0.length c0 (fun k_ => (P0_ k_ ∨ w.heap.size ≤ k_)) _ rfl rfl hR0 hF0 hok hfr (below_alloc (Below.refl _ _) _) (by simp) (by simp; omega) ?_; intro v1 w1 hN hB _ _)
      go_ret
      exact ⟨_, rfl, by simpa using hN, hB⟩
  · cases h



-- the contract of function 14 (slices.Clone[[]maskwright/api.Flop,maskwright/api.Flop]): written by hand
/-! ### api_Flop: function 14 -/
def api_Flop.f (l0 : List (S44)) : Option (List (S44)) := if l0.length < 1099511627776 then some l0 else none
set_option maxHeartbeats 1000000 in
set_option maxRecDepth 100000 in
theorem api_Flop.calls (A0 : Option Addr) (c0 : Nat) (l0 : List (S44)) (r : List (S44)) (w : World) (hr0 : Kd.C k44 w A0 l0.length l0) (hc0 : l0.length ≤ c0) (h : api_Flop.f l0 = some r) :
    Calls Tryd.prog 14 #[.slice A0 l0.length c0] w fun e w' => ∃ v0_ : Value, e = .returned (v0_) ∧ Kd.R k44 44 w' w.heap.size (fun _ => True) v0_ r ∧ Below w.heap.size w w' := by
  unfold api_Flop.f at h
  split at h
  · rename_i hlim
    obtain rfl := Option.some.inj h
    clear h
    have hu := Tryd.underlying23
    rcases A0 with _ | ad
    · obtain rfl := Hnd.nilC hr0
      have he := fun W => Lib.run_eql_slice_nil (P := Tryd.prog) W 23 44 none 0 c0 0 0 hu
      go_enter Tryd.func14, Tryd.ntmps14
      go_wp2
      go_ret
      exact ⟨_, rfl, Kd.R_nil _ _ _ _ _, Below.refl _ _⟩
    · have he := fun W => Lib.run_eql_slice_nil (P := Tryd.prog) W 23 44 (some ad) l0.length c0 0 0 hu
      go_enter Tryd.func14, Tryd.ntmps14
      have hR0 := Hnd.litR k44 44 w w.heap.size (Nat.le_refl _)
      have hC0 := Kd.C_below hr0 (below_alloc (Below.refl w.heap.size w) (.cells #[] 44))
      go_wp2_with (at_builtin; refine Kd.R_append_rows k44 (w0 := w) w.heap.size rfl (.tmp 5) (.tmp 6) 23 44 (.agg #[.string ⟨#[]⟩, .int .i64 0, .int .i64 0, .int .i64 0, .bool false]) 48 rfl hu info44 rfl (by decide) (by decide) _ [] l0 (some ad) l0.length c0 (fun _ => True) (fun _ => False) rfl rfl hR0 hC0 (fun x cs hx => by rw [k44_open hx]; exact k44_mkM _ _ _ x) (fun _ hk => hk.elim) (fun _ _ => trivial) (below_alloc (Below.refl _ _) _) (by simp) (by simp; omega) ?_; intro v1 w1 hR hB _ _)
      go_ret
      exact ⟨_, rfl, by simpa using hR, hB⟩
  · cases h



-- the contract of function 31 (slices.Clone[[]int,int]): written by hand
/-! ### slices_Clone_int_int: function 31 -/
def slices_Clone_int_int.f (l0 : List Int) : Option (List Int) := if l0.length < 17592186044416 then some l0 else none
set_option maxHeartbeats 1000000 in
set_option maxRecDepth 100000 in
theorem slices_Clone_int_int.calls (A0 : Option Addr) (c0 : Nat) (l0 : List Int) (r : List Int) (w : World) (hr0 : Kd.C (Kd.int .i64) w A0 l0.length l0) (hc0 : l0.length ≤ c0) (h : slices_Clone_int_int.f l0 = some r) :
    Calls Tryd.prog 31 #[.slice A0 l0.length c0] w fun e w' => ∃ v0_ : Value, e = .returned (v0_) ∧ Kd.R (Kd.int .i64) 3 w' w.heap.size (fun _ => True) v0_ r ∧ Below w.heap.size w w' := by
  unfold slices_Clone_int_int.f at h
  split at h
  · rename_i hlim
    obtain rfl := Option.some.inj h
    clear h
    have hu := Tryd.underlying25
    rcases A0 with _ | ad
    · obtain rfl := Hnd.nilC hr0
      have he := fun W => Lib.run_eql_slice_nil (P := Tryd.prog) W 25 3 none 0 c0 0 0 hu
      go_enter Tryd.func31, Tryd.ntmps31
      go_wp2
      go_ret
      exact ⟨_, rfl, Kd.R_nil _ _ _ _ _, Below.refl _ _⟩
    · have he := fun W => Lib.run_eql_slice_nil (P := Tryd.prog) W 25 3 (some ad) l0.length c0 0 0 hu
      go_enter Tryd.func31, Tryd.ntmps31
      have hR0 := Hnd.litR (Kd.int .i64) 3 w w.heap.size (Nat.le_refl _)
      have hC0 := Kd.C_below hr0 (below_alloc (Below.refl w.heap.size w) (.cells #[] 3))
      go_wp2_with (at_builtin; refine Kd.R_append_rows (Kd.int .i64) (w0 := w) w.heap.size rfl (.tmp 5) (.tmp 6) 25 3 (.int .i64 0) 8 rfl hu info3 rfl (by decide) (by decide) _ [] l0 (some ad) l0.length c0 (fun _ => True) (fun _ => False) rfl rfl hR0 hC0 (fun x cs hx => hx) (fun _ hk => hk.elim) (fun _ _ => trivial) (below_alloc (Below.refl _ _) _) (by simp) (by simp; omega) ?_; intro v1 w1 hR hB _ _)
      go_ret
      exact ⟨_, rfl, by simpa using hR, hB⟩
  · cases h

end Go.Proofs.YtpkpmdmmnhmnlaaDoor.PT
namespace Go.Proofs.YtpkpmdmmnhmnlaaDoor.PT
open Go.RowKit Go.Proofs.YtpkpmdmmnhmnlaaDoorW.PrintWords Go.Proofs.YtpkpmdmmnhmnlaaDoorW.PrintLast Go.Proofs.YtpkpmdmmnhmnlaaDoorW.PrintMore
attribute [local go_sem] max2_int min2_int max_two min_two max_three min_three max_four min_four   -- for this text's walks alone
set_option linter.unusedVariables false
set_option linter.unusedSimpArgs false

/-! ### netlist_Copy: function 19 -/
def netlist_Copy.l0 : Nat → Int → Int → List ByteArray → List ByteArray → List (S44) → List (S51) → List Int → Option (List ByteArray × List ByteArray × (List (S44)) × (List (S51)) × List Int)
  | 0, _, _, _, _, _, _, _ => none
  | k + 1, x23, x24, x193000, x193001, x193002, x193003, x193004 => if x24 < x23 then (if 0 ≤ x24 then (if x24 < (x193003.length : Int) then ((slices_Clone_int_int.f ((rd_T51 x193003 x24).f2)).bind fun t194 => (netlist_Copy.l0 k x23 (wrap64 (x24 + 1)) x193000 x193001 x193002 (x193003.set (x24 : Int).toNat (⟨(rd_T51 x193003 x24).f0, (rd_T51 x193003 x24).f1, t194⟩ : S51)) x193004)) else (none)) else (none)) else (some (x193000, x193001, x193002, x193003, x193004))
def netlist_Copy.f (k : Nat) (l0_0 : List ByteArray) (l0_1 : List ByteArray) (l0_2 : List (S44)) (l0_3 : List (S51)) (l0_4 : List Int) : Option (List ByteArray × List ByteArray × (List (S44)) × (List (S51)) × List Int) := (slices_Clone_string_string.f l0_0).bind fun t177 => ((slices_Clone_string_string.f l0_1).bind fun t180 => ((api_Flop.f l0_2).bind fun t183 => ((api_Gate.f l0_3).bind fun t186 => ((slices_Clone_int_int.f l0_4).bind fun t189 => (netlist_Copy.l0 k (t186.length : Int) 0 t177 t180 t183 t186 t189)))))
theorem netlist_Copy.mono_l : ∀ k, (∀ y0 y1 y2 y3 y4 y5 y6, LeO (netlist_Copy.l0 k y0 y1 y2 y3 y4 y5 y6) (netlist_Copy.l0 (k + 1) y0 y1 y2 y3 y4 y5 y6))
  | 0 => fun _ _ _ _ _ _ _ r h => by simp [netlist_Copy.l0] at h
  | k + 1 => by
    have ih0 := netlist_Copy.mono_l k
    · intro y0 y1 y2 y3 y4 y5 y6
      unfold netlist_Copy.l0
      repeat' first
      | (with_reducible exact ih0 _ _ _ _ _ _ _)
      | (with_reducible exact LeO.refl _)
      | (with_reducible exact LeO.none _)
      | (with_reducible refine LeO.ite ?_ ?_)
      | (with_reducible refine LeO.bind ?_ (fun _ => ?_))
      | exact ih0 _ _ _ _ _ _ _
      | exact LeO.none _
      | refine LeO.ite ?_ ?_
      | refine LeO.bind ?_ (fun _ => ?_)
theorem netlist_Copy.mono : ∀ a0 a1 a2 a3 a4 k, LeO (netlist_Copy.f k a0 a1 a2 a3 a4) (netlist_Copy.f (k + 1) a0 a1 a2 a3 a4) := by
 intro a0 a1 a2 a3 a4 k
 have ih0 := netlist_Copy.mono_l k
 unfold netlist_Copy.f
 repeat' first
     | (with_reducible exact ih0 _ _ _ _ _ _ _)
     | (with_reducible exact LeO.refl _)
     | (with_reducible exact LeO.none _)
     | (with_reducible refine LeO.ite ?_ ?_)
     | (with_reducible refine LeO.bind ?_ (fun _ => ?_))
     | exact ih0 _ _ _ _ _ _ _
     | exact LeO.none _
     | refine LeO.ite ?_ ?_
     | refine LeO.bind ?_ (fun _ => ?_)
def netlist_Copy.T1 : Bool × List (List Nat × List Nat) := (true, [([], []), ([0], [0]), ([1], [1]), ([], []), ([3], [3]), ([4, 2], [4]), ([], []), ([6], [6]), ([7, 5], [7]), ([], []), ([9], [9]), ([10, 8], [10]), ([], []), ([12], [12]), ([13, 11], [13]), ([2, 5, 8, 11, 14], [2, 5, 8, 11, 14]), ([], []), ([16, 15, 14, 0, 1, 2, 3, 4, 5, 6, 7, 8, 9, 10, 11, 12, 13, 14, 15, 16], [15, 16])])
def netlist_Copy.B1 : List Nat := [0, 1, 3, 0, 8, 31, 0, 64, 255, 0, 512, 2047, 0, 4096, 16383, 32767, 0, 131071]
theorem netlist_Copy.tab1 : rtab .any (opsOf Tryd.f19 1) = netlist_Copy.T1 := by kernel_rfl
theorem netlist_Copy.bits1 : waitsOk netlist_Copy.T1.2 netlist_Copy.B1 = true := by kernel_rfl
def netlist_Copy.T5 : Bool × List (List Nat × List Nat) := (true, [([], []), ([0], [0]), ([], []), ([], []), ([3], [3]), ([], []), ([4, 5], [4, 5]), ([6], [6]), ([7], [7]), ([8], [8]), ([1, 2, 0, 1, 2, 3, 4, 5, 6, 7, 8, 9], [1, 2]), ([10, 0, 1, 2, 3, 4, 5, 6, 7, 8, 9], [10]), ([11, 9, 9, 0, 1, 2, 3, 4, 5, 6, 7, 8, 9], [9, 11])])
def netlist_Copy.B5 : List Nat := [0, 1, 0, 0, 8, 0, 56, 120, 248, 504, 1023, 2047, 4095]
theorem netlist_Copy.tab5 : rtab .any (opsOf Tryd.f19 5) = netlist_Copy.T5 := by kernel_rfl
theorem netlist_Copy.bits5 : waitsOk netlist_Copy.T5.2 netlist_Copy.B5 = true := by kernel_rfl
set_option maxHeartbeats 8000000 in
set_option maxRecDepth 100000 in
theorem netlist_Copy.calls (k : Nat) (A0_0 : Option Addr) (c0_0 : Nat) (l0_0 : List ByteArray) (A0_1 : Option Addr) (c0_1 : Nat) (l0_1 : List ByteArray) (A0_2 : Option Addr) (c0_2 : Nat) (l0_2 : List (S44)) (P0_3_ : Nat → Prop) (A0_3 : Option Addr) (c0_3 : Nat) (l0_3 : List (S51)) (A0_4 : Option Addr) (c0_4 : Nat) (l0_4 : List Int) (r1 : List ByteArray) (r2 : List ByteArray) (r3 : List (S44)) (r4 : List (S51)) (r5 : List Int) (w : World) (hr0_0 : Kd.C Kd.string w A0_0 l0_0.length l0_0) (hc0_0 : l0_0.length ≤ c0_0) (hr0_1 : Kd.C Kd.string w A0_1 l0_1.length l0_1) (hc0_1 : l0_1.length ≤ c0_1) (hr0_2 : Kd.C k44 w A0_2 l0_2.length l0_2) (hc0_2 : l0_2.length ≤ c0_2) (hs0_3 : Kd.V k51 51 w w.heap.size (fun k_ => P0_3_ k_) (.slice A0_3 l0_3.length c0_3) l0_3) (hr0_4 : Kd.C (Kd.int .i64) w A0_4 l0_4.length l0_4) (hc0_4 : l0_4.length ≤ c0_4) (h : netlist_Copy.f k l0_0 l0_1 l0_2 l0_3 l0_4 = some (r1, r2, r3, r4, r5)) :
    Calls Tryd.prog 19 #[.agg #[.slice A0_0 l0_0.length c0_0, .slice A0_1 l0_1.length c0_1, .slice A0_2 l0_2.length c0_2, .slice A0_3 l0_3.length c0_3, .slice A0_4 l0_4.length c0_4]] w fun e w' => ∃ v0_ v1_ v2_ v3_ v4_ : Value, e = .returned (.agg #[v0_, v1_, v2_, v3_, v4_]) ∧ Kd.R Kd.string 9 w' w.heap.size (fun k_ => (w.heap.size ≤ k_) ∧ some k_ ≠ (v1_ : Value).ownBlock) v0_ r1 ∧ Kd.R Kd.string 9 w' w.heap.size (fun k_ => (w.heap.size ≤ k_) ∧ some k_ ≠ (v0_ : Value).ownBlock) v1_ r2 ∧ Kd.R k44 44 w' w.heap.size (fun k_ => (w.heap.size ≤ k_)) v2_ r3 ∧ Kd.N k51 51 w' w.heap.size (fun k_ => (P0_3_ k_ ∨ w.heap.size ≤ k_) ∧ some k_ ≠ (v0_ : Value).ownBlock ∧ some k_ ≠ (v1_ : Value).ownBlock ∧ some k_ ≠ (v2_ : Value).ownBlock ∧ some k_ ≠ (v4_ : Value).ownBlock) v3_ r4 ∧ Kd.R (Kd.int .i64) 3 w' w.heap.size (fun k_ => (w.heap.size ≤ k_)) v4_ r5 ∧ Below w.heap.size w w' := by
 have hu27 := Tryd.underlying27
 have HR0_0 := Aside0.mk hr0_0
 have HC0_0 := Aside0.mk hc0_0
 clear hr0_0 hc0_0
 have HR0_1 := Aside0.mk hr0_1
 have HC0_1 := Aside0.mk hc0_1
 clear hr0_1 hc0_1
 have HR0_2 := Aside0.mk hr0_2
 have HC0_2 := Aside0.mk hc0_2
 clear hr0_2 hc0_2
 have HO0_3 := Aside0.mk (show Kd.V k51 51 w w.heap.size (fun k_ => (P0_3_ k_ ∨ w.heap.size ≤ k_)) (.slice A0_3 l0_3.length c0_3) l0_3 from Kd.V_mono hs0_3 (fun k_ hk => .inl hk))
 have HR0_4 := Aside0.mk hr0_4
 have HC0_4 := Aside0.mk hc0_4
 clear hr0_4 hc0_4
 have HB := Aside0.mk (Below.refl w.heap.size w)
 have H : ((slices_Clone_string_string.f l0_0).bind fun t177 => ((slices_Clone_string_string.f l0_1).bind fun t180 => ((api_Flop.f l0_2).bind fun t183 => ((api_Gate.f l0_3).bind fun t186 => ((slices_Clone_int_int.f l0_4).bind fun t189 => (netlist_Copy.l0 k (t186.length : Int) 0 t177 t180 t183 t186 t189)))))) = some (r1, r2, r3, r4, r5) := h
 clear h
 replace H := Option.bind_eq_some_iff.mp H
 obtain ⟨t177, A20, H⟩ := H
 replace H : ((slices_Clone_string_string.f l0_1).bind fun t180 => ((api_Flop.f l0_2).bind fun t183 => ((api_Gate.f l0_3).bind fun t186 => ((slices_Clone_int_int.f l0_4).bind fun t189 => (netlist_Copy.l0 k (t186.length : Int) 0 t177 t180 t183 t186 t189))))) = some (r1, r2, r3, r4, r5) := H
 have A2 := Aside0.mk A20
 clear A20
 replace H := Option.bind_eq_some_iff.mp H
 obtain ⟨t180, A30, H⟩ := H
 replace H : ((api_Flop.f l0_2).bind fun t183 => ((api_Gate.f l0_3).bind fun t186 => ((slices_Clone_int_int.f l0_4).bind fun t189 => (netlist_Copy.l0 k (t186.length : Int) 0 t177 t180 t183 t186 t189)))) = some (r1, r2, r3, r4, r5) := H
 have A3 := Aside0.mk A30
 clear A30
 replace H := Option.bind_eq_some_iff.mp H
 obtain ⟨t183, A40, H⟩ := H
 replace H : ((api_Gate.f l0_3).bind fun t186 => ((slices_Clone_int_int.f l0_4).bind fun t189 => (netlist_Copy.l0 k (t186.length : Int) 0 t177 t180 t183 t186 t189))) = some (r1, r2, r3, r4, r5) := H
 have A4 := Aside0.mk A40
 clear A40
 replace H := Option.bind_eq_some_iff.mp H
 obtain ⟨t186, A50, H⟩ := H
 replace H : ((slices_Clone_int_int.f l0_4).bind fun t189 => (netlist_Copy.l0 k (t186.length : Int) 0 t177 t180 t183 t186 t189)) = some (r1, r2, r3, r4, r5) := H
 have A5 := Aside0.mk A50
 clear A50
 replace H := Option.bind_eq_some_iff.mp H
 obtain ⟨t189, A60, H⟩ := H
 replace H : (netlist_Copy.l0 k (t186.length : Int) 0 t177 t180 t183 t186 t189) = some (r1, r2, r3, r4, r5) := H
 have A6 := Aside0.mk A60
 clear A60
 have H' := Aside0.mk H
 clear H
 go_enter Tryd.func19, Tryd.ntmps19
 try go_wp2_with (first | ((with_reducible refine gate_dst (N := 1) rfl ?_); refine box_event ?hg (N := 1) ?hd (cs := #[.slice A0_0 l0_0.length c0_0, .slice A0_1 l0_1.length c0_1, .slice A0_2 l0_2.length c0_2, .slice A0_3 l0_3.length c0_3, .slice A0_4 l0_4.length c0_4]) (t := 27) ?hr ?_; (case hd => rfl); (case hg => rfl); (case hr => first | (go_simp; done) | (go_simp; rfl)); intro gb175 hg w7 hbox hb; replace HO0_3 := Aside0.mk (Kd.V_below (Kd.V_elderB (by (with_reducible repeat (first | apply Kd.V_alloc | apply Kd.V_drewN | apply Kd.V_drew)); exact HO0_3.out) gb175 (Nat.le_of_eq hg.symm)) hb); have BK175 := Aside0.mk (hbox); have GW175 := Aside0.mk (ge (w := w) hg); have GE175 := Aside0.mk (ge (w := w) hg); replace HB := Aside0.mk (below_step bl hb); clear hb hbox hg) | ((with_reducible refine gate_dst (N := 2) rfl ?_); refine box_event ?hg (N := 2) ?hd (cs := #[.slice none 0 0, .slice none 0 0, .slice none 0 0, .slice none 0 0, .slice none 0 0]) (t := 27) ?hr ?_; (case hd => rfl); (case hg => rfl); (case hr => first | (go_simp; done) | (go_simp; rfl)); intro gb176 hg w8 hbox hb; replace HO0_3 := Aside0.mk (Kd.V_below (Kd.V_elderB (by (with_reducible repeat (first | apply Kd.V_alloc | apply Kd.V_drewN | apply Kd.V_drew)); exact HO0_3.out) gb176 (Nat.le_of_eq hg.symm)) hb); have BK176 := Aside0.mk (hbox); have GW176 := Aside0.mk (ge (w := w) hg); have GE176 := Aside0.mk (ge (w := w) hg); replace HB := Aside0.mk (below_step bl hb); have NB175_176 := Aside0.mk (nl hg (bk BK175.out)); have NB176_175 := Aside0.mk (ng hg (bk BK175.out)); replace BK175 := Aside0.mk (bb BK175.out hb); clear hb hbox hg))
 have n0_ := Aside0.mk (Kd.V_drew HO0_3.out)
 have n1_ := Aside0.mk (blk_drew BK175.out)
 have n2_ := Aside0.mk (blk_drew BK176.out)
 have n3_ := Aside0.mk (below_drew1 HB.out)
 clear HO0_3
 clear BK175
 clear BK176
 clear HB
 have HO0_3 := n0_
 have BK175 := n1_
 have BK176 := n2_
 have HB := n3_
 clear n0_ n1_ n2_ n3_
 refine start_ (n := 18) (S := fun w' => w'.cell? ⟨gb175, 0, none⟩ = some (.slice A0_0 l0_0.length c0_0) ∧ w'.cell? ⟨gb175, 1, none⟩ = some (.slice A0_1 l0_1.length c0_1) ∧ w'.cell? ⟨gb175, 2, none⟩ = some (.slice A0_2 l0_2.length c0_2) ∧ w'.cell? ⟨gb175, 3, none⟩ = some (.slice A0_3 l0_3.length c0_3) ∧ w'.cell? ⟨gb175, 4, none⟩ = some (.slice A0_4 l0_4.length c0_4)) (ds := []) #[false, false, false, false, false, false, false, false, false, false, false, false, false, false, false, false, false, false] (by kernel_rfl) rfl rfl ⟨(blk_cell BK175.out 0).trans rfl, (blk_cell BK175.out 1).trans rfl, (blk_cell BK175.out 2).trans rfl, (blk_cell BK175.out 3).trans rfl, (blk_cell BK175.out 4).trans rfl⟩ (fun hHeld => ?_); refine with_tabW netlist_Copy.tab1 netlist_Copy.bits1 (fun HT_ HW_ => ?_)
 generalize w8.drew = w9 at HO0_3 BK175 BK176 HB hHeld ⊢
 refine pure_ (i := 0) (N := some 5) (v := ?_) (a' := ?_) #[true, false, false, false, false, false, false, false, false, false, false, false, false, false, false, false, false, false] rfl rfl (any_of HT_.out (by kernel_rfl)) (fun _ _ _ h => h) (Or.inl ⟨by rfl, ?_⟩) ?_ ?_
 rotate_left
 · intro w'
   go_simp
   with_reducible rfl
 rotate_left
 · simp only [Act.put, List.setIfInBounds_toArray, List.set_cons_zero, List.set_cons_succ, i64_w, i32_w]
   rfl
 refine pure_ (i := 3) (N := some 8) (v := ?_) (a' := ?_) #[true, false, false, true, false, false, false, false, false, false, false, false, false, false, false, false, false, false] rfl rfl (any_of HT_.out (by kernel_rfl)) (fun _ _ _ h => h) (Or.inl ⟨by rfl, ?_⟩) ?_ ?_
 rotate_left
 · intro w'
   go_simp
   with_reducible rfl
 rotate_left
 · simp only [Act.put, List.setIfInBounds_toArray, List.set_cons_zero, List.set_cons_succ, i64_w, i32_w]
   rfl
 refine pure_ (i := 6) (N := some 11) (v := ?_) (a' := ?_) #[true, false, false, true, false, false, true, false, false, false, false, false, false, false, false, false, false, false] rfl rfl (any_of HT_.out (by kernel_rfl)) (fun _ _ _ h => h) (Or.inl ⟨by rfl, ?_⟩) ?_ ?_
 rotate_left
 · intro w'
   go_simp
   with_reducible rfl
 rotate_left
 · simp only [Act.put, List.setIfInBounds_toArray, List.set_cons_zero, List.set_cons_succ, i64_w, i32_w]
   rfl
 refine pure_ (i := 9) (N := some 14) (v := ?_) (a' := ?_) #[true, false, false, true, false, false, true, false, false, true, false, false, false, false, false, false, false, false] rfl rfl (any_of HT_.out (by kernel_rfl)) (fun _ _ _ h => h) (Or.inl ⟨by rfl, ?_⟩) ?_ ?_
 rotate_left
 · intro w'
   go_simp
   with_reducible rfl
 rotate_left
 · simp only [Act.put, List.setIfInBounds_toArray, List.set_cons_zero, List.set_cons_succ, i64_w, i32_w]
   rfl
 refine pure_ (i := 12) (N := some 17) (v := ?_) (a' := ?_) #[true, false, false, true, false, false, true, false, false, true, false, false, true, false, false, false, false, false] rfl rfl (any_of HT_.out (by kernel_rfl)) (fun _ _ _ h => h) (Or.inl ⟨by rfl, ?_⟩) ?_ ?_
 rotate_left
 · intro w'
   go_simp
   with_reducible rfl
 rotate_left
 · simp only [Act.put, List.setIfInBounds_toArray, List.set_cons_zero, List.set_cons_succ, i64_w, i32_w]
   rfl
 refine take_ (i := 1) (N := some 6) (v := ?_) (a' := ?_) #[true, true, false, true, false, false, true, false, false, true, false, false, true, false, false, false, false, false] rfl rfl (take_ofW HT_.out HW_.out (by kernel_rfl)) (fun _ _ _ h => h) (Or.inl ⟨by rfl, ?_⟩) hHeld ?_ ?_
 rotate_left
 · rintro w' ⟨s0, s1, s2, s3, s4⟩
   go_simp
   with_reducible rfl
 rotate_left
 · simp only [Act.put, List.setIfInBounds_toArray, List.set_cons_zero, List.set_cons_succ, i64_w, i32_w]
   rfl
 refine take_ (i := 4) (N := some 9) (v := ?_) (a' := ?_) #[true, true, false, true, true, false, true, false, false, true, false, false, true, false, false, false, false, false] rfl rfl (take_ofW HT_.out HW_.out (by kernel_rfl)) (fun _ _ _ h => h) (Or.inl ⟨by rfl, ?_⟩) hHeld ?_ ?_
 rotate_left
 · rintro w' ⟨s0, s1, s2, s3, s4⟩
   go_simp
   with_reducible rfl
 rotate_left
 · simp only [Act.put, List.setIfInBounds_toArray, List.set_cons_zero, List.set_cons_succ, i64_w, i32_w]
   rfl
 refine take_ (i := 7) (N := some 12) (v := ?_) (a' := ?_) #[true, true, false, true, true, false, true, true, false, true, false, false, true, false, false, false, false, false] rfl rfl (take_ofW HT_.out HW_.out (by kernel_rfl)) (fun _ _ _ h => h) (Or.inl ⟨by rfl, ?_⟩) hHeld ?_ ?_
 rotate_left
 · rintro w' ⟨s0, s1, s2, s3, s4⟩
   go_simp
   with_reducible rfl
 rotate_left
 · simp only [Act.put, List.setIfInBounds_toArray, List.set_cons_zero, List.set_cons_succ, i64_w, i32_w]
   rfl
 refine take_ (i := 10) (N := some 15) (v := ?_) (a' := ?_) #[true, true, false, true, true, false, true, true, false, true, true, false, true, false, false, false, false, false] rfl rfl (take_ofW HT_.out HW_.out (by kernel_rfl)) (fun _ _ _ h => h) (Or.inl ⟨by rfl, ?_⟩) hHeld ?_ ?_
 rotate_left
 · rintro w' ⟨s0, s1, s2, s3, s4⟩
   go_simp
   with_reducible rfl
 rotate_left
 · simp only [Act.put, List.setIfInBounds_toArray, List.set_cons_zero, List.set_cons_succ, i64_w, i32_w]
   rfl
 refine take_ (i := 13) (N := some 18) (v := ?_) (a' := ?_) #[true, true, false, true, true, false, true, true, false, true, true, false, true, true, false, false, false, false] rfl rfl (take_ofW HT_.out HW_.out (by kernel_rfl)) (fun _ _ _ h => h) (Or.inl ⟨by rfl, ?_⟩) hHeld ?_ ?_
 rotate_left
 · rintro w' ⟨s0, s1, s2, s3, s4⟩
   go_simp
   with_reducible rfl
 rotate_left
 · simp only [Act.put, List.setIfInBounds_toArray, List.set_cons_zero, List.set_cons_succ, i64_w, i32_w]
   rfl
 refine join_ (σ := Value × Value × Value × Value × Value × Nat) 1 #[true, true, true, true, true, true, true, true, true, true, true, true, true, true, true, true, true, false] (fun s_ => [(7, s_.1), (10, s_.2.1), (13, s_.2.2.1), (16, s_.2.2.2.1), (19, s_.2.2.2.2.1), (3, .pointer (some ⟨s_.2.2.2.2.2, 0, none⟩)), (20, .agg #[s_.1, s_.2.1, s_.2.2.1, s_.2.2.2.1, s_.2.2.2.2.1])]) (fun s_ w' => (w'.cell? ⟨gb175, 0, none⟩ = some (.slice A0_0 l0_0.length c0_0) ∧ w'.cell? ⟨gb175, 1, none⟩ = some (.slice A0_1 l0_1.length c0_1) ∧ w'.cell? ⟨gb175, 2, none⟩ = some (.slice A0_2 l0_2.length c0_2) ∧ w'.cell? ⟨gb175, 3, none⟩ = some (.slice A0_3 l0_3.length c0_3) ∧ w'.cell? ⟨gb175, 4, none⟩ = some (.slice A0_4 l0_4.length c0_4)) ∧ (Kd.V k51 51 w' w.heap.size (fun k_ => (P0_3_ k_ ∨ w.heap.size ≤ k_) ∧ some k_ ≠ (s_.1 : Value).ownBlock ∧ some k_ ≠ (s_.2.1 : Value).ownBlock ∧ some k_ ≠ (s_.2.2.1 : Value).ownBlock ∧ some k_ ≠ (s_.2.2.2.1 : Value).ownBlock ∧ some k_ ≠ (s_.2.2.2.2.1 : Value).ownBlock ∧ k_ ≠ gb175 ∧ k_ ≠ gb176 ∧ k_ ≠ s_.2.2.2.2.2) (.slice A0_3 l0_3.length c0_3) l0_3) ∧ (Kd.R Kd.string 9 w' w.heap.size (fun k_ => (w.heap.size ≤ k_) ∧ some k_ ≠ (s_.2.1 : Value).ownBlock) s_.1 t177) ∧ (Kd.R Kd.string 9 w' w.heap.size (fun k_ => (w.heap.size ≤ k_) ∧ some k_ ≠ (s_.1 : Value).ownBlock) s_.2.1 t180) ∧ (Kd.R k44 44 w' w.heap.size (fun k_ => (w.heap.size ≤ k_)) s_.2.2.1 t183) ∧ (Kd.N k51 51 w' w.heap.size (fun k_ => (P0_3_ k_ ∨ w.heap.size ≤ k_) ∧ some k_ ≠ (s_.1 : Value).ownBlock ∧ some k_ ≠ (s_.2.1 : Value).ownBlock ∧ some k_ ≠ (s_.2.2.1 : Value).ownBlock ∧ some k_ ≠ (s_.2.2.2.2.1 : Value).ownBlock ∧ k_ ≠ gb175 ∧ k_ ≠ gb176 ∧ k_ ≠ s_.2.2.2.2.2) s_.2.2.2.1 t186) ∧ (Kd.R (Kd.int .i64) 3 w' w.heap.size (fun k_ => (w.heap.size ≤ k_)) s_.2.2.2.2.1 t189) ∧ (w'.heap[gb175]? = some (.cells #[.slice A0_0 l0_0.length c0_0, .slice A0_1 l0_1.length c0_1, .slice A0_2 l0_2.length c0_2, .slice A0_3 l0_3.length c0_3, .slice A0_4 l0_4.length c0_4] 27 (0, 0))) ∧ (w'.heap[gb176]? = some (.cells #[.slice none 0 0, .slice none 0 0, .slice none 0 0, .slice none 0 0, .slice none 0 0] 27 (0, 0))) ∧ (w'.heap[s_.2.2.2.2.2]? = some (.cells #[.slice none 0 0, .slice none 0 0, .slice none 0 0, .slice none 0 0, .slice none 0 0] 27 (0, 0))) ∧ (w.heap.size ≤ s_.2.2.2.2.2) ∧ (w.heap.size ≤ s_.2.2.2.2.2) ∧ (gb175 ≠ s_.2.2.2.2.2) ∧ (s_.2.2.2.2.2 ≠ gb175) ∧ (gb176 ≠ s_.2.2.2.2.2) ∧ (s_.2.2.2.2.2 ≠ gb176) ∧ (Below w.heap.size w w')) ?_ ?_
 rotate_left
 · intro hJ2_5_8_11_14_16
   refine join_ (σ := Value × Value × Value × Value × Value) 2 #[true, true, true, true, true, true, true, true, true, true, true, true, true, true, true, true, false, false] (fun s_ => [(7, s_.1), (10, s_.2.1), (13, s_.2.2.1), (16, s_.2.2.2.1), (19, s_.2.2.2.2), (20, .agg #[s_.1, s_.2.1, s_.2.2.1, s_.2.2.2.1, s_.2.2.2.2])]) (fun s_ w' => (w'.cell? ⟨gb175, 0, none⟩ = some (.slice A0_0 l0_0.length c0_0) ∧ w'.cell? ⟨gb175, 1, none⟩ = some (.slice A0_1 l0_1.length c0_1) ∧ w'.cell? ⟨gb175, 2, none⟩ = some (.slice A0_2 l0_2.length c0_2) ∧ w'.cell? ⟨gb175, 3, none⟩ = some (.slice A0_3 l0_3.length c0_3) ∧ w'.cell? ⟨gb175, 4, none⟩ = some (.slice A0_4 l0_4.length c0_4)) ∧ (Kd.V k51 51 w' w.heap.size (fun k_ => (P0_3_ k_ ∨ w.heap.size ≤ k_) ∧ some k_ ≠ (s_.1 : Value).ownBlock ∧ some k_ ≠ (s_.2.1 : Value).ownBlock ∧ some k_ ≠ (s_.2.2.1 : Value).ownBlock ∧ some k_ ≠ (s_.2.2.2.1 : Value).ownBlock ∧ some k_ ≠ (s_.2.2.2.2 : Value).ownBlock ∧ k_ ≠ gb175 ∧ k_ ≠ gb176) (.slice A0_3 l0_3.length c0_3) l0_3) ∧ (Kd.R Kd.string 9 w' w.heap.size (fun k_ => (w.heap.size ≤ k_) ∧ some k_ ≠ (s_.2.1 : Value).ownBlock) s_.1 t177) ∧ (Kd.R Kd.string 9 w' w.heap.size (fun k_ => (w.heap.size ≤ k_) ∧ some k_ ≠ (s_.1 : Value).ownBlock) s_.2.1 t180) ∧ (Kd.R k44 44 w' w.heap.size (fun k_ => (w.heap.size ≤ k_)) s_.2.2.1 t183) ∧ (Kd.N k51 51 w' w.heap.size (fun k_ => (P0_3_ k_ ∨ w.heap.size ≤ k_) ∧ some k_ ≠ (s_.1 : Value).ownBlock ∧ some k_ ≠ (s_.2.1 : Value).ownBlock ∧ some k_ ≠ (s_.2.2.1 : Value).ownBlock ∧ some k_ ≠ (s_.2.2.2.2 : Value).ownBlock ∧ k_ ≠ gb175 ∧ k_ ≠ gb176) s_.2.2.2.1 t186) ∧ (Kd.R (Kd.int .i64) 3 w' w.heap.size (fun k_ => (w.heap.size ≤ k_)) s_.2.2.2.2 t189) ∧ (w'.heap[gb175]? = some (.cells #[.slice A0_0 l0_0.length c0_0, .slice A0_1 l0_1.length c0_1, .slice A0_2 l0_2.length c0_2, .slice A0_3 l0_3.length c0_3, .slice A0_4 l0_4.length c0_4] 27 (0, 0))) ∧ (w'.heap[gb176]? = some (.cells #[.slice none 0 0, .slice none 0 0, .slice none 0 0, .slice none 0 0, .slice none 0 0] 27 (0, 0))) ∧ (Below w.heap.size w w')) ?_ ?_
   rotate_left
   · intro hJ2_5_8_11_14
     refine join_ (σ := Value × Value × Value × Value × Nat) 3 #[true, true, true, true, true, true, true, true, true, true, true, true, true, true, false, false, true, false] (fun s_ => [(7, s_.1), (10, s_.2.1), (13, s_.2.2.1), (16, s_.2.2.2.1), (3, .pointer (some ⟨s_.2.2.2.2, 0, none⟩))]) (fun s_ w' => (w'.cell? ⟨gb175, 0, none⟩ = some (.slice A0_0 l0_0.length c0_0) ∧ w'.cell? ⟨gb175, 1, none⟩ = some (.slice A0_1 l0_1.length c0_1) ∧ w'.cell? ⟨gb175, 2, none⟩ = some (.slice A0_2 l0_2.length c0_2) ∧ w'.cell? ⟨gb175, 3, none⟩ = some (.slice A0_3 l0_3.length c0_3) ∧ w'.cell? ⟨gb175, 4, none⟩ = some (.slice A0_4 l0_4.length c0_4)) ∧ (Kd.V k51 51 w' w.heap.size (fun k_ => (P0_3_ k_ ∨ w.heap.size ≤ k_) ∧ some k_ ≠ (s_.1 : Value).ownBlock ∧ some k_ ≠ (s_.2.1 : Value).ownBlock ∧ some k_ ≠ (s_.2.2.1 : Value).ownBlock ∧ some k_ ≠ (s_.2.2.2.1 : Value).ownBlock ∧ k_ ≠ gb175 ∧ k_ ≠ gb176 ∧ k_ ≠ s_.2.2.2.2) (.slice A0_3 l0_3.length c0_3) l0_3) ∧ (Kd.R Kd.string 9 w' w.heap.size (fun k_ => (w.heap.size ≤ k_) ∧ some k_ ≠ (s_.2.1 : Value).ownBlock) s_.1 t177) ∧ (Kd.R Kd.string 9 w' w.heap.size (fun k_ => (w.heap.size ≤ k_) ∧ some k_ ≠ (s_.1 : Value).ownBlock) s_.2.1 t180) ∧ (Kd.R k44 44 w' w.heap.size (fun k_ => (w.heap.size ≤ k_)) s_.2.2.1 t183) ∧ (Kd.N k51 51 w' w.heap.size (fun k_ => (P0_3_ k_ ∨ w.heap.size ≤ k_) ∧ some k_ ≠ (s_.1 : Value).ownBlock ∧ some k_ ≠ (s_.2.1 : Value).ownBlock ∧ some k_ ≠ (s_.2.2.1 : Value).ownBlock ∧ k_ ≠ gb175 ∧ k_ ≠ gb176 ∧ k_ ≠ s_.2.2.2.2) s_.2.2.2.1 t186) ∧ (w'.heap[gb175]? = some (.cells #[.slice A0_0 l0_0.length c0_0, .slice A0_1 l0_1.length c0_1, .slice A0_2 l0_2.length c0_2, .slice A0_3 l0_3.length c0_3, .slice A0_4 l0_4.length c0_4] 27 (0, 0))) ∧ (w'.heap[gb176]? = some (.cells #[.slice none 0 0, .slice none 0 0, .slice none 0 0, .slice none 0 0, .slice none 0 0] 27 (0, 0))) ∧ (w'.heap[s_.2.2.2.2]? = some (.cells #[.slice none 0 0, .slice none 0 0, .slice none 0 0, .slice none 0 0, .slice none 0 0] 27 (0, 0))) ∧ (w.heap.size ≤ s_.2.2.2.2) ∧ (w.heap.size ≤ s_.2.2.2.2) ∧ (gb175 ≠ s_.2.2.2.2) ∧ (s_.2.2.2.2 ≠ gb175) ∧ (gb176 ≠ s_.2.2.2.2) ∧ (s_.2.2.2.2 ≠ gb176) ∧ (Below w.heap.size w w')) ?_ ?_
     rotate_left
     · intro hJ2_5_8_11_16
       refine join_ (σ := Value × Value × Value × Value) 4 #[true, true, true, true, true, true, true, true, true, true, true, true, true, true, false, false, false, false] (fun s_ => [(7, s_.1), (10, s_.2.1), (13, s_.2.2.1), (16, s_.2.2.2)]) (fun s_ w' => (w'.cell? ⟨gb175, 0, none⟩ = some (.slice A0_0 l0_0.length c0_0) ∧ w'.cell? ⟨gb175, 1, none⟩ = some (.slice A0_1 l0_1.length c0_1) ∧ w'.cell? ⟨gb175, 2, none⟩ = some (.slice A0_2 l0_2.length c0_2) ∧ w'.cell? ⟨gb175, 3, none⟩ = some (.slice A0_3 l0_3.length c0_3) ∧ w'.cell? ⟨gb175, 4, none⟩ = some (.slice A0_4 l0_4.length c0_4)) ∧ (Kd.V k51 51 w' w.heap.size (fun k_ => (P0_3_ k_ ∨ w.heap.size ≤ k_) ∧ some k_ ≠ (s_.1 : Value).ownBlock ∧ some k_ ≠ (s_.2.1 : Value).ownBlock ∧ some k_ ≠ (s_.2.2.1 : Value).ownBlock ∧ some k_ ≠ (s_.2.2.2 : Value).ownBlock ∧ k_ ≠ gb175 ∧ k_ ≠ gb176) (.slice A0_3 l0_3.length c0_3) l0_3) ∧ (Kd.R Kd.string 9 w' w.heap.size (fun k_ => (w.heap.size ≤ k_) ∧ some k_ ≠ (s_.2.1 : Value).ownBlock) s_.1 t177) ∧ (Kd.R Kd.string 9 w' w.heap.size (fun k_ => (w.heap.size ≤ k_) ∧ some k_ ≠ (s_.1 : Value).ownBlock) s_.2.1 t180) ∧ (Kd.R k44 44 w' w.heap.size (fun k_ => (w.heap.size ≤ k_)) s_.2.2.1 t183) ∧ (Kd.N k51 51 w' w.heap.size (fun k_ => (P0_3_ k_ ∨ w.heap.size ≤ k_) ∧ some k_ ≠ (s_.1 : Value).ownBlock ∧ some k_ ≠ (s_.2.1 : Value).ownBlock ∧ some k_ ≠ (s_.2.2.1 : Value).ownBlock ∧ k_ ≠ gb175 ∧ k_ ≠ gb176) s_.2.2.2 t186) ∧ (w'.heap[gb175]? = some (.cells #[.slice A0_0 l0_0.length c0_0, .slice A0_1 l0_1.length c0_1, .slice A0_2 l0_2.length c0_2, .slice A0_3 l0_3.length c0_3, .slice A0_4 l0_4.length c0_4] 27 (0, 0))) ∧ (w'.heap[gb176]? = some (.cells #[.slice none 0 0, .slice none 0 0, .slice none 0 0, .slice none 0 0, .slice none 0 0] 27 (0, 0))) ∧ (Below w.heap.size w w')) ?_ ?_
       rotate_left
       · intro hJ2_5_8_11
         refine join_ (σ := Value × Value × Value × Nat) 4 #[true, true, true, true, true, true, true, true, true, true, true, false, true, true, false, false, true, false] (fun s_ => [(7, s_.1), (10, s_.2.1), (13, s_.2.2.1), (3, .pointer (some ⟨s_.2.2.2, 0, none⟩))]) (fun s_ w' => (w'.cell? ⟨gb175, 0, none⟩ = some (.slice A0_0 l0_0.length c0_0) ∧ w'.cell? ⟨gb175, 1, none⟩ = some (.slice A0_1 l0_1.length c0_1) ∧ w'.cell? ⟨gb175, 2, none⟩ = some (.slice A0_2 l0_2.length c0_2) ∧ w'.cell? ⟨gb175, 3, none⟩ = some (.slice A0_3 l0_3.length c0_3) ∧ w'.cell? ⟨gb175, 4, none⟩ = some (.slice A0_4 l0_4.length c0_4)) ∧ (Kd.V k51 51 w' w.heap.size (fun k_ => (P0_3_ k_ ∨ w.heap.size ≤ k_) ∧ some k_ ≠ (s_.1 : Value).ownBlock ∧ some k_ ≠ (s_.2.1 : Value).ownBlock ∧ some k_ ≠ (s_.2.2.1 : Value).ownBlock ∧ k_ ≠ gb175 ∧ k_ ≠ gb176 ∧ k_ ≠ s_.2.2.2) (.slice A0_3 l0_3.length c0_3) l0_3) ∧ (Kd.R Kd.string 9 w' w.heap.size (fun k_ => (w.heap.size ≤ k_) ∧ some k_ ≠ (s_.2.1 : Value).ownBlock) s_.1 t177) ∧ (Kd.R Kd.string 9 w' w.heap.size (fun k_ => (w.heap.size ≤ k_) ∧ some k_ ≠ (s_.1 : Value).ownBlock) s_.2.1 t180) ∧ (Kd.R k44 44 w' w.heap.size (fun k_ => (w.heap.size ≤ k_)) s_.2.2.1 t183) ∧ (w'.heap[gb175]? = some (.cells #[.slice A0_0 l0_0.length c0_0, .slice A0_1 l0_1.length c0_1, .slice A0_2 l0_2.length c0_2, .slice A0_3 l0_3.length c0_3, .slice A0_4 l0_4.length c0_4] 27 (0, 0))) ∧ (w'.heap[gb176]? = some (.cells #[.slice none 0 0, .slice none 0 0, .slice none 0 0, .slice none 0 0, .slice none 0 0] 27 (0, 0))) ∧ (w'.heap[s_.2.2.2]? = some (.cells #[.slice none 0 0, .slice none 0 0, .slice none 0 0, .slice none 0 0, .slice none 0 0] 27 (0, 0))) ∧ (w.heap.size ≤ s_.2.2.2) ∧ (w.heap.size ≤ s_.2.2.2) ∧ (gb175 ≠ s_.2.2.2) ∧ (s_.2.2.2 ≠ gb175) ∧ (gb176 ≠ s_.2.2.2) ∧ (s_.2.2.2 ≠ gb176) ∧ (Below w.heap.size w w')) ?_ ?_
         rotate_left
         · intro hJ2_5_8_16
           refine join_ (σ := Value × Value × Value) 5 #[true, true, true, true, true, true, true, true, true, true, true, false, true, true, false, false, false, false] (fun s_ => [(7, s_.1), (10, s_.2.1), (13, s_.2.2)]) (fun s_ w' => (w'.cell? ⟨gb175, 0, none⟩ = some (.slice A0_0 l0_0.length c0_0) ∧ w'.cell? ⟨gb175, 1, none⟩ = some (.slice A0_1 l0_1.length c0_1) ∧ w'.cell? ⟨gb175, 2, none⟩ = some (.slice A0_2 l0_2.length c0_2) ∧ w'.cell? ⟨gb175, 3, none⟩ = some (.slice A0_3 l0_3.length c0_3) ∧ w'.cell? ⟨gb175, 4, none⟩ = some (.slice A0_4 l0_4.length c0_4)) ∧ (Kd.V k51 51 w' w.heap.size (fun k_ => (P0_3_ k_ ∨ w.heap.size ≤ k_) ∧ some k_ ≠ (s_.1 : Value).ownBlock ∧ some k_ ≠ (s_.2.1 : Value).ownBlock ∧ some k_ ≠ (s_.2.2 : Value).ownBlock ∧ k_ ≠ gb175 ∧ k_ ≠ gb176) (.slice A0_3 l0_3.length c0_3) l0_3) ∧ (Kd.R Kd.string 9 w' w.heap.size (fun k_ => (w.heap.size ≤ k_) ∧ some k_ ≠ (s_.2.1 : Value).ownBlock) s_.1 t177) ∧ (Kd.R Kd.string 9 w' w.heap.size (fun k_ => (w.heap.size ≤ k_) ∧ some k_ ≠ (s_.1 : Value).ownBlock) s_.2.1 t180) ∧ (Kd.R k44 44 w' w.heap.size (fun k_ => (w.heap.size ≤ k_)) s_.2.2 t183) ∧ (w'.heap[gb175]? = some (.cells #[.slice A0_0 l0_0.length c0_0, .slice A0_1 l0_1.length c0_1, .slice A0_2 l0_2.length c0_2, .slice A0_3 l0_3.length c0_3, .slice A0_4 l0_4.length c0_4] 27 (0, 0))) ∧ (w'.heap[gb176]? = some (.cells #[.slice none 0 0, .slice none 0 0, .slice none 0 0, .slice none 0 0, .slice none 0 0] 27 (0, 0))) ∧ (Below w.heap.size w w')) ?_ ?_
           rotate_left
           · intro hJ2_5_8
             refine join_ (σ := Value × Value × Nat) 5 #[true, true, true, true, true, true, true, true, false, true, true, false, true, true, false, false, true, false] (fun s_ => [(7, s_.1), (10, s_.2.1), (3, .pointer (some ⟨s_.2.2, 0, none⟩))]) (fun s_ w' => (w'.cell? ⟨gb175, 0, none⟩ = some (.slice A0_0 l0_0.length c0_0) ∧ w'.cell? ⟨gb175, 1, none⟩ = some (.slice A0_1 l0_1.length c0_1) ∧ w'.cell? ⟨gb175, 2, none⟩ = some (.slice A0_2 l0_2.length c0_2) ∧ w'.cell? ⟨gb175, 3, none⟩ = some (.slice A0_3 l0_3.length c0_3) ∧ w'.cell? ⟨gb175, 4, none⟩ = some (.slice A0_4 l0_4.length c0_4)) ∧ (Kd.V k51 51 w' w.heap.size (fun k_ => (P0_3_ k_ ∨ w.heap.size ≤ k_) ∧ some k_ ≠ (s_.1 : Value).ownBlock ∧ some k_ ≠ (s_.2.1 : Value).ownBlock ∧ k_ ≠ gb175 ∧ k_ ≠ gb176 ∧ k_ ≠ s_.2.2) (.slice A0_3 l0_3.length c0_3) l0_3) ∧ (Kd.R Kd.string 9 w' w.heap.size (fun k_ => (w.heap.size ≤ k_) ∧ some k_ ≠ (s_.2.1 : Value).ownBlock) s_.1 t177) ∧ (Kd.R Kd.string 9 w' w.heap.size (fun k_ => (w.heap.size ≤ k_) ∧ some k_ ≠ (s_.1 : Value).ownBlock) s_.2.1 t180) ∧ (w'.heap[gb175]? = some (.cells #[.slice A0_0 l0_0.length c0_0, .slice A0_1 l0_1.length c0_1, .slice A0_2 l0_2.length c0_2, .slice A0_3 l0_3.length c0_3, .slice A0_4 l0_4.length c0_4] 27 (0, 0))) ∧ (w'.heap[gb176]? = some (.cells #[.slice none 0 0, .slice none 0 0, .slice none 0 0, .slice none 0 0, .slice none 0 0] 27 (0, 0))) ∧ (w'.heap[s_.2.2]? = some (.cells #[.slice none 0 0, .slice none 0 0, .slice none 0 0, .slice none 0 0, .slice none 0 0] 27 (0, 0))) ∧ (w.heap.size ≤ s_.2.2) ∧ (w.heap.size ≤ s_.2.2) ∧ (gb175 ≠ s_.2.2) ∧ (s_.2.2 ≠ gb175) ∧ (gb176 ≠ s_.2.2) ∧ (s_.2.2 ≠ gb176) ∧ (Below w.heap.size w w')) ?_ ?_
             rotate_left
             · intro hJ2_5_16
               refine join_ (σ := Value × Value) 6 #[true, true, true, true, true, true, true, true, false, true, true, false, true, true, false, false, false, false] (fun s_ => [(7, s_.1), (10, s_.2)]) (fun s_ w' => (w'.cell? ⟨gb175, 0, none⟩ = some (.slice A0_0 l0_0.length c0_0) ∧ w'.cell? ⟨gb175, 1, none⟩ = some (.slice A0_1 l0_1.length c0_1) ∧ w'.cell? ⟨gb175, 2, none⟩ = some (.slice A0_2 l0_2.length c0_2) ∧ w'.cell? ⟨gb175, 3, none⟩ = some (.slice A0_3 l0_3.length c0_3) ∧ w'.cell? ⟨gb175, 4, none⟩ = some (.slice A0_4 l0_4.length c0_4)) ∧ (Kd.V k51 51 w' w.heap.size (fun k_ => (P0_3_ k_ ∨ w.heap.size ≤ k_) ∧ some k_ ≠ (s_.1 : Value).ownBlock ∧ some k_ ≠ (s_.2 : Value).ownBlock ∧ k_ ≠ gb175 ∧ k_ ≠ gb176) (.slice A0_3 l0_3.length c0_3) l0_3) ∧ (Kd.R Kd.string 9 w' w.heap.size (fun k_ => (w.heap.size ≤ k_) ∧ some k_ ≠ (s_.2 : Value).ownBlock) s_.1 t177) ∧ (Kd.R Kd.string 9 w' w.heap.size (fun k_ => (w.heap.size ≤ k_) ∧ some k_ ≠ (s_.1 : Value).ownBlock) s_.2 t180) ∧ (w'.heap[gb175]? = some (.cells #[.slice A0_0 l0_0.length c0_0, .slice A0_1 l0_1.length c0_1, .slice A0_2 l0_2.length c0_2, .slice A0_3 l0_3.length c0_3, .slice A0_4 l0_4.length c0_4] 27 (0, 0))) ∧ (w'.heap[gb176]? = some (.cells #[.slice none 0 0, .slice none 0 0, .slice none 0 0, .slice none 0 0, .slice none 0 0] 27 (0, 0))) ∧ (Below w.heap.size w w')) ?_ ?_
               rotate_left
               · intro hJ2_5
                 refine join_ (σ := Value × Nat) 6 #[true, true, true, true, true, false, true, true, false, true, true, false, true, true, false, false, true, false] (fun s_ => [(7, s_.1), (3, .pointer (some ⟨s_.2, 0, none⟩))]) (fun s_ w' => (w'.cell? ⟨gb175, 0, none⟩ = some (.slice A0_0 l0_0.length c0_0) ∧ w'.cell? ⟨gb175, 1, none⟩ = some (.slice A0_1 l0_1.length c0_1) ∧ w'.cell? ⟨gb175, 2, none⟩ = some (.slice A0_2 l0_2.length c0_2) ∧ w'.cell? ⟨gb175, 3, none⟩ = some (.slice A0_3 l0_3.length c0_3) ∧ w'.cell? ⟨gb175, 4, none⟩ = some (.slice A0_4 l0_4.length c0_4)) ∧ (Kd.V k51 51 w' w.heap.size (fun k_ => (P0_3_ k_ ∨ w.heap.size ≤ k_) ∧ some k_ ≠ (s_.1 : Value).ownBlock ∧ k_ ≠ gb175 ∧ k_ ≠ gb176 ∧ k_ ≠ s_.2) (.slice A0_3 l0_3.length c0_3) l0_3) ∧ (Kd.R Kd.string 9 w' w.heap.size (fun k_ => (w.heap.size ≤ k_)) s_.1 t177) ∧ (w'.heap[gb175]? = some (.cells #[.slice A0_0 l0_0.length c0_0, .slice A0_1 l0_1.length c0_1, .slice A0_2 l0_2.length c0_2, .slice A0_3 l0_3.length c0_3, .slice A0_4 l0_4.length c0_4] 27 (0, 0))) ∧ (w'.heap[gb176]? = some (.cells #[.slice none 0 0, .slice none 0 0, .slice none 0 0, .slice none 0 0, .slice none 0 0] 27 (0, 0))) ∧ (w'.heap[s_.2]? = some (.cells #[.slice none 0 0, .slice none 0 0, .slice none 0 0, .slice none 0 0, .slice none 0 0] 27 (0, 0))) ∧ (w.heap.size ≤ s_.2) ∧ (w.heap.size ≤ s_.2) ∧ (gb175 ≠ s_.2) ∧ (s_.2 ≠ gb175) ∧ (gb176 ≠ s_.2) ∧ (s_.2 ≠ gb176) ∧ (Below w.heap.size w w')) ?_ ?_
                 rotate_left
                 · intro hJ2_16
                   refine join_ (σ := Value) 7 #[true, true, true, true, true, false, true, true, false, true, true, false, true, true, false, false, false, false] (fun s_ => [(7, s_)]) (fun s_ w' => (w'.cell? ⟨gb175, 0, none⟩ = some (.slice A0_0 l0_0.length c0_0) ∧ w'.cell? ⟨gb175, 1, none⟩ = some (.slice A0_1 l0_1.length c0_1) ∧ w'.cell? ⟨gb175, 2, none⟩ = some (.slice A0_2 l0_2.length c0_2) ∧ w'.cell? ⟨gb175, 3, none⟩ = some (.slice A0_3 l0_3.length c0_3) ∧ w'.cell? ⟨gb175, 4, none⟩ = some (.slice A0_4 l0_4.length c0_4)) ∧ (Kd.V k51 51 w' w.heap.size (fun k_ => (P0_3_ k_ ∨ w.heap.size ≤ k_) ∧ some k_ ≠ (s_ : Value).ownBlock ∧ k_ ≠ gb175 ∧ k_ ≠ gb176) (.slice A0_3 l0_3.length c0_3) l0_3) ∧ (Kd.R Kd.string 9 w' w.heap.size (fun k_ => (w.heap.size ≤ k_)) s_ t177) ∧ (w'.heap[gb175]? = some (.cells #[.slice A0_0 l0_0.length c0_0, .slice A0_1 l0_1.length c0_1, .slice A0_2 l0_2.length c0_2, .slice A0_3 l0_3.length c0_3, .slice A0_4 l0_4.length c0_4] 27 (0, 0))) ∧ (w'.heap[gb176]? = some (.cells #[.slice none 0 0, .slice none 0 0, .slice none 0 0, .slice none 0 0, .slice none 0 0] 27 (0, 0))) ∧ (Below w.heap.size w w')) ?_ ?_
                   rotate_left
                   · intro hJ2
                     refine join_ (σ := Nat) 7 #[true, true, false, true, true, false, true, true, false, true, true, false, true, true, false, false, true, false] (fun s_ => [(3, .pointer (some ⟨s_, 0, none⟩))]) (fun s_ w' => (w'.cell? ⟨gb175, 0, none⟩ = some (.slice A0_0 l0_0.length c0_0) ∧ w'.cell? ⟨gb175, 1, none⟩ = some (.slice A0_1 l0_1.length c0_1) ∧ w'.cell? ⟨gb175, 2, none⟩ = some (.slice A0_2 l0_2.length c0_2) ∧ w'.cell? ⟨gb175, 3, none⟩ = some (.slice A0_3 l0_3.length c0_3) ∧ w'.cell? ⟨gb175, 4, none⟩ = some (.slice A0_4 l0_4.length c0_4)) ∧ (Kd.V k51 51 w' w.heap.size (fun k_ => (P0_3_ k_ ∨ w.heap.size ≤ k_) ∧ k_ ≠ gb175 ∧ k_ ≠ gb176 ∧ k_ ≠ s_) (.slice A0_3 l0_3.length c0_3) l0_3) ∧ (w'.heap[gb175]? = some (.cells #[.slice A0_0 l0_0.length c0_0, .slice A0_1 l0_1.length c0_1, .slice A0_2 l0_2.length c0_2, .slice A0_3 l0_3.length c0_3, .slice A0_4 l0_4.length c0_4] 27 (0, 0))) ∧ (w'.heap[gb176]? = some (.cells #[.slice none 0 0, .slice none 0 0, .slice none 0 0, .slice none 0 0, .slice none 0 0] 27 (0, 0))) ∧ (w'.heap[s_]? = some (.cells #[.slice none 0 0, .slice none 0 0, .slice none 0 0, .slice none 0 0, .slice none 0 0] 27 (0, 0))) ∧ (w.heap.size ≤ s_) ∧ (w.heap.size ≤ s_) ∧ (gb175 ≠ s_) ∧ (s_ ≠ gb175) ∧ (gb176 ≠ s_) ∧ (s_ ≠ gb176) ∧ (Below w.heap.size w w')) ?_ ?_
                     rotate_left
                     · intro hJ16
                       refine two_ (i := 2) (j := 16) (Ni := some 7) (Nj := some 3) #[true, true, true, true, true, false, true, true, false, true, true, false, true, true, false, false, false, false] #[true, true, false, true, true, false, true, true, false, true, true, false, true, true, false, false, true, false] rfl rfl rfl rfl (two_of HT_.out (by kernel_rfl)) (by decide) (by decide) (fun K hK => ?_) (fun K hK => ?_)
                       · skip
                         refine goes_ Tryd.func30 (by kernel_rfl) rfl #[.slice A0_0 l0_0.length c0_0] (by rfl) rfl rfl (by (try simp only [List.map_toArray, List.map_cons, List.map_nil]); first | done | rfl | (simp only [List.length_drop, List.length_take]; rfl)) ?_
                         with_reducible refine (slices_Clone_string_string.calls _ _ l0_0 t177 _ ?side1 ?side2 A2.out).mono ?_
                         (case side1 => exact kc (Kd.C_below HR0_0.out HB.out))
                         (case side2 => exact HC0_0.out)
                         rintro e w10 ⟨v178, rfl, ho0, hb⟩
                         refine ⟨_, rfl, ?_⟩
                         have n0_ := Aside0.mk (Kd.V_elder' (by (with_reducible repeat (first | apply Kd.V_alloc | apply Kd.V_drewN | apply Kd.V_drew)); exact HO0_3.out) (Kd.R_base ho0) hb)
                         have n1_ := Aside0.mk (Kd.R_lower (Kd.R_newM (M := fun k_ => (w.heap.size ≤ k_)) ho0 (below_size bl) (fun k_ h_ => h_)) (below_size bl))
                         have n2_ := Aside0.mk (bb BK175.out hb)
                         have n3_ := Aside0.mk (bb BK176.out hb)
                         have n4_ := Aside0.mk (below_step bl hb)
                         clear HO0_3
                         clear BK175
                         clear BK176
                         clear HB
                         have HO0_3 := n0_
                         have HO179 := n1_
                         have BK175 := n2_
                         have BK176 := n3_
                         have HB := n4_
                         clear n0_ n1_ n2_ n3_ n4_
                         (try clear hb)
                         (try clear hb2)
                         (try clear hk)
                         (try clear hi)
                         (try clear ho0)
                         refine hK.out _ _ ⟨(blk_cell BK175.out 0).trans rfl, (blk_cell BK175.out 1).trans rfl, (blk_cell BK175.out 2).trans rfl, (blk_cell BK175.out 3).trans rfl, (blk_cell BK175.out 4).trans rfl⟩ (fun hHeld => ?_)
                         clear hK K
                         refine norm_ (a' := ?_) ?_ ?_
                         rotate_left
                         · show Act.put _ (some 7) _ = _
                           simp only [Act.put, List.setIfInBounds_toArray, List.set_cons_zero, List.set_cons_succ, i64_w, i32_w]
                           rfl
                         exact norm_ (by first | (simp only [putAll, Act.put, List.setIfInBounds_toArray, List.set_cons_zero, List.set_cons_succ]; done) | (simp only [putAll, Act.put, List.setIfInBounds_toArray, List.set_cons_zero, List.set_cons_succ]; rfl)) (hJ2 (v178) _ ⟨hHeld, (by (with_reducible repeat (first | apply Kd.V_alloc | apply Kd.V_drewN | apply Kd.V_drew)); exact Kd.V_mono HO0_3.out (fun _ hk => ⟨hk.1.1.1, ⟨hk.2, ⟨hk.1.1.2, hk.1.2⟩⟩⟩)), (by (with_reducible repeat (first | apply Kd.R_alloc | apply Kd.R_drewN | apply Kd.R_drew)); exact Kd.R_mono HO179.out (fun _ hk => hk.1)), (bk BK175.out), (bk BK176.out), bl⟩)
                       skip
                       refine box_step ?hg (N := 3) ?hd (cs := #[.slice none 0 0, .slice none 0 0, .slice none 0 0, .slice none 0 0, .slice none 0 0]) (t := 27) ?hr ?_; (case hd => rfl); (case hg => rfl); (case hr => first | (go_simp; done) | (go_simp; rfl))
                       intro gb192 hg w10 hbox hb
                       have n0_ := Aside0.mk (Kd.V_below (Kd.V_elderB (by (with_reducible repeat (first | apply Kd.V_alloc | apply Kd.V_drewN | apply Kd.V_drew)); exact HO0_3.out) gb192 (Nat.le_of_eq hg.symm)) hb)
                       have n1_ := Aside0.mk (bb BK175.out hb)
                       have n2_ := Aside0.mk (bb BK176.out hb)
                       have n3_ := Aside0.mk (below_step bl hb)
                       have n4_ := Aside0.mk (hbox)
                       have n5_ := Aside0.mk (ge (w := w) hg)
                       have n6_ := Aside0.mk (ge (w := w) hg)
                       have n7_ := Aside0.mk (nl hg (bk BK175.out))
                       have n8_ := Aside0.mk (ng hg (bk BK175.out))
                       have n9_ := Aside0.mk (nl hg (bk BK176.out))
                       have n10_ := Aside0.mk (ng hg (bk BK176.out))
                       clear HO0_3
                       clear BK175
                       clear BK176
                       clear HB
                       have HO0_3 := n0_
                       have BK175 := n1_
                       have BK176 := n2_
                       have HB := n3_
                       have BK192 := n4_
                       have GW192 := n5_
                       have GE192 := n6_
                       have NB175_192 := n7_
                       have NB192_175 := n8_
                       have NB176_192 := n9_
                       have NB192_176 := n10_
                       clear n0_ n1_ n2_ n3_ n4_ n5_ n6_ n7_ n8_ n9_ n10_
                       clear hb hbox hg
                       refine hK.out _ _ ⟨(blk_cell BK175.out 0).trans rfl, (blk_cell BK175.out 1).trans rfl, (blk_cell BK175.out 2).trans rfl, (blk_cell BK175.out 3).trans rfl, (blk_cell BK175.out 4).trans rfl⟩ (fun hHeld => ?_)
                       clear hK K
                       refine norm_ (a' := ?_) ?_ ?_
                       rotate_left
                       · show Act.put _ (some 3) _ = _
                         simp only [Act.put, List.setIfInBounds_toArray, List.set_cons_zero, List.set_cons_succ, i64_w, i32_w]
                         rfl
                       exact norm_ (by first | (simp only [putAll, Act.put, List.setIfInBounds_toArray, List.set_cons_zero, List.set_cons_succ]; done) | (simp only [putAll, Act.put, List.setIfInBounds_toArray, List.set_cons_zero, List.set_cons_succ]; rfl)) (hJ16 (gb192) _ ⟨hHeld, (by (with_reducible repeat (first | apply Kd.V_alloc | apply Kd.V_drewN | apply Kd.V_drew)); exact Kd.V_mono HO0_3.out (fun _ hk => ⟨hk.1.1.1, ⟨hk.1.1.2, ⟨hk.1.2, hk.2⟩⟩⟩)), (bk BK175.out), (bk BK176.out), (bk BK192.out), GW192.out, GE192.out, NB175_192.out, NB192_175.out, NB176_192.out, NB192_176.out, bl⟩)
                     skip
                     rintro gb192 w11 ⟨hS_, h0_, h1_, h2_, h3_, h4_, h5_, h6_, h7_, h8_, h9_, h10_⟩
                     have n0_ : Aside0 (Kd.V k51 51 w11 w.heap.size (fun k_ => (P0_3_ k_ ∨ w.heap.size ≤ k_) ∧ k_ ≠ gb175 ∧ k_ ≠ gb176 ∧ k_ ≠ gb192) (.slice A0_3 l0_3.length c0_3) l0_3) := ⟨h0_⟩
                     have n1_ : Aside0 (w11.heap[gb175]? = some (.cells #[.slice A0_0 l0_0.length c0_0, .slice A0_1 l0_1.length c0_1, .slice A0_2 l0_2.length c0_2, .slice A0_3 l0_3.length c0_3, .slice A0_4 l0_4.length c0_4] 27 (0, 0))) := ⟨h1_⟩
                     have n2_ : Aside0 (w11.heap[gb176]? = some (.cells #[.slice none 0 0, .slice none 0 0, .slice none 0 0, .slice none 0 0, .slice none 0 0] 27 (0, 0))) := ⟨h2_⟩
                     have n3_ : Aside0 (w11.heap[gb192]? = some (.cells #[.slice none 0 0, .slice none 0 0, .slice none 0 0, .slice none 0 0, .slice none 0 0] 27 (0, 0))) := ⟨h3_⟩
                     have n4_ : Aside0 (w.heap.size ≤ gb192) := ⟨h4_⟩
                     have n5_ : Aside0 (w.heap.size ≤ gb192) := ⟨h5_⟩
                     have n6_ : Aside0 (gb175 ≠ gb192) := ⟨h6_⟩
                     have n7_ : Aside0 (gb192 ≠ gb175) := ⟨h7_⟩
                     have n8_ : Aside0 (gb176 ≠ gb192) := ⟨h8_⟩
                     have n9_ : Aside0 (gb192 ≠ gb176) := ⟨h9_⟩
                     have n10_ : Aside0 (Below w.heap.size w w11) := ⟨h10_⟩
                     clear HO0_3
                     clear BK175
                     clear BK176
                     clear HB
                     clear h0_ h1_ h2_ h3_ h4_ h5_ h6_ h7_ h8_ h9_ h10_
                     have HO0_3 := n0_
                     have BK175 := n1_
                     have BK176 := n2_
                     have BK192 := n3_
                     have GW192 := n4_
                     have GE192 := n5_
                     have NB175_192 := n6_
                     have NB192_175 := n7_
                     have NB176_192 := n8_
                     have NB192_176 := n9_
                     have HB := n10_
                     clear n0_ n1_ n2_ n3_ n4_ n5_ n6_ n7_ n8_ n9_ n10_
                     have hHeld : w11.cell? ⟨gb175, 0, none⟩ = some (.slice A0_0 l0_0.length c0_0) ∧ w11.cell? ⟨gb175, 1, none⟩ = some (.slice A0_1 l0_1.length c0_1) ∧ w11.cell? ⟨gb175, 2, none⟩ = some (.slice A0_2 l0_2.length c0_2) ∧ w11.cell? ⟨gb175, 3, none⟩ = some (.slice A0_3 l0_3.length c0_3) ∧ w11.cell? ⟨gb175, 4, none⟩ = some (.slice A0_4 l0_4.length c0_4) := hS_
                     refine norm_ (a' := ?_) ?_ ?_
                     rotate_left
                     · simp only [putAll, Act.put, List.setIfInBounds_toArray, List.set_cons_zero, List.set_cons_succ]
                       rfl
                     refine one_ (i := 2) (N := some 7) #[true, true, true, true, true, false, true, true, false, true, true, false, true, true, false, false, true, false] rfl rfl (one_of HT_.out (by kernel_rfl)) (by decide) (fun K hK => ?_)
                     refine goes_ Tryd.func30 (by kernel_rfl) rfl #[.slice A0_0 l0_0.length c0_0] (by rfl) rfl rfl (by (try simp only [List.map_toArray, List.map_cons, List.map_nil]); first | done | rfl | (simp only [List.length_drop, List.length_take]; rfl)) ?_
                     with_reducible refine (slices_Clone_string_string.calls _ _ l0_0 t177 _ ?side1 ?side2 A2.out).mono ?_
                     (case side1 => exact kc (Kd.C_below HR0_0.out HB.out))
                     (case side2 => exact HC0_0.out)
                     rintro e w12 ⟨v178, rfl, ho0, hb⟩
                     refine ⟨_, rfl, ?_⟩
                     have n0_ := Aside0.mk (Kd.V_elder' (by (with_reducible repeat (first | apply Kd.V_alloc | apply Kd.V_drewN | apply Kd.V_drew)); exact HO0_3.out) (Kd.R_base ho0) hb)
                     have n1_ := Aside0.mk (Kd.R_lower (Kd.R_newM (M := fun k_ => (w.heap.size ≤ k_)) ho0 (below_size bl) (fun k_ h_ => h_)) (below_size bl))
                     have n2_ := Aside0.mk (bb BK175.out hb)
                     have n3_ := Aside0.mk (bb BK176.out hb)
                     have n4_ := Aside0.mk (bb BK192.out hb)
                     have n5_ := Aside0.mk (below_step bl hb)
                     clear HO0_3
                     clear BK175
                     clear BK176
                     clear BK192
                     clear HB
                     have HO0_3 := n0_
                     have HO179 := n1_
                     have BK175 := n2_
                     have BK176 := n3_
                     have BK192 := n4_
                     have HB := n5_
                     clear n0_ n1_ n2_ n3_ n4_ n5_
                     (try clear hb)
                     (try clear hb2)
                     (try clear hk)
                     (try clear hi)
                     (try clear ho0)
                     refine hK.out _ _ ⟨(blk_cell BK175.out 0).trans rfl, (blk_cell BK175.out 1).trans rfl, (blk_cell BK175.out 2).trans rfl, (blk_cell BK175.out 3).trans rfl, (blk_cell BK175.out 4).trans rfl⟩ (fun hHeld => ?_)
                     clear hK K
                     refine norm_ (a' := ?_) ?_ ?_
                     rotate_left
                     · show Act.put _ (some 7) _ = _
                       simp only [Act.put, List.setIfInBounds_toArray, List.set_cons_zero, List.set_cons_succ, i64_w, i32_w]
                       rfl
                     exact norm_ (by first | (simp only [putAll, Act.put, List.setIfInBounds_toArray, List.set_cons_zero, List.set_cons_succ]; done) | (simp only [putAll, Act.put, List.setIfInBounds_toArray, List.set_cons_zero, List.set_cons_succ]; rfl)) (hJ2_16 (v178, gb192) _ ⟨hHeld, (by (with_reducible repeat (first | apply Kd.V_alloc | apply Kd.V_drewN | apply Kd.V_drew)); exact Kd.V_mono HO0_3.out (fun _ hk => ⟨hk.1.1, ⟨hk.2, ⟨hk.1.2.1, ⟨hk.1.2.2.1, hk.1.2.2.2⟩⟩⟩⟩)), (by (with_reducible repeat (first | apply Kd.R_alloc | apply Kd.R_drewN | apply Kd.R_drew)); exact Kd.R_mono HO179.out (fun _ hk => hk.1)), (bk BK175.out), (bk BK176.out), (bk BK192.out), GW192.out, GE192.out, NB175_192.out, NB192_175.out, NB176_192.out, NB192_176.out, bl⟩)
                   skip
                   rintro v178 w11 ⟨hS_, h0_, h1_, h2_, h3_, h4_⟩
                   have n0_ : Aside0 (Kd.V k51 51 w11 w.heap.size (fun k_ => (P0_3_ k_ ∨ w.heap.size ≤ k_) ∧ some k_ ≠ (v178 : Value).ownBlock ∧ k_ ≠ gb175 ∧ k_ ≠ gb176) (.slice A0_3 l0_3.length c0_3) l0_3) := ⟨h0_⟩
                   have n1_ : Aside0 (Kd.R Kd.string 9 w11 w.heap.size (fun k_ => (w.heap.size ≤ k_)) v178 t177) := ⟨h1_⟩
                   have n2_ : Aside0 (w11.heap[gb175]? = some (.cells #[.slice A0_0 l0_0.length c0_0, .slice A0_1 l0_1.length c0_1, .slice A0_2 l0_2.length c0_2, .slice A0_3 l0_3.length c0_3, .slice A0_4 l0_4.length c0_4] 27 (0, 0))) := ⟨h2_⟩
                   have n3_ : Aside0 (w11.heap[gb176]? = some (.cells #[.slice none 0 0, .slice none 0 0, .slice none 0 0, .slice none 0 0, .slice none 0 0] 27 (0, 0))) := ⟨h3_⟩
                   have n4_ : Aside0 (Below w.heap.size w w11) := ⟨h4_⟩
                   clear HO0_3
                   clear BK175
                   clear BK176
                   clear HB
                   clear h0_ h1_ h2_ h3_ h4_
                   have HO0_3 := n0_
                   have HO179 := n1_
                   have BK175 := n2_
                   have BK176 := n3_
                   have HB := n4_
                   clear n0_ n1_ n2_ n3_ n4_
                   have hHeld : w11.cell? ⟨gb175, 0, none⟩ = some (.slice A0_0 l0_0.length c0_0) ∧ w11.cell? ⟨gb175, 1, none⟩ = some (.slice A0_1 l0_1.length c0_1) ∧ w11.cell? ⟨gb175, 2, none⟩ = some (.slice A0_2 l0_2.length c0_2) ∧ w11.cell? ⟨gb175, 3, none⟩ = some (.slice A0_3 l0_3.length c0_3) ∧ w11.cell? ⟨gb175, 4, none⟩ = some (.slice A0_4 l0_4.length c0_4) := hS_
                   refine norm_ (a' := ?_) ?_ ?_
                   rotate_left
                   · simp only [putAll, Act.put, List.setIfInBounds_toArray, List.set_cons_zero, List.set_cons_succ]
                     rfl
                   refine two_ (i := 5) (j := 16) (Ni := some 10) (Nj := some 3) #[true, true, true, true, true, true, true, true, false, true, true, false, true, true, false, false, false, false] #[true, true, true, true, true, false, true, true, false, true, true, false, true, true, false, false, true, false] rfl rfl rfl rfl (two_of HT_.out (by kernel_rfl)) (by decide) (by decide) (fun K hK => ?_) (fun K hK => ?_)
                   · skip
                     refine goes_ Tryd.func30 (by kernel_rfl) rfl #[.slice A0_1 l0_1.length c0_1] (by rfl) rfl rfl (by (try simp only [List.map_toArray, List.map_cons, List.map_nil]); first | done | rfl | (simp only [List.length_drop, List.length_take]; rfl)) ?_
                     with_reducible refine (slices_Clone_string_string.calls _ _ l0_1 t180 _ ?side1 ?side2 A3.out).mono ?_
                     (case side1 => exact kc (Kd.C_below HR0_1.out HB.out))
                     (case side2 => exact HC0_1.out)
                     rintro e w12 ⟨v181, rfl, ho0, hb⟩
                     refine ⟨_, rfl, ?_⟩
                     have n0_ := Aside0.mk (Kd.V_elder' (by (with_reducible repeat (first | apply Kd.V_alloc | apply Kd.V_drewN | apply Kd.V_drew)); exact HO0_3.out) (Kd.R_base ho0) hb)
                     have n1_ := Aside0.mk (Kd.R_elder' (by (with_reducible repeat (first | apply Kd.R_alloc | apply Kd.R_drewN | apply Kd.R_drew)); exact HO179.out) (Kd.R_base ho0) hb)
                     have n2_ := Aside0.mk (Kd.R_lower (Kd.R_new' (Kd.R_newM (M := fun k_ => (w.heap.size ≤ k_)) ho0 (below_size bl) (fun k_ h_ => h_)) (Kd.R_lt (by (with_reducible repeat (first | apply Kd.R_alloc | apply Kd.R_drewN | apply Kd.R_drew)); exact HO179.out))) (below_size bl))
                     have n3_ := Aside0.mk (bb BK175.out hb)
                     have n4_ := Aside0.mk (bb BK176.out hb)
                     have n5_ := Aside0.mk (below_step bl hb)
                     clear HO0_3
                     clear HO179
                     clear BK175
                     clear BK176
                     clear HB
                     have HO0_3 := n0_
                     have HO179 := n1_
                     have HO182 := n2_
                     have BK175 := n3_
                     have BK176 := n4_
                     have HB := n5_
                     clear n0_ n1_ n2_ n3_ n4_ n5_
                     (try clear hb)
                     (try clear hb2)
                     (try clear hk)
                     (try clear hi)
                     (try clear ho0)
                     refine hK.out _ _ ⟨(blk_cell BK175.out 0).trans rfl, (blk_cell BK175.out 1).trans rfl, (blk_cell BK175.out 2).trans rfl, (blk_cell BK175.out 3).trans rfl, (blk_cell BK175.out 4).trans rfl⟩ (fun hHeld => ?_)
                     clear hK K
                     refine norm_ (a' := ?_) ?_ ?_
                     rotate_left
                     · show Act.put _ (some 10) _ = _
                       simp only [Act.put, List.setIfInBounds_toArray, List.set_cons_zero, List.set_cons_succ, i64_w, i32_w]
                       rfl
                     exact norm_ (by first | (simp only [putAll, Act.put, List.setIfInBounds_toArray, List.set_cons_zero, List.set_cons_succ]; done) | (simp only [putAll, Act.put, List.setIfInBounds_toArray, List.set_cons_zero, List.set_cons_succ]; rfl)) (hJ2_5 (v178, v181) _ ⟨hHeld, (by (with_reducible repeat (first | apply Kd.V_alloc | apply Kd.V_drewN | apply Kd.V_drew)); exact Kd.V_mono HO0_3.out (fun _ hk => ⟨hk.1.1, ⟨hk.1.2.1, ⟨hk.2, ⟨hk.1.2.2.1, hk.1.2.2.2⟩⟩⟩⟩)), (by (with_reducible repeat (first | apply Kd.R_alloc | apply Kd.R_drewN | apply Kd.R_drew)); exact HO179.out), (by (with_reducible repeat (first | apply Kd.R_alloc | apply Kd.R_drewN | apply Kd.R_drew)); exact Kd.R_mono HO182.out (fun _ hk => ⟨hk.1.1, hk.2⟩)), (bk BK175.out), (bk BK176.out), bl⟩)
                   skip
                   refine box_step ?hg (N := 3) ?hd (cs := #[.slice none 0 0, .slice none 0 0, .slice none 0 0, .slice none 0 0, .slice none 0 0]) (t := 27) ?hr ?_; (case hd => rfl); (case hg => rfl); (case hr => first | (go_simp; done) | (go_simp; rfl))
                   intro gb192 hg w12 hbox hb
                   have n0_ := Aside0.mk (Kd.V_below (Kd.V_elderB (by (with_reducible repeat (first | apply Kd.V_alloc | apply Kd.V_drewN | apply Kd.V_drew)); exact HO0_3.out) gb192 (Nat.le_of_eq hg.symm)) hb)
                   have n1_ := Aside0.mk (rb HO179.out hb)
                   have n2_ := Aside0.mk (bb BK175.out hb)
                   have n3_ := Aside0.mk (bb BK176.out hb)
                   have n4_ := Aside0.mk (below_step bl hb)
                   have n5_ := Aside0.mk (hbox)
                   have n6_ := Aside0.mk (ge (w := w) hg)
                   have n7_ := Aside0.mk (ge (w := w) hg)
                   have n8_ := Aside0.mk (nl hg (bk BK175.out))
                   have n9_ := Aside0.mk (ng hg (bk BK175.out))
                   have n10_ := Aside0.mk (nl hg (bk BK176.out))
                   have n11_ := Aside0.mk (ng hg (bk BK176.out))
                   clear HO0_3
                   clear HO179
                   clear BK175
                   clear BK176
                   clear HB
                   have HO0_3 := n0_
                   have HO179 := n1_
                   have BK175 := n2_
                   have BK176 := n3_
                   have HB := n4_
                   have BK192 := n5_
                   have GW192 := n6_
                   have GE192 := n7_
                   have NB175_192 := n8_
                   have NB192_175 := n9_
                   have NB176_192 := n10_
                   have NB192_176 := n11_
                   clear n0_ n1_ n2_ n3_ n4_ n5_ n6_ n7_ n8_ n9_ n10_ n11_
                   clear hb hbox hg
                   refine hK.out _ _ ⟨(blk_cell BK175.out 0).trans rfl, (blk_cell BK175.out 1).trans rfl, (blk_cell BK175.out 2).trans rfl, (blk_cell BK175.out 3).trans rfl, (blk_cell BK175.out 4).trans rfl⟩ (fun hHeld => ?_)
                   clear hK K
                   refine norm_ (a' := ?_) ?_ ?_
                   rotate_left
                   · show Act.put _ (some 3) _ = _
                     simp only [Act.put, List.setIfInBounds_toArray, List.set_cons_zero, List.set_cons_succ, i64_w, i32_w]
                     rfl
                   exact norm_ (by first | (simp only [putAll, Act.put, List.setIfInBounds_toArray, List.set_cons_zero, List.set_cons_succ]; done) | (simp only [putAll, Act.put, List.setIfInBounds_toArray, List.set_cons_zero, List.set_cons_succ]; rfl)) (hJ2_16 (v178, gb192) _ ⟨hHeld, (by (with_reducible repeat (first | apply Kd.V_alloc | apply Kd.V_drewN | apply Kd.V_drew)); exact Kd.V_mono HO0_3.out (fun _ hk => ⟨hk.1.1, ⟨hk.1.2.1, ⟨hk.1.2.2.1, ⟨hk.1.2.2.2, hk.2⟩⟩⟩⟩)), (by (with_reducible repeat (first | apply Kd.R_alloc | apply Kd.R_drewN | apply Kd.R_drew)); exact HO179.out), (bk BK175.out), (bk BK176.out), (bk BK192.out), GW192.out, GE192.out, NB175_192.out, NB192_175.out, NB176_192.out, NB192_176.out, bl⟩)
                 skip
                 rintro ⟨v178, gb192⟩ w12 ⟨hS_, h0_, h1_, h2_, h3_, h4_, h5_, h6_, h7_, h8_, h9_, h10_, h11_⟩
                 have n0_ : Aside0 (Kd.V k51 51 w12 w.heap.size (fun k_ => (P0_3_ k_ ∨ w.heap.size ≤ k_) ∧ some k_ ≠ (v178 : Value).ownBlock ∧ k_ ≠ gb175 ∧ k_ ≠ gb176 ∧ k_ ≠ gb192) (.slice A0_3 l0_3.length c0_3) l0_3) := ⟨h0_⟩
                 have n1_ : Aside0 (Kd.R Kd.string 9 w12 w.heap.size (fun k_ => (w.heap.size ≤ k_)) v178 t177) := ⟨h1_⟩
                 have n2_ : Aside0 (w12.heap[gb175]? = some (.cells #[.slice A0_0 l0_0.length c0_0, .slice A0_1 l0_1.length c0_1, .slice A0_2 l0_2.length c0_2, .slice A0_3 l0_3.length c0_3, .slice A0_4 l0_4.length c0_4] 27 (0, 0))) := ⟨h2_⟩
                 have n3_ : Aside0 (w12.heap[gb176]? = some (.cells #[.slice none 0 0, .slice none 0 0, .slice none 0 0, .slice none 0 0, .slice none 0 0] 27 (0, 0))) := ⟨h3_⟩
                 have n4_ : Aside0 (w12.heap[gb192]? = some (.cells #[.slice none 0 0, .slice none 0 0, .slice none 0 0, .slice none 0 0, .slice none 0 0] 27 (0, 0))) := ⟨h4_⟩
                 have n5_ : Aside0 (w.heap.size ≤ gb192) := ⟨h5_⟩
                 have n6_ : Aside0 (w.heap.size ≤ gb192) := ⟨h6_⟩
                 have n7_ : Aside0 (gb175 ≠ gb192) := ⟨h7_⟩
                 have n8_ : Aside0 (gb192 ≠ gb175) := ⟨h8_⟩
                 have n9_ : Aside0 (gb176 ≠ gb192) := ⟨h9_⟩
                 have n10_ : Aside0 (gb192 ≠ gb176) := ⟨h10_⟩
                 have n11_ : Aside0 (Below w.heap.size w w12) := ⟨h11_⟩
                 clear HO0_3
                 clear BK175
                 clear BK176
                 clear HB
                 clear h0_ h1_ h2_ h3_ h4_ h5_ h6_ h7_ h8_ h9_ h10_ h11_
                 have HO0_3 := n0_
                 have HO179 := n1_
                 have BK175 := n2_
                 have BK176 := n3_
                 have BK192 := n4_
                 have GW192 := n5_
                 have GE192 := n6_
                 have NB175_192 := n7_
                 have NB192_175 := n8_
                 have NB176_192 := n9_
                 have NB192_176 := n10_
                 have HB := n11_
                 clear n0_ n1_ n2_ n3_ n4_ n5_ n6_ n7_ n8_ n9_ n10_ n11_
                 have hHeld : w12.cell? ⟨gb175, 0, none⟩ = some (.slice A0_0 l0_0.length c0_0) ∧ w12.cell? ⟨gb175, 1, none⟩ = some (.slice A0_1 l0_1.length c0_1) ∧ w12.cell? ⟨gb175, 2, none⟩ = some (.slice A0_2 l0_2.length c0_2) ∧ w12.cell? ⟨gb175, 3, none⟩ = some (.slice A0_3 l0_3.length c0_3) ∧ w12.cell? ⟨gb175, 4, none⟩ = some (.slice A0_4 l0_4.length c0_4) := hS_
                 refine norm_ (a' := ?_) ?_ ?_
                 rotate_left
                 · simp only [putAll, Act.put, List.setIfInBounds_toArray, List.set_cons_zero, List.set_cons_succ]
                   rfl
                 refine one_ (i := 5) (N := some 10) #[true, true, true, true, true, true, true, true, false, true, true, false, true, true, false, false, true, false] rfl rfl (one_of HT_.out (by kernel_rfl)) (by decide) (fun K hK => ?_)
                 refine goes_ Tryd.func30 (by kernel_rfl) rfl #[.slice A0_1 l0_1.length c0_1] (by rfl) rfl rfl (by (try simp only [List.map_toArray, List.map_cons, List.map_nil]); first | done | rfl | (simp only [List.length_drop, List.length_take]; rfl)) ?_
                 with_reducible refine (slices_Clone_string_string.calls _ _ l0_1 t180 _ ?side1 ?side2 A3.out).mono ?_
                 (case side1 => exact kc (Kd.C_below HR0_1.out HB.out))
                 (case side2 => exact HC0_1.out)
                 rintro e w13 ⟨v181, rfl, ho0, hb⟩
                 refine ⟨_, rfl, ?_⟩
                 have n0_ := Aside0.mk (Kd.V_elder' (by (with_reducible repeat (first | apply Kd.V_alloc | apply Kd.V_drewN | apply Kd.V_drew)); exact HO0_3.out) (Kd.R_base ho0) hb)
                 have n1_ := Aside0.mk (Kd.R_elder' (by (with_reducible repeat (first | apply Kd.R_alloc | apply Kd.R_drewN | apply Kd.R_drew)); exact HO179.out) (Kd.R_base ho0) hb)
                 have n2_ := Aside0.mk (Kd.R_lower (Kd.R_new' (Kd.R_newM (M := fun k_ => (w.heap.size ≤ k_)) ho0 (below_size bl) (fun k_ h_ => h_)) (Kd.R_lt (by (with_reducible repeat (first | apply Kd.R_alloc | apply Kd.R_drewN | apply Kd.R_drew)); exact HO179.out))) (below_size bl))
                 have n3_ := Aside0.mk (bb BK175.out hb)
                 have n4_ := Aside0.mk (bb BK176.out hb)
                 have n5_ := Aside0.mk (bb BK192.out hb)
                 have n6_ := Aside0.mk (below_step bl hb)
                 clear HO0_3
                 clear HO179
                 clear BK175
                 clear BK176
                 clear BK192
                 clear HB
                 have HO0_3 := n0_
                 have HO179 := n1_
                 have HO182 := n2_
                 have BK175 := n3_
                 have BK176 := n4_
                 have BK192 := n5_
                 have HB := n6_
                 clear n0_ n1_ n2_ n3_ n4_ n5_ n6_
                 (try clear hb)
                 (try clear hb2)
                 (try clear hk)
                 (try clear hi)
                 (try clear ho0)
                 refine hK.out _ _ ⟨(blk_cell BK175.out 0).trans rfl, (blk_cell BK175.out 1).trans rfl, (blk_cell BK175.out 2).trans rfl, (blk_cell BK175.out 3).trans rfl, (blk_cell BK175.out 4).trans rfl⟩ (fun hHeld => ?_)
                 clear hK K
                 refine norm_ (a' := ?_) ?_ ?_
                 rotate_left
                 · show Act.put _ (some 10) _ = _
                   simp only [Act.put, List.setIfInBounds_toArray, List.set_cons_zero, List.set_cons_succ, i64_w, i32_w]
                   rfl
                 exact norm_ (by first | (simp only [putAll, Act.put, List.setIfInBounds_toArray, List.set_cons_zero, List.set_cons_succ]; done) | (simp only [putAll, Act.put, List.setIfInBounds_toArray, List.set_cons_zero, List.set_cons_succ]; rfl)) (hJ2_5_16 (v178, v181, gb192) _ ⟨hHeld, (by (with_reducible repeat (first | apply Kd.V_alloc | apply Kd.V_drewN | apply Kd.V_drew)); exact Kd.V_mono HO0_3.out (fun _ hk => ⟨hk.1.1, ⟨hk.1.2.1, ⟨hk.2, ⟨hk.1.2.2.1, ⟨hk.1.2.2.2.1, hk.1.2.2.2.2⟩⟩⟩⟩⟩)), (by (with_reducible repeat (first | apply Kd.R_alloc | apply Kd.R_drewN | apply Kd.R_drew)); exact HO179.out), (by (with_reducible repeat (first | apply Kd.R_alloc | apply Kd.R_drewN | apply Kd.R_drew)); exact Kd.R_mono HO182.out (fun _ hk => ⟨hk.1.1, hk.2⟩)), (bk BK175.out), (bk BK176.out), (bk BK192.out), GW192.out, GE192.out, NB175_192.out, NB192_175.out, NB176_192.out, NB192_176.out, bl⟩)
               skip
               rintro ⟨v178, v181⟩ w12 ⟨hS_, h0_, h1_, h2_, h3_, h4_, h5_⟩
               have n0_ : Aside0 (Kd.V k51 51 w12 w.heap.size (fun k_ => (P0_3_ k_ ∨ w.heap.size ≤ k_) ∧ some k_ ≠ (v178 : Value).ownBlock ∧ some k_ ≠ (v181 : Value).ownBlock ∧ k_ ≠ gb175 ∧ k_ ≠ gb176) (.slice A0_3 l0_3.length c0_3) l0_3) := ⟨h0_⟩
               have n1_ : Aside0 (Kd.R Kd.string 9 w12 w.heap.size (fun k_ => (w.heap.size ≤ k_) ∧ some k_ ≠ (v181 : Value).ownBlock) v178 t177) := ⟨h1_⟩
               have n2_ : Aside0 (Kd.R Kd.string 9 w12 w.heap.size (fun k_ => (w.heap.size ≤ k_) ∧ some k_ ≠ (v178 : Value).ownBlock) v181 t180) := ⟨h2_⟩
               have n3_ : Aside0 (w12.heap[gb175]? = some (.cells #[.slice A0_0 l0_0.length c0_0, .slice A0_1 l0_1.length c0_1, .slice A0_2 l0_2.length c0_2, .slice A0_3 l0_3.length c0_3, .slice A0_4 l0_4.length c0_4] 27 (0, 0))) := ⟨h3_⟩
               have n4_ : Aside0 (w12.heap[gb176]? = some (.cells #[.slice none 0 0, .slice none 0 0, .slice none 0 0, .slice none 0 0, .slice none 0 0] 27 (0, 0))) := ⟨h4_⟩
               have n5_ : Aside0 (Below w.heap.size w w12) := ⟨h5_⟩
               clear HO0_3
               clear BK175
               clear BK176
               clear HB
               clear h0_ h1_ h2_ h3_ h4_ h5_
               have HO0_3 := n0_
               have HO179 := n1_
               have HO182 := n2_
               have BK175 := n3_
               have BK176 := n4_
               have HB := n5_
               clear n0_ n1_ n2_ n3_ n4_ n5_
               have hHeld : w12.cell? ⟨gb175, 0, none⟩ = some (.slice A0_0 l0_0.length c0_0) ∧ w12.cell? ⟨gb175, 1, none⟩ = some (.slice A0_1 l0_1.length c0_1) ∧ w12.cell? ⟨gb175, 2, none⟩ = some (.slice A0_2 l0_2.length c0_2) ∧ w12.cell? ⟨gb175, 3, none⟩ = some (.slice A0_3 l0_3.length c0_3) ∧ w12.cell? ⟨gb175, 4, none⟩ = some (.slice A0_4 l0_4.length c0_4) := hS_
               refine norm_ (a' := ?_) ?_ ?_
               rotate_left
               · simp only [putAll, Act.put, List.setIfInBounds_toArray, List.set_cons_zero, List.set_cons_succ]
                 rfl
               refine two_ (i := 8) (j := 16) (Ni := some 13) (Nj := some 3) #[true, true, true, true, true, true, true, true, true, true, true, false, true, true, false, false, false, false] #[true, true, true, true, true, true, true, true, false, true, true, false, true, true, false, false, true, false] rfl rfl rfl rfl (two_of HT_.out (by kernel_rfl)) (by decide) (by decide) (fun K hK => ?_) (fun K hK => ?_)
               · skip
                 refine goes_ Tryd.func14 (by kernel_rfl) rfl #[.slice A0_2 l0_2.length c0_2] (by rfl) rfl rfl (by (try simp only [List.map_toArray, List.map_cons, List.map_nil]); first | done | rfl | (simp only [List.length_drop, List.length_take]; rfl)) ?_
                 with_reducible refine (api_Flop.calls _ _ l0_2 t183 _ ?side1 ?side2 A4.out).mono ?_
                 (case side1 => exact kc (Kd.C_below HR0_2.out HB.out))
                 (case side2 => exact HC0_2.out)
                 rintro e w13 ⟨v184, rfl, ho0, hb⟩
                 refine ⟨_, rfl, ?_⟩
                 have n0_ := Aside0.mk (Kd.V_elder' (by (with_reducible repeat (first | apply Kd.V_alloc | apply Kd.V_drewN | apply Kd.V_drew)); exact HO0_3.out) (Kd.R_base ho0) hb)
                 have n1_ := Aside0.mk (rb HO179.out hb)
                 have n2_ := Aside0.mk (rb HO182.out hb)
                 have n3_ := Aside0.mk (Kd.R_lower (Kd.R_newM (M := fun k_ => (w.heap.size ≤ k_)) ho0 (below_size bl) (fun k_ h_ => h_)) (below_size bl))
                 have n4_ := Aside0.mk (bb BK175.out hb)
                 have n5_ := Aside0.mk (bb BK176.out hb)
                 have n6_ := Aside0.mk (below_step bl hb)
                 clear HO0_3
                 clear HO179
                 clear HO182
                 clear BK175
                 clear BK176
                 clear HB
                 have HO0_3 := n0_
                 have HO179 := n1_
                 have HO182 := n2_
                 have HO185 := n3_
                 have BK175 := n4_
                 have BK176 := n5_
                 have HB := n6_
                 clear n0_ n1_ n2_ n3_ n4_ n5_ n6_
                 (try clear hb)
                 (try clear hb2)
                 (try clear hk)
                 (try clear hi)
                 (try clear ho0)
                 refine hK.out _ _ ⟨(blk_cell BK175.out 0).trans rfl, (blk_cell BK175.out 1).trans rfl, (blk_cell BK175.out 2).trans rfl, (blk_cell BK175.out 3).trans rfl, (blk_cell BK175.out 4).trans rfl⟩ (fun hHeld => ?_)
                 clear hK K
                 refine norm_ (a' := ?_) ?_ ?_
                 rotate_left
                 · show Act.put _ (some 13) _ = _
                   simp only [Act.put, List.setIfInBounds_toArray, List.set_cons_zero, List.set_cons_succ, i64_w, i32_w]
                   rfl
                 exact norm_ (by first | (simp only [putAll, Act.put, List.setIfInBounds_toArray, List.set_cons_zero, List.set_cons_succ]; done) | (simp only [putAll, Act.put, List.setIfInBounds_toArray, List.set_cons_zero, List.set_cons_succ]; rfl)) (hJ2_5_8 (v178, v181, v184) _ ⟨hHeld, (by (with_reducible repeat (first | apply Kd.V_alloc | apply Kd.V_drewN | apply Kd.V_drew)); exact Kd.V_mono HO0_3.out (fun _ hk => ⟨hk.1.1, ⟨hk.1.2.1, ⟨hk.1.2.2.1, ⟨hk.2, ⟨hk.1.2.2.2.1, hk.1.2.2.2.2⟩⟩⟩⟩⟩)), (by (with_reducible repeat (first | apply Kd.R_alloc | apply Kd.R_drewN | apply Kd.R_drew)); exact HO179.out), (by (with_reducible repeat (first | apply Kd.R_alloc | apply Kd.R_drewN | apply Kd.R_drew)); exact HO182.out), (by (with_reducible repeat (first | apply Kd.R_alloc | apply Kd.R_drewN | apply Kd.R_drew)); exact Kd.R_mono HO185.out (fun _ hk => hk.1)), (bk BK175.out), (bk BK176.out), bl⟩)
               skip
               refine box_step ?hg (N := 3) ?hd (cs := #[.slice none 0 0, .slice none 0 0, .slice none 0 0, .slice none 0 0, .slice none 0 0]) (t := 27) ?hr ?_; (case hd => rfl); (case hg => rfl); (case hr => first | (go_simp; done) | (go_simp; rfl))
               intro gb192 hg w13 hbox hb
               have n0_ := Aside0.mk (Kd.V_below (Kd.V_elderB (by (with_reducible repeat (first | apply Kd.V_alloc | apply Kd.V_drewN | apply Kd.V_drew)); exact HO0_3.out) gb192 (Nat.le_of_eq hg.symm)) hb)
               have n1_ := Aside0.mk (rb HO179.out hb)
               have n2_ := Aside0.mk (rb HO182.out hb)
               have n3_ := Aside0.mk (bb BK175.out hb)
               have n4_ := Aside0.mk (bb BK176.out hb)
               have n5_ := Aside0.mk (below_step bl hb)
               have n6_ := Aside0.mk (hbox)
               have n7_ := Aside0.mk (ge (w := w) hg)
               have n8_ := Aside0.mk (ge (w := w) hg)
               have n9_ := Aside0.mk (nl hg (bk BK175.out))
               have n10_ := Aside0.mk (ng hg (bk BK175.out))
               have n11_ := Aside0.mk (nl hg (bk BK176.out))
               have n12_ := Aside0.mk (ng hg (bk BK176.out))
               clear HO0_3
               clear HO179
               clear HO182
               clear BK175
               clear BK176
               clear HB
               have HO0_3 := n0_
               have HO179 := n1_
               have HO182 := n2_
               have BK175 := n3_
               have BK176 := n4_
               have HB := n5_
               have BK192 := n6_
               have GW192 := n7_
               have GE192 := n8_
               have NB175_192 := n9_
               have NB192_175 := n10_
               have NB176_192 := n11_
               have NB192_176 := n12_
               clear n0_ n1_ n2_ n3_ n4_ n5_ n6_ n7_ n8_ n9_ n10_ n11_ n12_
               clear hb hbox hg
               refine hK.out _ _ ⟨(blk_cell BK175.out 0).trans rfl, (blk_cell BK175.out 1).trans rfl, (blk_cell BK175.out 2).trans rfl, (blk_cell BK175.out 3).trans rfl, (blk_cell BK175.out 4).trans rfl⟩ (fun hHeld => ?_)
               clear hK K
               refine norm_ (a' := ?_) ?_ ?_
               rotate_left
               · show Act.put _ (some 3) _ = _
                 simp only [Act.put, List.setIfInBounds_toArray, List.set_cons_zero, List.set_cons_succ, i64_w, i32_w]
                 rfl
               exact norm_ (by first | (simp only [putAll, Act.put, List.setIfInBounds_toArray, List.set_cons_zero, List.set_cons_succ]; done) | (simp only [putAll, Act.put, List.setIfInBounds_toArray, List.set_cons_zero, List.set_cons_succ]; rfl)) (hJ2_5_16 (v178, v181, gb192) _ ⟨hHeld, (by (with_reducible repeat (first | apply Kd.V_alloc | apply Kd.V_drewN | apply Kd.V_drew)); exact Kd.V_mono HO0_3.out (fun _ hk => ⟨hk.1.1, ⟨hk.1.2.1, ⟨hk.1.2.2.1, ⟨hk.1.2.2.2.1, ⟨hk.1.2.2.2.2, hk.2⟩⟩⟩⟩⟩)), (by (with_reducible repeat (first | apply Kd.R_alloc | apply Kd.R_drewN | apply Kd.R_drew)); exact HO179.out), (by (with_reducible repeat (first | apply Kd.R_alloc | apply Kd.R_drewN | apply Kd.R_drew)); exact HO182.out), (bk BK175.out), (bk BK176.out), (bk BK192.out), GW192.out, GE192.out, NB175_192.out, NB192_175.out, NB176_192.out, NB192_176.out, bl⟩)
             skip
             rintro ⟨v178, v181, gb192⟩ w13 ⟨hS_, h0_, h1_, h2_, h3_, h4_, h5_, h6_, h7_, h8_, h9_, h10_, h11_, h12_⟩
             have n0_ : Aside0 (Kd.V k51 51 w13 w.heap.size (fun k_ => (P0_3_ k_ ∨ w.heap.size ≤ k_) ∧ some k_ ≠ (v178 : Value).ownBlock ∧ some k_ ≠ (v181 : Value).ownBlock ∧ k_ ≠ gb175 ∧ k_ ≠ gb176 ∧ k_ ≠ gb192) (.slice A0_3 l0_3.length c0_3) l0_3) := ⟨h0_⟩
             have n1_ : Aside0 (Kd.R Kd.string 9 w13 w.heap.size (fun k_ => (w.heap.size ≤ k_) ∧ some k_ ≠ (v181 : Value).ownBlock) v178 t177) := ⟨h1_⟩
             have n2_ : Aside0 (Kd.R Kd.string 9 w13 w.heap.size (fun k_ => (w.heap.size ≤ k_) ∧ some k_ ≠ (v178 : Value).ownBlock) v181 t180) := ⟨h2_⟩
             have n3_ : Aside0 (w13.heap[gb175]? = some (.cells #[.slice A0_0 l0_0.length c0_0, .slice A0_1 l0_1.length c0_1, .slice A0_2 l0_2.length c0_2, .slice A0_3 l0_3.length c0_3, .slice A0_4 l0_4.length c0_4] 27 (0, 0))) := ⟨h3_⟩
             have n4_ : Aside0 (w13.heap[gb176]? = some (.cells #[.slice none 0 0, .slice none 0 0, .slice none 0 0, .slice none 0 0, .slice none 0 0] 27 (0, 0))) := ⟨h4_⟩
             have n5_ : Aside0 (w13.heap[gb192]? = some (.cells #[.slice none 0 0, .slice none 0 0, .slice none 0 0, .slice none 0 0, .slice none 0 0] 27 (0, 0))) := ⟨h5_⟩
             have n6_ : Aside0 (w.heap.size ≤ gb192) := ⟨h6_⟩
             have n7_ : Aside0 (w.heap.size ≤ gb192) := ⟨h7_⟩
             have n8_ : Aside0 (gb175 ≠ gb192) := ⟨h8_⟩
             have n9_ : Aside0 (gb192 ≠ gb175) := ⟨h9_⟩
             have n10_ : Aside0 (gb176 ≠ gb192) := ⟨h10_⟩
             have n11_ : Aside0 (gb192 ≠ gb176) := ⟨h11_⟩
             have n12_ : Aside0 (Below w.heap.size w w13) := ⟨h12_⟩
             clear HO0_3
             clear BK175
             clear BK176
             clear HB
             clear h0_ h1_ h2_ h3_ h4_ h5_ h6_ h7_ h8_ h9_ h10_ h11_ h12_
             have HO0_3 := n0_
             have HO179 := n1_
             have HO182 := n2_
             have BK175 := n3_
             have BK176 := n4_
             have BK192 := n5_
             have GW192 := n6_
             have GE192 := n7_
             have NB175_192 := n8_
             have NB192_175 := n9_
             have NB176_192 := n10_
             have NB192_176 := n11_
             have HB := n12_
             clear n0_ n1_ n2_ n3_ n4_ n5_ n6_ n7_ n8_ n9_ n10_ n11_ n12_
             have hHeld : w13.cell? ⟨gb175, 0, none⟩ = some (.slice A0_0 l0_0.length c0_0) ∧ w13.cell? ⟨gb175, 1, none⟩ = some (.slice A0_1 l0_1.length c0_1) ∧ w13.cell? ⟨gb175, 2, none⟩ = some (.slice A0_2 l0_2.length c0_2) ∧ w13.cell? ⟨gb175, 3, none⟩ = some (.slice A0_3 l0_3.length c0_3) ∧ w13.cell? ⟨gb175, 4, none⟩ = some (.slice A0_4 l0_4.length c0_4) := hS_
             refine norm_ (a' := ?_) ?_ ?_
             rotate_left
             · simp only [putAll, Act.put, List.setIfInBounds_toArray, List.set_cons_zero, List.set_cons_succ]
               rfl
             refine one_ (i := 8) (N := some 13) #[true, true, true, true, true, true, true, true, true, true, true, false, true, true, false, false, true, false] rfl rfl (one_of HT_.out (by kernel_rfl)) (by decide) (fun K hK => ?_)
             refine goes_ Tryd.func14 (by kernel_rfl) rfl #[.slice A0_2 l0_2.length c0_2] (by rfl) rfl rfl (by (try simp only [List.map_toArray, List.map_cons, List.map_nil]); first | done | rfl | (simp only [List.length_drop, List.length_take]; rfl)) ?_
             with_reducible refine (api_Flop.calls _ _ l0_2 t183 _ ?side1 ?side2 A4.out).mono ?_
             (case side1 => exact kc (Kd.C_below HR0_2.out HB.out))
             (case side2 => exact HC0_2.out)
             rintro e w14 ⟨v184, rfl, ho0, hb⟩
             refine ⟨_, rfl, ?_⟩
             have n0_ := Aside0.mk (Kd.V_elder' (by (with_reducible repeat (first | apply Kd.V_alloc | apply Kd.V_drewN | apply Kd.V_drew)); exact HO0_3.out) (Kd.R_base ho0) hb)
             have n1_ := Aside0.mk (rb HO179.out hb)
             have n2_ := Aside0.mk (rb HO182.out hb)
             have n3_ := Aside0.mk (Kd.R_lower (Kd.R_newM (M := fun k_ => (w.heap.size ≤ k_)) ho0 (below_size bl) (fun k_ h_ => h_)) (below_size bl))
             have n4_ := Aside0.mk (bb BK175.out hb)
             have n5_ := Aside0.mk (bb BK176.out hb)
             have n6_ := Aside0.mk (bb BK192.out hb)
             have n7_ := Aside0.mk (below_step bl hb)
             clear HO0_3
             clear HO179
             clear HO182
             clear BK175
             clear BK176
             clear BK192
             clear HB
             have HO0_3 := n0_
             have HO179 := n1_
             have HO182 := n2_
             have HO185 := n3_
             have BK175 := n4_
             have BK176 := n5_
             have BK192 := n6_
             have HB := n7_
             clear n0_ n1_ n2_ n3_ n4_ n5_ n6_ n7_
             (try clear hb)
             (try clear hb2)
             (try clear hk)
             (try clear hi)
             (try clear ho0)
             refine hK.out _ _ ⟨(blk_cell BK175.out 0).trans rfl, (blk_cell BK175.out 1).trans rfl, (blk_cell BK175.out 2).trans rfl, (blk_cell BK175.out 3).trans rfl, (blk_cell BK175.out 4).trans rfl⟩ (fun hHeld => ?_)
             clear hK K
             refine norm_ (a' := ?_) ?_ ?_
             rotate_left
             · show Act.put _ (some 13) _ = _
               simp only [Act.put, List.setIfInBounds_toArray, List.set_cons_zero, List.set_cons_succ, i64_w, i32_w]
               rfl
             exact norm_ (by first | (simp only [putAll, Act.put, List.setIfInBounds_toArray, List.set_cons_zero, List.set_cons_succ]; done) | (simp only [putAll, Act.put, List.setIfInBounds_toArray, List.set_cons_zero, List.set_cons_succ]; rfl)) (hJ2_5_8_16 (v178, v181, v184, gb192) _ ⟨hHeld, (by (with_reducible repeat (first | apply Kd.V_alloc | apply Kd.V_drewN | apply Kd.V_drew)); exact Kd.V_mono HO0_3.out (fun _ hk => ⟨hk.1.1, ⟨hk.1.2.1, ⟨hk.1.2.2.1, ⟨hk.2, ⟨hk.1.2.2.2.1, ⟨hk.1.2.2.2.2.1, hk.1.2.2.2.2.2⟩⟩⟩⟩⟩⟩)), (by (with_reducible repeat (first | apply Kd.R_alloc | apply Kd.R_drewN | apply Kd.R_drew)); exact HO179.out), (by (with_reducible repeat (first | apply Kd.R_alloc | apply Kd.R_drewN | apply Kd.R_drew)); exact HO182.out), (by (with_reducible repeat (first | apply Kd.R_alloc | apply Kd.R_drewN | apply Kd.R_drew)); exact Kd.R_mono HO185.out (fun _ hk => hk.1)), (bk BK175.out), (bk BK176.out), (bk BK192.out), GW192.out, GE192.out, NB175_192.out, NB192_175.out, NB176_192.out, NB192_176.out, bl⟩)
           skip
           rintro ⟨v178, v181, v184⟩ w13 ⟨hS_, h0_, h1_, h2_, h3_, h4_, h5_, h6_⟩
           have n0_ : Aside0 (Kd.V k51 51 w13 w.heap.size (fun k_ => (P0_3_ k_ ∨ w.heap.size ≤ k_) ∧ some k_ ≠ (v178 : Value).ownBlock ∧ some k_ ≠ (v181 : Value).ownBlock ∧ some k_ ≠ (v184 : Value).ownBlock ∧ k_ ≠ gb175 ∧ k_ ≠ gb176) (.slice A0_3 l0_3.length c0_3) l0_3) := ⟨h0_⟩
           have n1_ : Aside0 (Kd.R Kd.string 9 w13 w.heap.size (fun k_ => (w.heap.size ≤ k_) ∧ some k_ ≠ (v181 : Value).ownBlock) v178 t177) := ⟨h1_⟩
           have n2_ : Aside0 (Kd.R Kd.string 9 w13 w.heap.size (fun k_ => (w.heap.size ≤ k_) ∧ some k_ ≠ (v178 : Value).ownBlock) v181 t180) := ⟨h2_⟩
           have n3_ : Aside0 (Kd.R k44 44 w13 w.heap.size (fun k_ => (w.heap.size ≤ k_)) v184 t183) := ⟨h3_⟩
           have n4_ : Aside0 (w13.heap[gb175]? = some (.cells #[.slice A0_0 l0_0.length c0_0, .slice A0_1 l0_1.length c0_1, .slice A0_2 l0_2.length c0_2, .slice A0_3 l0_3.length c0_3, .slice A0_4 l0_4.length c0_4] 27 (0, 0))) := ⟨h4_⟩
           have n5_ : Aside0 (w13.heap[gb176]? = some (.cells #[.slice none 0 0, .slice none 0 0, .slice none 0 0, .slice none 0 0, .slice none 0 0] 27 (0, 0))) := ⟨h5_⟩
           have n6_ : Aside0 (Below w.heap.size w w13) := ⟨h6_⟩
           clear HO0_3
           clear BK175
           clear BK176
           clear HB
           clear h0_ h1_ h2_ h3_ h4_ h5_ h6_
           have HO0_3 := n0_
           have HO179 := n1_
           have HO182 := n2_
           have HO185 := n3_
           have BK175 := n4_
           have BK176 := n5_
           have HB := n6_
           clear n0_ n1_ n2_ n3_ n4_ n5_ n6_
           have hHeld : w13.cell? ⟨gb175, 0, none⟩ = some (.slice A0_0 l0_0.length c0_0) ∧ w13.cell? ⟨gb175, 1, none⟩ = some (.slice A0_1 l0_1.length c0_1) ∧ w13.cell? ⟨gb175, 2, none⟩ = some (.slice A0_2 l0_2.length c0_2) ∧ w13.cell? ⟨gb175, 3, none⟩ = some (.slice A0_3 l0_3.length c0_3) ∧ w13.cell? ⟨gb175, 4, none⟩ = some (.slice A0_4 l0_4.length c0_4) := hS_
           refine norm_ (a' := ?_) ?_ ?_
           rotate_left
           · simp only [putAll, Act.put, List.setIfInBounds_toArray, List.set_cons_zero, List.set_cons_succ]
             rfl
           refine two_ (i := 11) (j := 16) (Ni := some 16) (Nj := some 3) #[true, true, true, true, true, true, true, true, true, true, true, true, true, true, false, false, false, false] #[true, true, true, true, true, true, true, true, true, true, true, false, true, true, false, false, true, false] rfl rfl rfl rfl (two_of HT_.out (by kernel_rfl)) (by decide) (by decide) (fun K hK => ?_) (fun K hK => ?_)
           · skip
             refine goes_ Tryd.func13 (by kernel_rfl) rfl #[.slice A0_3 l0_3.length c0_3] (by rfl) rfl rfl (by (try simp only [List.map_toArray, List.map_cons, List.map_nil]); first | done | rfl | (simp only [List.length_drop, List.length_take]; rfl)) ?_
             with_reducible refine (api_Gate.calls (fun k_ => ((P0_3_ k_ ∨ w.heap.size ≤ k_) ∧ (some k_ ≠ (v178 : Value).ownBlock ∧ (some k_ ≠ (v181 : Value).ownBlock ∧ (some k_ ≠ (v184 : Value).ownBlock ∧ (k_ ≠ gb175 ∧ k_ ≠ gb176)))))) _ _ l0_3 t186 _ ?side1 A5.out).mono ?_
             (case side1 => exact HO0_3.out)
             rintro e w14 ⟨v187, rfl, ho0, hb⟩
             refine ⟨_, rfl, ?_⟩
             have n0_ := Aside0.mk (Kd.V_elder' (by (with_reducible repeat (first | apply Kd.V_alloc | apply Kd.V_drewN | apply Kd.V_drew)); exact HO0_3.out) (Kd.N_base ho0) hb)
             have n1_ := Aside0.mk (rb HO179.out hb)
             have n2_ := Aside0.mk (rb HO182.out hb)
             have n3_ := Aside0.mk (rb HO185.out hb)
             have n4_ := Aside0.mk (Kd.N_lower (Kd.N_mono (ok' := fun k_ => (P0_3_ k_ ∨ w.heap.size ≤ k_) ∧ some k_ ≠ (v178 : Value).ownBlock ∧ some k_ ≠ (v181 : Value).ownBlock ∧ some k_ ≠ (v184 : Value).ownBlock ∧ k_ ≠ gb175 ∧ k_ ≠ gb176) ho0 (fun k_ hk_ => ⟨Or.elim hk_ (fun hs_ => hs_.1) (fun hn_ => (.inr (Nat.le_trans (below_size bl) hn_))), Or.elim hk_ (fun hs_ => hs_.2.1) (fun hn_ => (Kd.fresh' (Kd.R_lt (by (with_reducible repeat (first | apply Kd.R_alloc | apply Kd.R_drewN | apply Kd.R_drew)); exact HO179.out)) k_ hn_)), Or.elim hk_ (fun hs_ => hs_.2.2.1) (fun hn_ => (Kd.fresh' (Kd.R_lt (by (with_reducible repeat (first | apply Kd.R_alloc | apply Kd.R_drewN | apply Kd.R_drew)); exact HO182.out)) k_ hn_)), Or.elim hk_ (fun hs_ => hs_.2.2.2.1) (fun hn_ => (Kd.fresh' (Kd.R_lt (by (with_reducible repeat (first | apply Kd.R_alloc | apply Kd.R_drewN | apply Kd.R_drew)); exact HO185.out)) k_ hn_)), Or.elim hk_ (fun hs_ => hs_.2.2.2.2.1) (fun hn_ => (Kd.freshB (g := gb175) (o := .cells #[.slice A0_0 l0_0.length c0_0, .slice A0_1 l0_1.length c0_1, .slice A0_2 l0_2.length c0_2, .slice A0_3 l0_3.length c0_3, .slice A0_4 l0_4.length c0_4] 27 (0, 0)) (bk BK175.out) k_ hn_)), Or.elim hk_ (fun hs_ => hs_.2.2.2.2.2) (fun hn_ => (Kd.freshB (g := gb176) (o := .cells #[.slice none 0 0, .slice none 0 0, .slice none 0 0, .slice none 0 0, .slice none 0 0] 27 (0, 0)) (bk BK176.out) k_ hn_))⟩)) (below_size bl))
             have n5_ := Aside0.mk (bb BK175.out hb)
             have n6_ := Aside0.mk (bb BK176.out hb)
             have n7_ := Aside0.mk (below_step bl hb)
             clear HO0_3
             clear HO179
             clear HO182
             clear HO185
             clear BK175
             clear BK176
             clear HB
             have HO0_3 := n0_
             have HO179 := n1_
             have HO182 := n2_
             have HO185 := n3_
             have HO188 := n4_
             have BK175 := n5_
             have BK176 := n6_
             have HB := n7_
             clear n0_ n1_ n2_ n3_ n4_ n5_ n6_ n7_
             (try clear hb)
             (try clear hb2)
             (try clear hk)
             (try clear hi)
             (try clear ho0)
             refine hK.out _ _ ⟨(blk_cell BK175.out 0).trans rfl, (blk_cell BK175.out 1).trans rfl, (blk_cell BK175.out 2).trans rfl, (blk_cell BK175.out 3).trans rfl, (blk_cell BK175.out 4).trans rfl⟩ (fun hHeld => ?_)
             clear hK K
             refine norm_ (a' := ?_) ?_ ?_
             rotate_left
             · show Act.put _ (some 16) _ = _
               simp only [Act.put, List.setIfInBounds_toArray, List.set_cons_zero, List.set_cons_succ, i64_w, i32_w]
               rfl
             exact norm_ (by first | (simp only [putAll, Act.put, List.setIfInBounds_toArray, List.set_cons_zero, List.set_cons_succ]; done) | (simp only [putAll, Act.put, List.setIfInBounds_toArray, List.set_cons_zero, List.set_cons_succ]; rfl)) (hJ2_5_8_11 (v178, v181, v184, v187) _ ⟨hHeld, (by (with_reducible repeat (first | apply Kd.V_alloc | apply Kd.V_drewN | apply Kd.V_drew)); exact Kd.V_mono HO0_3.out (fun _ hk => ⟨hk.1.1, ⟨hk.1.2.1, ⟨hk.1.2.2.1, ⟨hk.1.2.2.2.1, ⟨hk.2, ⟨hk.1.2.2.2.2.1, hk.1.2.2.2.2.2⟩⟩⟩⟩⟩⟩)), (by (with_reducible repeat (first | apply Kd.R_alloc | apply Kd.R_drewN | apply Kd.R_drew)); exact HO179.out), (by (with_reducible repeat (first | apply Kd.R_alloc | apply Kd.R_drewN | apply Kd.R_drew)); exact HO182.out), (by (with_reducible repeat (first | apply Kd.R_alloc | apply Kd.R_drewN | apply Kd.R_drew)); exact HO185.out), (by (with_reducible repeat (first | apply Kd.N_alloc | apply Kd.N_drewN | apply Kd.N_drew)); exact HO188.out), (bk BK175.out), (bk BK176.out), bl⟩)
           skip
           refine box_step ?hg (N := 3) ?hd (cs := #[.slice none 0 0, .slice none 0 0, .slice none 0 0, .slice none 0 0, .slice none 0 0]) (t := 27) ?hr ?_; (case hd => rfl); (case hg => rfl); (case hr => first | (go_simp; done) | (go_simp; rfl))
           intro gb192 hg w14 hbox hb
           have n0_ := Aside0.mk (Kd.V_below (Kd.V_elderB (by (with_reducible repeat (first | apply Kd.V_alloc | apply Kd.V_drewN | apply Kd.V_drew)); exact HO0_3.out) gb192 (Nat.le_of_eq hg.symm)) hb)
           have n1_ := Aside0.mk (rb HO179.out hb)
           have n2_ := Aside0.mk (rb HO182.out hb)
           have n3_ := Aside0.mk (rb HO185.out hb)
           have n4_ := Aside0.mk (bb BK175.out hb)
           have n5_ := Aside0.mk (bb BK176.out hb)
           have n6_ := Aside0.mk (below_step bl hb)
           have n7_ := Aside0.mk (hbox)
           have n8_ := Aside0.mk (ge (w := w) hg)
           have n9_ := Aside0.mk (ge (w := w) hg)
           have n10_ := Aside0.mk (nl hg (bk BK175.out))
           have n11_ := Aside0.mk (ng hg (bk BK175.out))
           have n12_ := Aside0.mk (nl hg (bk BK176.out))
           have n13_ := Aside0.mk (ng hg (bk BK176.out))
           clear HO0_3
           clear HO179
           clear HO182
           clear HO185
           clear BK175
           clear BK176
           clear HB
           have HO0_3 := n0_
           have HO179 := n1_
           have HO182 := n2_
           have HO185 := n3_
           have BK175 := n4_
           have BK176 := n5_
           have HB := n6_
           have BK192 := n7_
           have GW192 := n8_
           have GE192 := n9_
           have NB175_192 := n10_
           have NB192_175 := n11_
           have NB176_192 := n12_
           have NB192_176 := n13_
           clear n0_ n1_ n2_ n3_ n4_ n5_ n6_ n7_ n8_ n9_ n10_ n11_ n12_ n13_
           clear hb hbox hg
           refine hK.out _ _ ⟨(blk_cell BK175.out 0).trans rfl, (blk_cell BK175.out 1).trans rfl, (blk_cell BK175.out 2).trans rfl, (blk_cell BK175.out 3).trans rfl, (blk_cell BK175.out 4).trans rfl⟩ (fun hHeld => ?_)
           clear hK K
           refine norm_ (a' := ?_) ?_ ?_
           rotate_left
           · show Act.put _ (some 3) _ = _
             simp only [Act.put, List.setIfInBounds_toArray, List.set_cons_zero, List.set_cons_succ, i64_w, i32_w]
             rfl
           exact norm_ (by first | (simp only [putAll, Act.put, List.setIfInBounds_toArray, List.set_cons_zero, List.set_cons_succ]; done) | (simp only [putAll, Act.put, List.setIfInBounds_toArray, List.set_cons_zero, List.set_cons_succ]; rfl)) (hJ2_5_8_16 (v178, v181, v184, gb192) _ ⟨hHeld, (by (with_reducible repeat (first | apply Kd.V_alloc | apply Kd.V_drewN | apply Kd.V_drew)); exact Kd.V_mono HO0_3.out (fun _ hk => ⟨hk.1.1, ⟨hk.1.2.1, ⟨hk.1.2.2.1, ⟨hk.1.2.2.2.1, ⟨hk.1.2.2.2.2.1, ⟨hk.1.2.2.2.2.2, hk.2⟩⟩⟩⟩⟩⟩)), (by (with_reducible repeat (first | apply Kd.R_alloc | apply Kd.R_drewN | apply Kd.R_drew)); exact HO179.out), (by (with_reducible repeat (first | apply Kd.R_alloc | apply Kd.R_drewN | apply Kd.R_drew)); exact HO182.out), (by (with_reducible repeat (first | apply Kd.R_alloc | apply Kd.R_drewN | apply Kd.R_drew)); exact HO185.out), (bk BK175.out), (bk BK176.out), (bk BK192.out), GW192.out, GE192.out, NB175_192.out, NB192_175.out, NB176_192.out, NB192_176.out, bl⟩)
         skip
         rintro ⟨v178, v181, v184, gb192⟩ w14 ⟨hS_, h0_, h1_, h2_, h3_, h4_, h5_, h6_, h7_, h8_, h9_, h10_, h11_, h12_, h13_⟩
         have n0_ : Aside0 (Kd.V k51 51 w14 w.heap.size (fun k_ => (P0_3_ k_ ∨ w.heap.size ≤ k_) ∧ some k_ ≠ (v178 : Value).ownBlock ∧ some k_ ≠ (v181 : Value).ownBlock ∧ some k_ ≠ (v184 : Value).ownBlock ∧ k_ ≠ gb175 ∧ k_ ≠ gb176 ∧ k_ ≠ gb192) (.slice A0_3 l0_3.length c0_3) l0_3) := ⟨h0_⟩
         have n1_ : Aside0 (Kd.R Kd.string 9 w14 w.heap.size (fun k_ => (w.heap.size ≤ k_) ∧ some k_ ≠ (v181 : Value).ownBlock) v178 t177) := ⟨h1_⟩
         have n2_ : Aside0 (Kd.R Kd.string 9 w14 w.heap.size (fun k_ => (w.heap.size ≤ k_) ∧ some k_ ≠ (v178 : Value).ownBlock) v181 t180) := ⟨h2_⟩
         have n3_ : Aside0 (Kd.R k44 44 w14 w.heap.size (fun k_ => (w.heap.size ≤ k_)) v184 t183) := ⟨h3_⟩
         have n4_ : Aside0 (w14.heap[gb175]? = some (.cells #[.slice A0_0 l0_0.length c0_0, .slice A0_1 l0_1.length c0_1, .slice A0_2 l0_2.length c0_2, .slice A0_3 l0_3.length c0_3, .slice A0_4 l0_4.length c0_4] 27 (0, 0))) := ⟨h4_⟩
         have n5_ : Aside0 (w14.heap[gb176]? = some (.cells #[.slice none 0 0, .slice none 0 0, .slice none 0 0, .slice none 0 0, .slice none 0 0] 27 (0, 0))) := ⟨h5_⟩
         have n6_ : Aside0 (w14.heap[gb192]? = some (.cells #[.slice none 0 0, .slice none 0 0, .slice none 0 0, .slice none 0 0, .slice none 0 0] 27 (0, 0))) := ⟨h6_⟩
         have n7_ : Aside0 (w.heap.size ≤ gb192) := ⟨h7_⟩
         have n8_ : Aside0 (w.heap.size ≤ gb192) := ⟨h8_⟩
         have n9_ : Aside0 (gb175 ≠ gb192) := ⟨h9_⟩
         have n10_ : Aside0 (gb192 ≠ gb175) := ⟨h10_⟩
         have n11_ : Aside0 (gb176 ≠ gb192) := ⟨h11_⟩
         have n12_ : Aside0 (gb192 ≠ gb176) := ⟨h12_⟩
         have n13_ : Aside0 (Below w.heap.size w w14) := ⟨h13_⟩
         clear HO0_3
         clear BK175
         clear BK176
         clear HB
         clear h0_ h1_ h2_ h3_ h4_ h5_ h6_ h7_ h8_ h9_ h10_ h11_ h12_ h13_
         have HO0_3 := n0_
         have HO179 := n1_
         have HO182 := n2_
         have HO185 := n3_
         have BK175 := n4_
         have BK176 := n5_
         have BK192 := n6_
         have GW192 := n7_
         have GE192 := n8_
         have NB175_192 := n9_
         have NB192_175 := n10_
         have NB176_192 := n11_
         have NB192_176 := n12_
         have HB := n13_
         clear n0_ n1_ n2_ n3_ n4_ n5_ n6_ n7_ n8_ n9_ n10_ n11_ n12_ n13_
         have hHeld : w14.cell? ⟨gb175, 0, none⟩ = some (.slice A0_0 l0_0.length c0_0) ∧ w14.cell? ⟨gb175, 1, none⟩ = some (.slice A0_1 l0_1.length c0_1) ∧ w14.cell? ⟨gb175, 2, none⟩ = some (.slice A0_2 l0_2.length c0_2) ∧ w14.cell? ⟨gb175, 3, none⟩ = some (.slice A0_3 l0_3.length c0_3) ∧ w14.cell? ⟨gb175, 4, none⟩ = some (.slice A0_4 l0_4.length c0_4) := hS_
         refine norm_ (a' := ?_) ?_ ?_
         rotate_left
         · simp only [putAll, Act.put, List.setIfInBounds_toArray, List.set_cons_zero, List.set_cons_succ]
           rfl
         refine one_ (i := 11) (N := some 16) #[true, true, true, true, true, true, true, true, true, true, true, true, true, true, false, false, true, false] rfl rfl (one_of HT_.out (by kernel_rfl)) (by decide) (fun K hK => ?_)
         refine goes_ Tryd.func13 (by kernel_rfl) rfl #[.slice A0_3 l0_3.length c0_3] (by rfl) rfl rfl (by (try simp only [List.map_toArray, List.map_cons, List.map_nil]); first | done | rfl | (simp only [List.length_drop, List.length_take]; rfl)) ?_
         with_reducible refine (api_Gate.calls (fun k_ => ((P0_3_ k_ ∨ w.heap.size ≤ k_) ∧ (some k_ ≠ (v178 : Value).ownBlock ∧ (some k_ ≠ (v181 : Value).ownBlock ∧ (some k_ ≠ (v184 : Value).ownBlock ∧ (k_ ≠ gb175 ∧ (k_ ≠ gb176 ∧ k_ ≠ gb192))))))) _ _ l0_3 t186 _ ?side1 A5.out).mono ?_
         (case side1 => exact HO0_3.out)
         rintro e w15 ⟨v187, rfl, ho0, hb⟩
         refine ⟨_, rfl, ?_⟩
         have n0_ := Aside0.mk (Kd.V_elder' (by (with_reducible repeat (first | apply Kd.V_alloc | apply Kd.V_drewN | apply Kd.V_drew)); exact HO0_3.out) (Kd.N_base ho0) hb)
         have n1_ := Aside0.mk (rb HO179.out hb)
         have n2_ := Aside0.mk (rb HO182.out hb)
         have n3_ := Aside0.mk (rb HO185.out hb)
         have n4_ := Aside0.mk (Kd.N_lower (Kd.N_mono (ok' := fun k_ => (P0_3_ k_ ∨ w.heap.size ≤ k_) ∧ some k_ ≠ (v178 : Value).ownBlock ∧ some k_ ≠ (v181 : Value).ownBlock ∧ some k_ ≠ (v184 : Value).ownBlock ∧ k_ ≠ gb175 ∧ k_ ≠ gb176 ∧ k_ ≠ gb192) ho0 (fun k_ hk_ => ⟨Or.elim hk_ (fun hs_ => hs_.1) (fun hn_ => (.inr (Nat.le_trans (below_size bl) hn_))), Or.elim hk_ (fun hs_ => hs_.2.1) (fun hn_ => (Kd.fresh' (Kd.R_lt (by (with_reducible repeat (first | apply Kd.R_alloc | apply Kd.R_drewN | apply Kd.R_drew)); exact HO179.out)) k_ hn_)), Or.elim hk_ (fun hs_ => hs_.2.2.1) (fun hn_ => (Kd.fresh' (Kd.R_lt (by (with_reducible repeat (first | apply Kd.R_alloc | apply Kd.R_drewN | apply Kd.R_drew)); exact HO182.out)) k_ hn_)), Or.elim hk_ (fun hs_ => hs_.2.2.2.1) (fun hn_ => (Kd.fresh' (Kd.R_lt (by (with_reducible repeat (first | apply Kd.R_alloc | apply Kd.R_drewN | apply Kd.R_drew)); exact HO185.out)) k_ hn_)), Or.elim hk_ (fun hs_ => hs_.2.2.2.2.1) (fun hn_ => (Kd.freshB (g := gb175) (o := .cells #[.slice A0_0 l0_0.length c0_0, .slice A0_1 l0_1.length c0_1, .slice A0_2 l0_2.length c0_2, .slice A0_3 l0_3.length c0_3, .slice A0_4 l0_4.length c0_4] 27 (0, 0)) (bk BK175.out) k_ hn_)), Or.elim hk_ (fun hs_ => hs_.2.2.2.2.2.1) (fun hn_ => (Kd.freshB (g := gb176) (o := .cells #[.slice none 0 0, .slice none 0 0, .slice none 0 0, .slice none 0 0, .slice none 0 0] 27 (0, 0)) (bk BK176.out) k_ hn_)), Or.elim hk_ (fun hs_ => hs_.2.2.2.2.2.2) (fun hn_ => (Kd.freshB (g := gb192) (o := .cells #[.slice none 0 0, .slice none 0 0, .slice none 0 0, .slice none 0 0, .slice none 0 0] 27 (0, 0)) (bk BK192.out) k_ hn_))⟩)) (below_size bl))
         have n5_ := Aside0.mk (bb BK175.out hb)
         have n6_ := Aside0.mk (bb BK176.out hb)
         have n7_ := Aside0.mk (bb BK192.out hb)
         have n8_ := Aside0.mk (below_step bl hb)
         clear HO0_3
         clear HO179
         clear HO182
         clear HO185
         clear BK175
         clear BK176
         clear BK192
         clear HB
         have HO0_3 := n0_
         have HO179 := n1_
         have HO182 := n2_
         have HO185 := n3_
         have HO188 := n4_
         have BK175 := n5_
         have BK176 := n6_
         have BK192 := n7_
         have HB := n8_
         clear n0_ n1_ n2_ n3_ n4_ n5_ n6_ n7_ n8_
         (try clear hb)
         (try clear hb2)
         (try clear hk)
         (try clear hi)
         (try clear ho0)
         refine hK.out _ _ ⟨(blk_cell BK175.out 0).trans rfl, (blk_cell BK175.out 1).trans rfl, (blk_cell BK175.out 2).trans rfl, (blk_cell BK175.out 3).trans rfl, (blk_cell BK175.out 4).trans rfl⟩ (fun hHeld => ?_)
         clear hK K
         refine norm_ (a' := ?_) ?_ ?_
         rotate_left
         · show Act.put _ (some 16) _ = _
           simp only [Act.put, List.setIfInBounds_toArray, List.set_cons_zero, List.set_cons_succ, i64_w, i32_w]
           rfl
         exact norm_ (by first | (simp only [putAll, Act.put, List.setIfInBounds_toArray, List.set_cons_zero, List.set_cons_succ]; done) | (simp only [putAll, Act.put, List.setIfInBounds_toArray, List.set_cons_zero, List.set_cons_succ]; rfl)) (hJ2_5_8_11_16 (v178, v181, v184, v187, gb192) _ ⟨hHeld, (by (with_reducible repeat (first | apply Kd.V_alloc | apply Kd.V_drewN | apply Kd.V_drew)); exact Kd.V_mono HO0_3.out (fun _ hk => ⟨hk.1.1, ⟨hk.1.2.1, ⟨hk.1.2.2.1, ⟨hk.1.2.2.2.1, ⟨hk.2, ⟨hk.1.2.2.2.2.1, ⟨hk.1.2.2.2.2.2.1, hk.1.2.2.2.2.2.2⟩⟩⟩⟩⟩⟩⟩)), (by (with_reducible repeat (first | apply Kd.R_alloc | apply Kd.R_drewN | apply Kd.R_drew)); exact HO179.out), (by (with_reducible repeat (first | apply Kd.R_alloc | apply Kd.R_drewN | apply Kd.R_drew)); exact HO182.out), (by (with_reducible repeat (first | apply Kd.R_alloc | apply Kd.R_drewN | apply Kd.R_drew)); exact HO185.out), (by (with_reducible repeat (first | apply Kd.N_alloc | apply Kd.N_drewN | apply Kd.N_drew)); exact HO188.out), (bk BK175.out), (bk BK176.out), (bk BK192.out), GW192.out, GE192.out, NB175_192.out, NB192_175.out, NB176_192.out, NB192_176.out, bl⟩)
       skip
       rintro ⟨v178, v181, v184, v187⟩ w14 ⟨hS_, h0_, h1_, h2_, h3_, h4_, h5_, h6_, h7_⟩
       have n0_ : Aside0 (Kd.V k51 51 w14 w.heap.size (fun k_ => (P0_3_ k_ ∨ w.heap.size ≤ k_) ∧ some k_ ≠ (v178 : Value).ownBlock ∧ some k_ ≠ (v181 : Value).ownBlock ∧ some k_ ≠ (v184 : Value).ownBlock ∧ some k_ ≠ (v187 : Value).ownBlock ∧ k_ ≠ gb175 ∧ k_ ≠ gb176) (.slice A0_3 l0_3.length c0_3) l0_3) := ⟨h0_⟩
       have n1_ : Aside0 (Kd.R Kd.string 9 w14 w.heap.size (fun k_ => (w.heap.size ≤ k_) ∧ some k_ ≠ (v181 : Value).ownBlock) v178 t177) := ⟨h1_⟩
       have n2_ : Aside0 (Kd.R Kd.string 9 w14 w.heap.size (fun k_ => (w.heap.size ≤ k_) ∧ some k_ ≠ (v178 : Value).ownBlock) v181 t180) := ⟨h2_⟩
       have n3_ : Aside0 (Kd.R k44 44 w14 w.heap.size (fun k_ => (w.heap.size ≤ k_)) v184 t183) := ⟨h3_⟩
       have n4_ : Aside0 (Kd.N k51 51 w14 w.heap.size (fun k_ => (P0_3_ k_ ∨ w.heap.size ≤ k_) ∧ some k_ ≠ (v178 : Value).ownBlock ∧ some k_ ≠ (v181 : Value).ownBlock ∧ some k_ ≠ (v184 : Value).ownBlock ∧ k_ ≠ gb175 ∧ k_ ≠ gb176) v187 t186) := ⟨h4_⟩
       have n5_ : Aside0 (w14.heap[gb175]? = some (.cells #[.slice A0_0 l0_0.length c0_0, .slice A0_1 l0_1.length c0_1, .slice A0_2 l0_2.length c0_2, .slice A0_3 l0_3.length c0_3, .slice A0_4 l0_4.length c0_4] 27 (0, 0))) := ⟨h5_⟩
       have n6_ : Aside0 (w14.heap[gb176]? = some (.cells #[.slice none 0 0, .slice none 0 0, .slice none 0 0, .slice none 0 0, .slice none 0 0] 27 (0, 0))) := ⟨h6_⟩
       have n7_ : Aside0 (Below w.heap.size w w14) := ⟨h7_⟩
       clear HO0_3
       clear BK175
       clear BK176
       clear HB
       clear h0_ h1_ h2_ h3_ h4_ h5_ h6_ h7_
       have HO0_3 := n0_
       have HO179 := n1_
       have HO182 := n2_
       have HO185 := n3_
       have HO188 := n4_
       have BK175 := n5_
       have BK176 := n6_
       have HB := n7_
       clear n0_ n1_ n2_ n3_ n4_ n5_ n6_ n7_
       have hHeld : w14.cell? ⟨gb175, 0, none⟩ = some (.slice A0_0 l0_0.length c0_0) ∧ w14.cell? ⟨gb175, 1, none⟩ = some (.slice A0_1 l0_1.length c0_1) ∧ w14.cell? ⟨gb175, 2, none⟩ = some (.slice A0_2 l0_2.length c0_2) ∧ w14.cell? ⟨gb175, 3, none⟩ = some (.slice A0_3 l0_3.length c0_3) ∧ w14.cell? ⟨gb175, 4, none⟩ = some (.slice A0_4 l0_4.length c0_4) := hS_
       refine norm_ (a' := ?_) ?_ ?_
       rotate_left
       · simp only [putAll, Act.put, List.setIfInBounds_toArray, List.set_cons_zero, List.set_cons_succ]
         rfl
       refine two_ (i := 14) (j := 16) (Ni := some 19) (Nj := some 3) #[true, true, true, true, true, true, true, true, true, true, true, true, true, true, true, false, false, false] #[true, true, true, true, true, true, true, true, true, true, true, true, true, true, false, false, true, false] rfl rfl rfl rfl (two_of HT_.out (by kernel_rfl)) (by decide) (by decide) (fun K hK => ?_) (fun K hK => ?_)
       · skip
         refine goes_ Tryd.func31 (by kernel_rfl) rfl #[.slice A0_4 l0_4.length c0_4] (by rfl) rfl rfl (by (try simp only [List.map_toArray, List.map_cons, List.map_nil]); first | done | rfl | (simp only [List.length_drop, List.length_take]; rfl)) ?_
         with_reducible refine (slices_Clone_int_int.calls _ _ l0_4 t189 _ ?side1 ?side2 A6.out).mono ?_
         (case side1 => exact kc (Kd.C_below HR0_4.out HB.out))
         (case side2 => exact HC0_4.out)
         rintro e w15 ⟨v190, rfl, ho0, hb⟩
         refine ⟨_, rfl, ?_⟩
         have n0_ := Aside0.mk (Kd.V_elder' (by (with_reducible repeat (first | apply Kd.V_alloc | apply Kd.V_drewN | apply Kd.V_drew)); exact HO0_3.out) (Kd.R_base ho0) hb)
         have n1_ := Aside0.mk (rb HO179.out hb)
         have n2_ := Aside0.mk (rb HO182.out hb)
         have n3_ := Aside0.mk (rb HO185.out hb)
         have n4_ := Aside0.mk (Kd.N_elder' (by (with_reducible repeat (first | apply Kd.N_alloc | apply Kd.N_drewN | apply Kd.N_drew)); exact HO188.out) (Kd.R_base ho0) hb)
         have n5_ := Aside0.mk (Kd.R_lower (Kd.R_newM (M := fun k_ => (w.heap.size ≤ k_)) ho0 (below_size bl) (fun k_ h_ => h_)) (below_size bl))
         have n6_ := Aside0.mk (bb BK175.out hb)
         have n7_ := Aside0.mk (bb BK176.out hb)
         have n8_ := Aside0.mk (below_step bl hb)
         clear HO0_3
         clear HO179
         clear HO182
         clear HO185
         clear HO188
         clear BK175
         clear BK176
         clear HB
         have HO0_3 := n0_
         have HO179 := n1_
         have HO182 := n2_
         have HO185 := n3_
         have HO188 := n4_
         have HO191 := n5_
         have BK175 := n6_
         have BK176 := n7_
         have HB := n8_
         clear n0_ n1_ n2_ n3_ n4_ n5_ n6_ n7_ n8_
         (try clear hb)
         (try clear hb2)
         (try clear hk)
         (try clear hi)
         (try clear ho0)
         obtain ⟨Ao16, co16, eo16⟩ := Kd.R_slice HO191.out
         (first | subst eo16 | (injection eo16 with f1_ f2_ f3_; have f4_ := f1_.symm; have f5_ := f3_.symm; clear f1_ f2_ f3_; subst f4_; subst f5_))
         obtain ⟨Ao17, co17, eo17⟩ := Kd.N_slice HO188.out
         (first | subst eo17 | (injection eo17 with f1_ f2_ f3_; have f4_ := f1_.symm; have f5_ := f3_.symm; clear f1_ f2_ f3_; subst f4_; subst f5_))
         obtain ⟨Ao18, co18, eo18⟩ := Kd.R_slice HO185.out
         (first | subst eo18 | (injection eo18 with f1_ f2_ f3_; have f4_ := f1_.symm; have f5_ := f3_.symm; clear f1_ f2_ f3_; subst f4_; subst f5_))
         obtain ⟨Ao19, co19, eo19⟩ := Kd.R_slice HO182.out
         (first | subst eo19 | (injection eo19 with f1_ f2_ f3_; have f4_ := f1_.symm; have f5_ := f3_.symm; clear f1_ f2_ f3_; subst f4_; subst f5_))
         obtain ⟨Ao20, co20, eo20⟩ := Kd.R_slice HO179.out
         (first | subst eo20 | (injection eo20 with f1_ f2_ f3_; have f4_ := f1_.symm; have f5_ := f3_.symm; clear f1_ f2_ f3_; subst f4_; subst f5_))
         refine hK.out _ _ ⟨(blk_cell BK175.out 0).trans rfl, (blk_cell BK175.out 1).trans rfl, (blk_cell BK175.out 2).trans rfl, (blk_cell BK175.out 3).trans rfl, (blk_cell BK175.out 4).trans rfl⟩ (fun hHeld => ?_)
         clear hK K
         refine norm_ (a' := ?_) ?_ ?_
         rotate_left
         · show Act.put _ (some 19) _ = _
           simp only [Act.put, List.setIfInBounds_toArray, List.set_cons_zero, List.set_cons_succ, i64_w, i32_w]
           rfl
         refine pure_ (i := 15) (N := some 20) (v := ?_) (a' := ?_) #[true, true, true, true, true, true, true, true, true, true, true, true, true, true, true, true, false, false] rfl rfl (any_of HT_.out (by kernel_rfl)) (fun _ _ _ h => h) (Or.inl ⟨by rfl, ?_⟩) ?_ ?_
         rotate_left
         · intro w'
           go_simp
           with_reducible rfl
         rotate_left
         · simp only [Act.put, List.setIfInBounds_toArray, List.set_cons_zero, List.set_cons_succ, i64_w, i32_w]
           rfl
         exact norm_ (by first | (simp only [putAll, Act.put, List.setIfInBounds_toArray, List.set_cons_zero, List.set_cons_succ]; done) | (simp only [putAll, Act.put, List.setIfInBounds_toArray, List.set_cons_zero, List.set_cons_succ]; rfl)) (hJ2_5_8_11_14 (.slice Ao20 t177.length co20, .slice Ao19 t180.length co19, .slice Ao18 t183.length co18, .slice Ao17 t186.length co17, .slice Ao16 t189.length co16) _ ⟨hHeld, (by (with_reducible repeat (first | apply Kd.V_alloc | apply Kd.V_drewN | apply Kd.V_drew)); exact Kd.V_mono HO0_3.out (fun _ hk => ⟨hk.1.1, ⟨hk.1.2.1, ⟨hk.1.2.2.1, ⟨hk.1.2.2.2.1, ⟨hk.1.2.2.2.2.1, ⟨hk.2, ⟨hk.1.2.2.2.2.2.1, hk.1.2.2.2.2.2.2⟩⟩⟩⟩⟩⟩⟩)), (by (with_reducible repeat (first | apply Kd.R_alloc | apply Kd.R_drewN | apply Kd.R_drew)); exact HO179.out), (by (with_reducible repeat (first | apply Kd.R_alloc | apply Kd.R_drewN | apply Kd.R_drew)); exact HO182.out), (by (with_reducible repeat (first | apply Kd.R_alloc | apply Kd.R_drewN | apply Kd.R_drew)); exact HO185.out), (by (with_reducible repeat (first | apply Kd.N_alloc | apply Kd.N_drewN | apply Kd.N_drew)); exact Kd.N_mono HO188.out (fun _ hk => ⟨hk.1.1, ⟨hk.1.2.1, ⟨hk.1.2.2.1, ⟨hk.1.2.2.2.1, ⟨hk.2, ⟨hk.1.2.2.2.2.1, hk.1.2.2.2.2.2⟩⟩⟩⟩⟩⟩)), (by (with_reducible repeat (first | apply Kd.R_alloc | apply Kd.R_drewN | apply Kd.R_drew)); exact Kd.R_mono HO191.out (fun _ hk => hk.1)), (bk BK175.out), (bk BK176.out), bl⟩)
       skip
       refine box_step ?hg (N := 3) ?hd (cs := #[.slice none 0 0, .slice none 0 0, .slice none 0 0, .slice none 0 0, .slice none 0 0]) (t := 27) ?hr ?_; (case hd => rfl); (case hg => rfl); (case hr => first | (go_simp; done) | (go_simp; rfl))
       intro gb192 hg w15 hbox hb
       have n0_ := Aside0.mk (Kd.V_below (Kd.V_elderB (by (with_reducible repeat (first | apply Kd.V_alloc | apply Kd.V_drewN | apply Kd.V_drew)); exact HO0_3.out) gb192 (Nat.le_of_eq hg.symm)) hb)
       have n1_ := Aside0.mk (rb HO179.out hb)
       have n2_ := Aside0.mk (rb HO182.out hb)
       have n3_ := Aside0.mk (rb HO185.out hb)
       have n4_ := Aside0.mk (Kd.N_below (Kd.N_elderB (by (with_reducible repeat (first | apply Kd.N_alloc | apply Kd.N_drewN | apply Kd.N_drew)); exact HO188.out) gb192 (Nat.le_of_eq hg.symm)) hb)
       have n5_ := Aside0.mk (bb BK175.out hb)
       have n6_ := Aside0.mk (bb BK176.out hb)
       have n7_ := Aside0.mk (below_step bl hb)
       have n8_ := Aside0.mk (hbox)
       have n9_ := Aside0.mk (ge (w := w) hg)
       have n10_ := Aside0.mk (ge (w := w) hg)
       have n11_ := Aside0.mk (nl hg (bk BK175.out))
       have n12_ := Aside0.mk (ng hg (bk BK175.out))
       have n13_ := Aside0.mk (nl hg (bk BK176.out))
       have n14_ := Aside0.mk (ng hg (bk BK176.out))
       clear HO0_3
       clear HO179
       clear HO182
       clear HO185
       clear HO188
       clear BK175
       clear BK176
       clear HB
       have HO0_3 := n0_
       have HO179 := n1_
       have HO182 := n2_
       have HO185 := n3_
       have HO188 := n4_
       have BK175 := n5_
       have BK176 := n6_
       have HB := n7_
       have BK192 := n8_
       have GW192 := n9_
       have GE192 := n10_
       have NB175_192 := n11_
       have NB192_175 := n12_
       have NB176_192 := n13_
       have NB192_176 := n14_
       clear n0_ n1_ n2_ n3_ n4_ n5_ n6_ n7_ n8_ n9_ n10_ n11_ n12_ n13_ n14_
       clear hb hbox hg
       refine hK.out _ _ ⟨(blk_cell BK175.out 0).trans rfl, (blk_cell BK175.out 1).trans rfl, (blk_cell BK175.out 2).trans rfl, (blk_cell BK175.out 3).trans rfl, (blk_cell BK175.out 4).trans rfl⟩ (fun hHeld => ?_)
       clear hK K
       refine norm_ (a' := ?_) ?_ ?_
       rotate_left
       · show Act.put _ (some 3) _ = _
         simp only [Act.put, List.setIfInBounds_toArray, List.set_cons_zero, List.set_cons_succ, i64_w, i32_w]
         rfl
       exact norm_ (by first | (simp only [putAll, Act.put, List.setIfInBounds_toArray, List.set_cons_zero, List.set_cons_succ]; done) | (simp only [putAll, Act.put, List.setIfInBounds_toArray, List.set_cons_zero, List.set_cons_succ]; rfl)) (hJ2_5_8_11_16 (v178, v181, v184, v187, gb192) _ ⟨hHeld, (by (with_reducible repeat (first | apply Kd.V_alloc | apply Kd.V_drewN | apply Kd.V_drew)); exact Kd.V_mono HO0_3.out (fun _ hk => ⟨hk.1.1, ⟨hk.1.2.1, ⟨hk.1.2.2.1, ⟨hk.1.2.2.2.1, ⟨hk.1.2.2.2.2.1, ⟨hk.1.2.2.2.2.2.1, ⟨hk.1.2.2.2.2.2.2, hk.2⟩⟩⟩⟩⟩⟩⟩)), (by (with_reducible repeat (first | apply Kd.R_alloc | apply Kd.R_drewN | apply Kd.R_drew)); exact HO179.out), (by (with_reducible repeat (first | apply Kd.R_alloc | apply Kd.R_drewN | apply Kd.R_drew)); exact HO182.out), (by (with_reducible repeat (first | apply Kd.R_alloc | apply Kd.R_drewN | apply Kd.R_drew)); exact HO185.out), (by (with_reducible repeat (first | apply Kd.N_alloc | apply Kd.N_drewN | apply Kd.N_drew)); exact Kd.N_mono HO188.out (fun _ hk => ⟨hk.1.1, ⟨hk.1.2.1, ⟨hk.1.2.2.1, ⟨hk.1.2.2.2.1, ⟨hk.1.2.2.2.2.1, ⟨hk.1.2.2.2.2.2, hk.2⟩⟩⟩⟩⟩⟩)), (bk BK175.out), (bk BK176.out), (bk BK192.out), GW192.out, GE192.out, NB175_192.out, NB192_175.out, NB176_192.out, NB192_176.out, bl⟩)
     skip
     rintro ⟨v178, v181, v184, v187, gb192⟩ w15 ⟨hS_, h0_, h1_, h2_, h3_, h4_, h5_, h6_, h7_, h8_, h9_, h10_, h11_, h12_, h13_, h14_⟩
     have n0_ : Aside0 (Kd.V k51 51 w15 w.heap.size (fun k_ => (P0_3_ k_ ∨ w.heap.size ≤ k_) ∧ some k_ ≠ (v178 : Value).ownBlock ∧ some k_ ≠ (v181 : Value).ownBlock ∧ some k_ ≠ (v184 : Value).ownBlock ∧ some k_ ≠ (v187 : Value).ownBlock ∧ k_ ≠ gb175 ∧ k_ ≠ gb176 ∧ k_ ≠ gb192) (.slice A0_3 l0_3.length c0_3) l0_3) := ⟨h0_⟩
     have n1_ : Aside0 (Kd.R Kd.string 9 w15 w.heap.size (fun k_ => (w.heap.size ≤ k_) ∧ some k_ ≠ (v181 : Value).ownBlock) v178 t177) := ⟨h1_⟩
     have n2_ : Aside0 (Kd.R Kd.string 9 w15 w.heap.size (fun k_ => (w.heap.size ≤ k_) ∧ some k_ ≠ (v178 : Value).ownBlock) v181 t180) := ⟨h2_⟩
     have n3_ : Aside0 (Kd.R k44 44 w15 w.heap.size (fun k_ => (w.heap.size ≤ k_)) v184 t183) := ⟨h3_⟩
     have n4_ : Aside0 (Kd.N k51 51 w15 w.heap.size (fun k_ => (P0_3_ k_ ∨ w.heap.size ≤ k_) ∧ some k_ ≠ (v178 : Value).ownBlock ∧ some k_ ≠ (v181 : Value).ownBlock ∧ some k_ ≠ (v184 : Value).ownBlock ∧ k_ ≠ gb175 ∧ k_ ≠ gb176 ∧ k_ ≠ gb192) v187 t186) := ⟨h4_⟩
     have n5_ : Aside0 (w15.heap[gb175]? = some (.cells #[.slice A0_0 l0_0.length c0_0, .slice A0_1 l0_1.length c0_1, .slice A0_2 l0_2.length c0_2, .slice A0_3 l0_3.length c0_3, .slice A0_4 l0_4.length c0_4] 27 (0, 0))) := ⟨h5_⟩
     have n6_ : Aside0 (w15.heap[gb176]? = some (.cells #[.slice none 0 0, .slice none 0 0, .slice none 0 0, .slice none 0 0, .slice none 0 0] 27 (0, 0))) := ⟨h6_⟩
     have n7_ : Aside0 (w15.heap[gb192]? = some (.cells #[.slice none 0 0, .slice none 0 0, .slice none 0 0, .slice none 0 0, .slice none 0 0] 27 (0, 0))) := ⟨h7_⟩
     have n8_ : Aside0 (w.heap.size ≤ gb192) := ⟨h8_⟩
     have n9_ : Aside0 (w.heap.size ≤ gb192) := ⟨h9_⟩
     have n10_ : Aside0 (gb175 ≠ gb192) := ⟨h10_⟩
     have n11_ : Aside0 (gb192 ≠ gb175) := ⟨h11_⟩
     have n12_ : Aside0 (gb176 ≠ gb192) := ⟨h12_⟩
     have n13_ : Aside0 (gb192 ≠ gb176) := ⟨h13_⟩
     have n14_ : Aside0 (Below w.heap.size w w15) := ⟨h14_⟩
     clear HO0_3
     clear BK175
     clear BK176
     clear HB
     clear h0_ h1_ h2_ h3_ h4_ h5_ h6_ h7_ h8_ h9_ h10_ h11_ h12_ h13_ h14_
     have HO0_3 := n0_
     have HO179 := n1_
     have HO182 := n2_
     have HO185 := n3_
     have HO188 := n4_
     have BK175 := n5_
     have BK176 := n6_
     have BK192 := n7_
     have GW192 := n8_
     have GE192 := n9_
     have NB175_192 := n10_
     have NB192_175 := n11_
     have NB176_192 := n12_
     have NB192_176 := n13_
     have HB := n14_
     clear n0_ n1_ n2_ n3_ n4_ n5_ n6_ n7_ n8_ n9_ n10_ n11_ n12_ n13_ n14_
     have hHeld : w15.cell? ⟨gb175, 0, none⟩ = some (.slice A0_0 l0_0.length c0_0) ∧ w15.cell? ⟨gb175, 1, none⟩ = some (.slice A0_1 l0_1.length c0_1) ∧ w15.cell? ⟨gb175, 2, none⟩ = some (.slice A0_2 l0_2.length c0_2) ∧ w15.cell? ⟨gb175, 3, none⟩ = some (.slice A0_3 l0_3.length c0_3) ∧ w15.cell? ⟨gb175, 4, none⟩ = some (.slice A0_4 l0_4.length c0_4) := hS_
     refine norm_ (a' := ?_) ?_ ?_
     rotate_left
     · simp only [putAll, Act.put, List.setIfInBounds_toArray, List.set_cons_zero, List.set_cons_succ]
       rfl
     refine one_ (i := 14) (N := some 19) #[true, true, true, true, true, true, true, true, true, true, true, true, true, true, true, false, true, false] rfl rfl (one_of HT_.out (by kernel_rfl)) (by decide) (fun K hK => ?_)
     refine goes_ Tryd.func31 (by kernel_rfl) rfl #[.slice A0_4 l0_4.length c0_4] (by rfl) rfl rfl (by (try simp only [List.map_toArray, List.map_cons, List.map_nil]); first | done | rfl | (simp only [List.length_drop, List.length_take]; rfl)) ?_
     with_reducible refine (slices_Clone_int_int.calls _ _ l0_4 t189 _ ?side1 ?side2 A6.out).mono ?_
     (case side1 => exact kc (Kd.C_below HR0_4.out HB.out))
     (case side2 => exact HC0_4.out)
     rintro e w16 ⟨v190, rfl, ho0, hb⟩
     refine ⟨_, rfl, ?_⟩
     have n0_ := Aside0.mk (Kd.V_elder' (by (with_reducible repeat (first | apply Kd.V_alloc | apply Kd.V_drewN | apply Kd.V_drew)); exact HO0_3.out) (Kd.R_base ho0) hb)
     have n1_ := Aside0.mk (rb HO179.out hb)
     have n2_ := Aside0.mk (rb HO182.out hb)
     have n3_ := Aside0.mk (rb HO185.out hb)
     have n4_ := Aside0.mk (Kd.N_elder' (by (with_reducible repeat (first | apply Kd.N_alloc | apply Kd.N_drewN | apply Kd.N_drew)); exact HO188.out) (Kd.R_base ho0) hb)
     have n5_ := Aside0.mk (Kd.R_lower (Kd.R_newM (M := fun k_ => (w.heap.size ≤ k_)) ho0 (below_size bl) (fun k_ h_ => h_)) (below_size bl))
     have n6_ := Aside0.mk (bb BK175.out hb)
     have n7_ := Aside0.mk (bb BK176.out hb)
     have n8_ := Aside0.mk (bb BK192.out hb)
     have n9_ := Aside0.mk (below_step bl hb)
     clear HO0_3
     clear HO179
     clear HO182
     clear HO185
     clear HO188
     clear BK175
     clear BK176
     clear BK192
     clear HB
     have HO0_3 := n0_
     have HO179 := n1_
     have HO182 := n2_
     have HO185 := n3_
     have HO188 := n4_
     have HO191 := n5_
     have BK175 := n6_
     have BK176 := n7_
     have BK192 := n8_
     have HB := n9_
     clear n0_ n1_ n2_ n3_ n4_ n5_ n6_ n7_ n8_ n9_
     (try clear hb)
     (try clear hb2)
     (try clear hk)
     (try clear hi)
     (try clear ho0)
     obtain ⟨Ao17, co17, eo17⟩ := Kd.R_slice HO191.out
     (first | subst eo17 | (injection eo17 with f1_ f2_ f3_; have f4_ := f1_.symm; have f5_ := f3_.symm; clear f1_ f2_ f3_; subst f4_; subst f5_))
     obtain ⟨Ao18, co18, eo18⟩ := Kd.N_slice HO188.out
     (first | subst eo18 | (injection eo18 with f1_ f2_ f3_; have f4_ := f1_.symm; have f5_ := f3_.symm; clear f1_ f2_ f3_; subst f4_; subst f5_))
     obtain ⟨Ao19, co19, eo19⟩ := Kd.R_slice HO185.out
     (first | subst eo19 | (injection eo19 with f1_ f2_ f3_; have f4_ := f1_.symm; have f5_ := f3_.symm; clear f1_ f2_ f3_; subst f4_; subst f5_))
     obtain ⟨Ao20, co20, eo20⟩ := Kd.R_slice HO182.out
     (first | subst eo20 | (injection eo20 with f1_ f2_ f3_; have f4_ := f1_.symm; have f5_ := f3_.symm; clear f1_ f2_ f3_; subst f4_; subst f5_))
     obtain ⟨Ao21, co21, eo21⟩ := Kd.R_slice HO179.out
     (first | subst eo21 | (injection eo21 with f1_ f2_ f3_; have f4_ := f1_.symm; have f5_ := f3_.symm; clear f1_ f2_ f3_; subst f4_; subst f5_))
     refine hK.out _ _ ⟨(blk_cell BK175.out 0).trans rfl, (blk_cell BK175.out 1).trans rfl, (blk_cell BK175.out 2).trans rfl, (blk_cell BK175.out 3).trans rfl, (blk_cell BK175.out 4).trans rfl⟩ (fun hHeld => ?_)
     clear hK K
     refine norm_ (a' := ?_) ?_ ?_
     rotate_left
     · show Act.put _ (some 19) _ = _
       simp only [Act.put, List.setIfInBounds_toArray, List.set_cons_zero, List.set_cons_succ, i64_w, i32_w]
       rfl
     refine pure_ (i := 15) (N := some 20) (v := ?_) (a' := ?_) #[true, true, true, true, true, true, true, true, true, true, true, true, true, true, true, true, true, false] rfl rfl (any_of HT_.out (by kernel_rfl)) (fun _ _ _ h => h) (Or.inl ⟨by rfl, ?_⟩) ?_ ?_
     rotate_left
     · intro w'
       go_simp
       with_reducible rfl
     rotate_left
     · simp only [Act.put, List.setIfInBounds_toArray, List.set_cons_zero, List.set_cons_succ, i64_w, i32_w]
       rfl
     exact norm_ (by first | (simp only [putAll, Act.put, List.setIfInBounds_toArray, List.set_cons_zero, List.set_cons_succ]; done) | (simp only [putAll, Act.put, List.setIfInBounds_toArray, List.set_cons_zero, List.set_cons_succ]; rfl)) (hJ2_5_8_11_14_16 (.slice Ao21 t177.length co21, .slice Ao20 t180.length co20, .slice Ao19 t183.length co19, .slice Ao18 t186.length co18, .slice Ao17 t189.length co17, gb192) _ ⟨hHeld, (by (with_reducible repeat (first | apply Kd.V_alloc | apply Kd.V_drewN | apply Kd.V_drew)); exact Kd.V_mono HO0_3.out (fun _ hk => ⟨hk.1.1, ⟨hk.1.2.1, ⟨hk.1.2.2.1, ⟨hk.1.2.2.2.1, ⟨hk.1.2.2.2.2.1, ⟨hk.2, ⟨hk.1.2.2.2.2.2.1, ⟨hk.1.2.2.2.2.2.2.1, hk.1.2.2.2.2.2.2.2⟩⟩⟩⟩⟩⟩⟩⟩)), (by (with_reducible repeat (first | apply Kd.R_alloc | apply Kd.R_drewN | apply Kd.R_drew)); exact HO179.out), (by (with_reducible repeat (first | apply Kd.R_alloc | apply Kd.R_drewN | apply Kd.R_drew)); exact HO182.out), (by (with_reducible repeat (first | apply Kd.R_alloc | apply Kd.R_drewN | apply Kd.R_drew)); exact HO185.out), (by (with_reducible repeat (first | apply Kd.N_alloc | apply Kd.N_drewN | apply Kd.N_drew)); exact Kd.N_mono HO188.out (fun _ hk => ⟨hk.1.1, ⟨hk.1.2.1, ⟨hk.1.2.2.1, ⟨hk.1.2.2.2.1, ⟨hk.2, ⟨hk.1.2.2.2.2.1, ⟨hk.1.2.2.2.2.2.1, hk.1.2.2.2.2.2.2⟩⟩⟩⟩⟩⟩⟩)), (by (with_reducible repeat (first | apply Kd.R_alloc | apply Kd.R_drewN | apply Kd.R_drew)); exact Kd.R_mono HO191.out (fun _ hk => hk.1)), (bk BK175.out), (bk BK176.out), (bk BK192.out), GW192.out, GE192.out, NB175_192.out, NB192_175.out, NB176_192.out, NB192_176.out, bl⟩)
   skip
   rintro ⟨v178, v181, v184, v187, v190⟩ w20 ⟨hS_, h0_, h1_, h2_, h3_, h4_, h5_, h6_, h7_, h8_⟩
   have n0_ : Aside0 (Kd.V k51 51 w20 w.heap.size (fun k_ => (P0_3_ k_ ∨ w.heap.size ≤ k_) ∧ some k_ ≠ (v178 : Value).ownBlock ∧ some k_ ≠ (v181 : Value).ownBlock ∧ some k_ ≠ (v184 : Value).ownBlock ∧ some k_ ≠ (v187 : Value).ownBlock ∧ some k_ ≠ (v190 : Value).ownBlock ∧ k_ ≠ gb175 ∧ k_ ≠ gb176) (.slice A0_3 l0_3.length c0_3) l0_3) := ⟨h0_⟩
   have n1_ : Aside0 (Kd.R Kd.string 9 w20 w.heap.size (fun k_ => (w.heap.size ≤ k_) ∧ some k_ ≠ (v181 : Value).ownBlock) v178 t177) := ⟨h1_⟩
   have n2_ : Aside0 (Kd.R Kd.string 9 w20 w.heap.size (fun k_ => (w.heap.size ≤ k_) ∧ some k_ ≠ (v178 : Value).ownBlock) v181 t180) := ⟨h2_⟩
   have n3_ : Aside0 (Kd.R k44 44 w20 w.heap.size (fun k_ => (w.heap.size ≤ k_)) v184 t183) := ⟨h3_⟩
   have n4_ : Aside0 (Kd.N k51 51 w20 w.heap.size (fun k_ => (P0_3_ k_ ∨ w.heap.size ≤ k_) ∧ some k_ ≠ (v178 : Value).ownBlock ∧ some k_ ≠ (v181 : Value).ownBlock ∧ some k_ ≠ (v184 : Value).ownBlock ∧ some k_ ≠ (v190 : Value).ownBlock ∧ k_ ≠ gb175 ∧ k_ ≠ gb176) v187 t186) := ⟨h4_⟩
   have n5_ : Aside0 (Kd.R (Kd.int .i64) 3 w20 w.heap.size (fun k_ => (w.heap.size ≤ k_)) v190 t189) := ⟨h5_⟩
   have n6_ : Aside0 (w20.heap[gb175]? = some (.cells #[.slice A0_0 l0_0.length c0_0, .slice A0_1 l0_1.length c0_1, .slice A0_2 l0_2.length c0_2, .slice A0_3 l0_3.length c0_3, .slice A0_4 l0_4.length c0_4] 27 (0, 0))) := ⟨h6_⟩
   have n7_ : Aside0 (w20.heap[gb176]? = some (.cells #[.slice none 0 0, .slice none 0 0, .slice none 0 0, .slice none 0 0, .slice none 0 0] 27 (0, 0))) := ⟨h7_⟩
   have n8_ : Aside0 (Below w.heap.size w w20) := ⟨h8_⟩
   clear HO0_3
   clear BK175
   clear BK176
   clear HB
   clear h0_ h1_ h2_ h3_ h4_ h5_ h6_ h7_ h8_
   have HO0_3 := n0_
   have HO179 := n1_
   have HO182 := n2_
   have HO185 := n3_
   have HO188 := n4_
   have HO191 := n5_
   have BK175 := n6_
   have BK176 := n7_
   have HB := n8_
   clear n0_ n1_ n2_ n3_ n4_ n5_ n6_ n7_ n8_
   have hHeld : w20.cell? ⟨gb175, 0, none⟩ = some (.slice A0_0 l0_0.length c0_0) ∧ w20.cell? ⟨gb175, 1, none⟩ = some (.slice A0_1 l0_1.length c0_1) ∧ w20.cell? ⟨gb175, 2, none⟩ = some (.slice A0_2 l0_2.length c0_2) ∧ w20.cell? ⟨gb175, 3, none⟩ = some (.slice A0_3 l0_3.length c0_3) ∧ w20.cell? ⟨gb175, 4, none⟩ = some (.slice A0_4 l0_4.length c0_4) := hS_
   obtain ⟨Ao21, co21, eo21⟩ := Kd.R_slice HO191.out
   (first | subst eo21 | (injection eo21 with f1_ f2_ f3_; have f4_ := f1_.symm; have f5_ := f3_.symm; clear f1_ f2_ f3_; subst f4_; subst f5_))
   obtain ⟨Ao22, co22, eo22⟩ := Kd.N_slice HO188.out
   (first | subst eo22 | (injection eo22 with f1_ f2_ f3_; have f4_ := f1_.symm; have f5_ := f3_.symm; clear f1_ f2_ f3_; subst f4_; subst f5_))
   obtain ⟨Ao23, co23, eo23⟩ := Kd.R_slice HO185.out
   (first | subst eo23 | (injection eo23 with f1_ f2_ f3_; have f4_ := f1_.symm; have f5_ := f3_.symm; clear f1_ f2_ f3_; subst f4_; subst f5_))
   obtain ⟨Ao24, co24, eo24⟩ := Kd.R_slice HO182.out
   (first | subst eo24 | (injection eo24 with f1_ f2_ f3_; have f4_ := f1_.symm; have f5_ := f3_.symm; clear f1_ f2_ f3_; subst f4_; subst f5_))
   obtain ⟨Ao25, co25, eo25⟩ := Kd.R_slice HO179.out
   (first | subst eo25 | (injection eo25 with f1_ f2_ f3_; have f4_ := f1_.symm; have f5_ := f3_.symm; clear f1_ f2_ f3_; subst f4_; subst f5_))
   refine norm_ (a' := ?_) ?_ ?_
   rotate_left
   · simp only [putAll, Act.put, List.setIfInBounds_toArray, List.set_cons_zero, List.set_cons_succ]
     rfl
   refine one_ (i := 16) (N := some 3) #[true, true, true, true, true, true, true, true, true, true, true, true, true, true, true, true, true, false] rfl rfl (one_of HT_.out (by kernel_rfl)) (by decide) (fun K hK => ?_)
   refine box_step ?hg (N := 3) ?hd (cs := #[.slice none 0 0, .slice none 0 0, .slice none 0 0, .slice none 0 0, .slice none 0 0]) (t := 27) ?hr ?_; (case hd => rfl); (case hg => rfl); (case hr => first | (go_simp; done) | (go_simp; rfl))
   intro gb192 hg w26 hbox hb
   have n0_ := Aside0.mk (Kd.V_below (Kd.V_elderB (by (with_reducible repeat (first | apply Kd.V_alloc | apply Kd.V_drewN | apply Kd.V_drew)); exact HO0_3.out) gb192 (Nat.le_of_eq hg.symm)) hb)
   have n1_ := Aside0.mk (rb HO179.out hb)
   have n2_ := Aside0.mk (rb HO182.out hb)
   have n3_ := Aside0.mk (rb HO185.out hb)
   have n4_ := Aside0.mk (Kd.N_below (Kd.N_elderB (by (with_reducible repeat (first | apply Kd.N_alloc | apply Kd.N_drewN | apply Kd.N_drew)); exact HO188.out) gb192 (Nat.le_of_eq hg.symm)) hb)
   have n5_ := Aside0.mk (rb HO191.out hb)
   have n6_ := Aside0.mk (bb BK175.out hb)
   have n7_ := Aside0.mk (bb BK176.out hb)
   have n8_ := Aside0.mk (below_step bl hb)
   have n9_ := Aside0.mk (hbox)
   have n10_ := Aside0.mk (ge (w := w) hg)
   have n11_ := Aside0.mk (ge (w := w) hg)
   have n12_ := Aside0.mk (nl hg (bk BK175.out))
   have n13_ := Aside0.mk (ng hg (bk BK175.out))
   have n14_ := Aside0.mk (nl hg (bk BK176.out))
   have n15_ := Aside0.mk (ng hg (bk BK176.out))
   clear HO0_3
   clear HO179
   clear HO182
   clear HO185
   clear HO188
   clear HO191
   clear BK175
   clear BK176
   clear HB
   have HO0_3 := n0_
   have HO179 := n1_
   have HO182 := n2_
   have HO185 := n3_
   have HO188 := n4_
   have HO191 := n5_
   have BK175 := n6_
   have BK176 := n7_
   have HB := n8_
   have BK192 := n9_
   have GW192 := n10_
   have GE192 := n11_
   have NB175_192 := n12_
   have NB192_175 := n13_
   have NB176_192 := n14_
   have NB192_176 := n15_
   clear n0_ n1_ n2_ n3_ n4_ n5_ n6_ n7_ n8_ n9_ n10_ n11_ n12_ n13_ n14_ n15_
   clear hb hbox hg
   refine hK.out _ _ ⟨(blk_cell BK175.out 0).trans rfl, (blk_cell BK175.out 1).trans rfl, (blk_cell BK175.out 2).trans rfl, (blk_cell BK175.out 3).trans rfl, (blk_cell BK175.out 4).trans rfl⟩ (fun hHeld => ?_)
   clear hK K
   refine norm_ (a' := ?_) ?_ ?_
   rotate_left
   · show Act.put _ (some 3) _ = _
     simp only [Act.put, List.setIfInBounds_toArray, List.set_cons_zero, List.set_cons_succ, i64_w, i32_w]
     rfl
   exact norm_ (by first | (simp only [putAll, Act.put, List.setIfInBounds_toArray, List.set_cons_zero, List.set_cons_succ]; done) | (simp only [putAll, Act.put, List.setIfInBounds_toArray, List.set_cons_zero, List.set_cons_succ]; rfl)) (hJ2_5_8_11_14_16 (.slice Ao25 t177.length co25, .slice Ao24 t180.length co24, .slice Ao23 t183.length co23, .slice Ao22 t186.length co22, .slice Ao21 t189.length co21, gb192) _ ⟨hHeld, (by (with_reducible repeat (first | apply Kd.V_alloc | apply Kd.V_drewN | apply Kd.V_drew)); exact Kd.V_mono HO0_3.out (fun _ hk => ⟨hk.1.1, ⟨hk.1.2.1, ⟨hk.1.2.2.1, ⟨hk.1.2.2.2.1, ⟨hk.1.2.2.2.2.1, ⟨hk.1.2.2.2.2.2.1, ⟨hk.1.2.2.2.2.2.2.1, ⟨hk.1.2.2.2.2.2.2.2, hk.2⟩⟩⟩⟩⟩⟩⟩⟩)), (by (with_reducible repeat (first | apply Kd.R_alloc | apply Kd.R_drewN | apply Kd.R_drew)); exact HO179.out), (by (with_reducible repeat (first | apply Kd.R_alloc | apply Kd.R_drewN | apply Kd.R_drew)); exact HO182.out), (by (with_reducible repeat (first | apply Kd.R_alloc | apply Kd.R_drewN | apply Kd.R_drew)); exact HO185.out), (by (with_reducible repeat (first | apply Kd.N_alloc | apply Kd.N_drewN | apply Kd.N_drew)); exact Kd.N_mono HO188.out (fun _ hk => ⟨hk.1.1, ⟨hk.1.2.1, ⟨hk.1.2.2.1, ⟨hk.1.2.2.2.1, ⟨hk.1.2.2.2.2.1, ⟨hk.1.2.2.2.2.2.1, ⟨hk.1.2.2.2.2.2.2, hk.2⟩⟩⟩⟩⟩⟩⟩)), (by (with_reducible repeat (first | apply Kd.R_alloc | apply Kd.R_drewN | apply Kd.R_drew)); exact HO191.out), (bk BK175.out), (bk BK176.out), (bk BK192.out), GW192.out, GE192.out, NB175_192.out, NB192_175.out, NB176_192.out, NB192_176.out, bl⟩)
 rintro ⟨v178, v181, v184, v187, v190, gb192⟩ w21 ⟨hS_, h0_, h1_, h2_, h3_, h4_, h5_, h6_, h7_, h8_, h9_, h10_, h11_, h12_, h13_, h14_, h15_⟩
 have n0_ : Aside0 (Kd.V k51 51 w21 w.heap.size (fun k_ => (P0_3_ k_ ∨ w.heap.size ≤ k_) ∧ some k_ ≠ (v178 : Value).ownBlock ∧ some k_ ≠ (v181 : Value).ownBlock ∧ some k_ ≠ (v184 : Value).ownBlock ∧ some k_ ≠ (v187 : Value).ownBlock ∧ some k_ ≠ (v190 : Value).ownBlock ∧ k_ ≠ gb175 ∧ k_ ≠ gb176 ∧ k_ ≠ gb192) (.slice A0_3 l0_3.length c0_3) l0_3) := ⟨h0_⟩
 have n1_ : Aside0 (Kd.R Kd.string 9 w21 w.heap.size (fun k_ => (w.heap.size ≤ k_) ∧ some k_ ≠ (v181 : Value).ownBlock) v178 t177) := ⟨h1_⟩
 have n2_ : Aside0 (Kd.R Kd.string 9 w21 w.heap.size (fun k_ => (w.heap.size ≤ k_) ∧ some k_ ≠ (v178 : Value).ownBlock) v181 t180) := ⟨h2_⟩
 have n3_ : Aside0 (Kd.R k44 44 w21 w.heap.size (fun k_ => (w.heap.size ≤ k_)) v184 t183) := ⟨h3_⟩
 have n4_ : Aside0 (Kd.N k51 51 w21 w.heap.size (fun k_ => (P0_3_ k_ ∨ w.heap.size ≤ k_) ∧ some k_ ≠ (v178 : Value).ownBlock ∧ some k_ ≠ (v181 : Value).ownBlock ∧ some k_ ≠ (v184 : Value).ownBlock ∧ some k_ ≠ (v190 : Value).ownBlock ∧ k_ ≠ gb175 ∧ k_ ≠ gb176 ∧ k_ ≠ gb192) v187 t186) := ⟨h4_⟩
 have n5_ : Aside0 (Kd.R (Kd.int .i64) 3 w21 w.heap.size (fun k_ => (w.heap.size ≤ k_)) v190 t189) := ⟨h5_⟩
 have n6_ : Aside0 (w21.heap[gb175]? = some (.cells #[.slice A0_0 l0_0.length c0_0, .slice A0_1 l0_1.length c0_1, .slice A0_2 l0_2.length c0_2, .slice A0_3 l0_3.length c0_3, .slice A0_4 l0_4.length c0_4] 27 (0, 0))) := ⟨h6_⟩
 have n7_ : Aside0 (w21.heap[gb176]? = some (.cells #[.slice none 0 0, .slice none 0 0, .slice none 0 0, .slice none 0 0, .slice none 0 0] 27 (0, 0))) := ⟨h7_⟩
 have n8_ : Aside0 (w21.heap[gb192]? = some (.cells #[.slice none 0 0, .slice none 0 0, .slice none 0 0, .slice none 0 0, .slice none 0 0] 27 (0, 0))) := ⟨h8_⟩
 have n9_ : Aside0 (w.heap.size ≤ gb192) := ⟨h9_⟩
 have n10_ : Aside0 (w.heap.size ≤ gb192) := ⟨h10_⟩
 have n11_ : Aside0 (gb175 ≠ gb192) := ⟨h11_⟩
 have n12_ : Aside0 (gb192 ≠ gb175) := ⟨h12_⟩
 have n13_ : Aside0 (gb176 ≠ gb192) := ⟨h13_⟩
 have n14_ : Aside0 (gb192 ≠ gb176) := ⟨h14_⟩
 have n15_ : Aside0 (Below w.heap.size w w21) := ⟨h15_⟩
 clear HO0_3
 clear BK175
 clear BK176
 clear HB
 clear h0_ h1_ h2_ h3_ h4_ h5_ h6_ h7_ h8_ h9_ h10_ h11_ h12_ h13_ h14_ h15_
 have HO0_3 := n0_
 have HO179 := n1_
 have HO182 := n2_
 have HO185 := n3_
 have HO188 := n4_
 have HO191 := n5_
 have BK175 := n6_
 have BK176 := n7_
 have BK192 := n8_
 have GW192 := n9_
 have GE192 := n10_
 have NB175_192 := n11_
 have NB192_175 := n12_
 have NB176_192 := n13_
 have NB192_176 := n14_
 have HB := n15_
 clear n0_ n1_ n2_ n3_ n4_ n5_ n6_ n7_ n8_ n9_ n10_ n11_ n12_ n13_ n14_ n15_
 have hHeld : w21.cell? ⟨gb175, 0, none⟩ = some (.slice A0_0 l0_0.length c0_0) ∧ w21.cell? ⟨gb175, 1, none⟩ = some (.slice A0_1 l0_1.length c0_1) ∧ w21.cell? ⟨gb175, 2, none⟩ = some (.slice A0_2 l0_2.length c0_2) ∧ w21.cell? ⟨gb175, 3, none⟩ = some (.slice A0_3 l0_3.length c0_3) ∧ w21.cell? ⟨gb175, 4, none⟩ = some (.slice A0_4 l0_4.length c0_4) := hS_
 obtain ⟨Ao22, co22, eo22⟩ := Kd.R_slice HO191.out
 (first | subst eo22 | (injection eo22 with f1_ f2_ f3_; have f4_ := f1_.symm; have f5_ := f3_.symm; clear f1_ f2_ f3_; subst f4_; subst f5_))
 obtain ⟨Ao23, co23, eo23⟩ := Kd.N_slice HO188.out
 (first | subst eo23 | (injection eo23 with f1_ f2_ f3_; have f4_ := f1_.symm; have f5_ := f3_.symm; clear f1_ f2_ f3_; subst f4_; subst f5_))
 obtain ⟨Ao24, co24, eo24⟩ := Kd.R_slice HO185.out
 (first | subst eo24 | (injection eo24 with f1_ f2_ f3_; have f4_ := f1_.symm; have f5_ := f3_.symm; clear f1_ f2_ f3_; subst f4_; subst f5_))
 obtain ⟨Ao25, co25, eo25⟩ := Kd.R_slice HO182.out
 (first | subst eo25 | (injection eo25 with f1_ f2_ f3_; have f4_ := f1_.symm; have f5_ := f3_.symm; clear f1_ f2_ f3_; subst f4_; subst f5_))
 obtain ⟨Ao26, co26, eo26⟩ := Kd.R_slice HO179.out
 (first | subst eo26 | (injection eo26 with f1_ f2_ f3_; have f4_ := f1_.symm; have f5_ := f3_.symm; clear f1_ f2_ f3_; subst f4_; subst f5_))
 refine norm_ (a' := ?_) ?_ ?_
 rotate_left
 · simp only [putAll, Act.put, List.setIfInBounds_toArray, List.set_cons_zero, List.set_cons_succ]
   rfl
 refine one_ (i := 17) (N := none) #[true, true, true, true, true, true, true, true, true, true, true, true, true, true, true, true, true, true] rfl rfl (one_of HT_.out (by kernel_rfl)) (by decide) (fun K hK => ?_)
 have hs27 : w21.cell? ⟨gb192, 0, none⟩ = some (.slice none 0 0) := (blk_cell BK192.out 0).trans rfl
 have hfs27 := blk_frozen BK192.out 0
 have hns27_0 := NB175_192.out
 have hns27_1 := NB176_192.out
 have hms27_0 := NB192_175.out
 have hms27_1 := NB192_176.out
 have hs28 : w21.cell? ⟨gb192, 1, none⟩ = some (.slice none 0 0) := (blk_cell BK192.out 1).trans rfl
 have hfs28 := blk_frozen BK192.out 1
 have hns28_0 := NB175_192.out
 have hns28_1 := NB176_192.out
 have hms28_0 := NB192_175.out
 have hms28_1 := NB192_176.out
 have hs29 : w21.cell? ⟨gb192, 2, none⟩ = some (.slice none 0 0) := (blk_cell BK192.out 2).trans rfl
 have hfs29 := blk_frozen BK192.out 2
 have hns29_0 := NB175_192.out
 have hns29_1 := NB176_192.out
 have hms29_0 := NB192_175.out
 have hms29_1 := NB192_176.out
 have hs30 : w21.cell? ⟨gb192, 3, none⟩ = some (.slice none 0 0) := (blk_cell BK192.out 3).trans rfl
 have hfs30 := blk_frozen BK192.out 3
 have hns30_0 := NB175_192.out
 have hns30_1 := NB176_192.out
 have hms30_0 := NB192_175.out
 have hms30_1 := NB192_176.out
 have hs31 : w21.cell? ⟨gb192, 4, none⟩ = some (.slice none 0 0) := (blk_cell BK192.out 4).trans rfl
 have hfs31 := blk_frozen BK192.out 4
 have hns31_0 := NB175_192.out
 have hns31_1 := NB176_192.out
 have hms31_0 := NB192_175.out
 have hms31_1 := NB192_176.out
 refine skip_ (w1 := ?_) (by rfl) rfl ?_ ?_
 rotate_left
 · go_simp
   rfl
 refine hK.out _ _ ⟨((cell_far (p := ⟨gb192, _, none⟩) NB175_192.out _).trans (((cell_far (p := ⟨gb192, _, none⟩) NB175_192.out _).trans (((cell_far (p := ⟨gb192, _, none⟩) NB175_192.out _).trans (((cell_far (p := ⟨gb192, _, none⟩) NB175_192.out _).trans (((cell_far (p := ⟨gb192, _, none⟩) NB175_192.out _).trans (hHeld.1)))))))))), ((cell_far (p := ⟨gb192, _, none⟩) NB175_192.out _).trans (((cell_far (p := ⟨gb192, _, none⟩) NB175_192.out _).trans (((cell_far (p := ⟨gb192, _, none⟩) NB175_192.out _).trans (((cell_far (p := ⟨gb192, _, none⟩) NB175_192.out _).trans (((cell_far (p := ⟨gb192, _, none⟩) NB175_192.out _).trans (hHeld.2.1)))))))))), ((cell_far (p := ⟨gb192, _, none⟩) NB175_192.out _).trans (((cell_far (p := ⟨gb192, _, none⟩) NB175_192.out _).trans (((cell_far (p := ⟨gb192, _, none⟩) NB175_192.out _).trans (((cell_far (p := ⟨gb192, _, none⟩) NB175_192.out _).trans (((cell_far (p := ⟨gb192, _, none⟩) NB175_192.out _).trans (hHeld.2.2.1)))))))))), ((cell_far (p := ⟨gb192, _, none⟩) NB175_192.out _).trans (((cell_far (p := ⟨gb192, _, none⟩) NB175_192.out _).trans (((cell_far (p := ⟨gb192, _, none⟩) NB175_192.out _).trans (((cell_far (p := ⟨gb192, _, none⟩) NB175_192.out _).trans (((cell_far (p := ⟨gb192, _, none⟩) NB175_192.out _).trans (hHeld.2.2.2.1)))))))))), ((cell_far (p := ⟨gb192, _, none⟩) NB175_192.out _).trans (((cell_far (p := ⟨gb192, _, none⟩) NB175_192.out _).trans (((cell_far (p := ⟨gb192, _, none⟩) NB175_192.out _).trans (((cell_far (p := ⟨gb192, _, none⟩) NB175_192.out _).trans (((cell_far (p := ⟨gb192, _, none⟩) NB175_192.out _).trans (hHeld.2.2.2.2))))))))))⟩ (fun hHeld => ?_)
 clear hK K
 refine done_ (done_of HT_.out (by kernel_rfl)) ?_
 have hnb32 := NB192_175.out
 have hnc32 := NB175_192.out
 have hnb33 := NB192_176.out
 have hnc33 := NB176_192.out
 obtain ⟨hcz34_0, hcz34_1, hcz34_2, hcz34_3, hcz34_4, hfz34_0, hfz34_1, hfz34_2, hfz34_3, hfz34_4⟩ := bz5 BK192.out
 try go_wp2
 go_loopg [24] k (fun kq v24 w' => ∃ (x24_1 : Int) (x176003_1 : List (S51)) (x193003_1 : List (S51)) (u176003 : Value) (u193003 : Value), v24 = .int .i64 x24_1 ∧ Aside0 (netlist_Copy.l0 kq (t186.length : Int) x24_1 t177 t180 t183 x193003_1 t189 = some (r1, r2, r3, r4, r5)) ∧ Aside0 (kq ≤ k) ∧ Aside0 (Kd.V k51 51 w' w.heap.size (fun k_ => (P0_3_ k_ ∨ w.heap.size ≤ k_) ∧ some k_ ≠ ((.slice Ao26 t177.length co26) : Value).ownBlock ∧ some k_ ≠ ((.slice Ao25 t180.length co25) : Value).ownBlock ∧ some k_ ≠ ((.slice Ao24 t183.length co24) : Value).ownBlock ∧ some k_ ≠ (u193003 : Value).ownBlock ∧ some k_ ≠ ((.slice Ao22 t189.length co22) : Value).ownBlock ∧ k_ ≠ gb175 ∧ k_ ≠ gb176 ∧ k_ ≠ gb192) u176003 x176003_1) ∧ Aside0 (Kd.R Kd.string 9 w' w.heap.size (fun k_ => (w.heap.size ≤ k_) ∧ some k_ ≠ ((.slice Ao25 t180.length co25) : Value).ownBlock) (.slice Ao26 t177.length co26) t177) ∧ Aside0 (Kd.R Kd.string 9 w' w.heap.size (fun k_ => (w.heap.size ≤ k_) ∧ some k_ ≠ ((.slice Ao26 t177.length co26) : Value).ownBlock) (.slice Ao25 t180.length co25) t180) ∧ Aside0 (Kd.R k44 44 w' w.heap.size (fun k_ => (w.heap.size ≤ k_)) (.slice Ao24 t183.length co24) t183) ∧ Aside0 (Kd.N k51 51 w' w.heap.size (fun k_ => (P0_3_ k_ ∨ w.heap.size ≤ k_) ∧ some k_ ≠ ((.slice Ao26 t177.length co26) : Value).ownBlock ∧ some k_ ≠ ((.slice Ao25 t180.length co25) : Value).ownBlock ∧ some k_ ≠ ((.slice Ao24 t183.length co24) : Value).ownBlock ∧ some k_ ≠ ((.slice Ao22 t189.length co22) : Value).ownBlock ∧ k_ ≠ gb175 ∧ k_ ≠ gb176 ∧ k_ ≠ gb192) u193003 x193003_1) ∧ Aside0 (Kd.R (Kd.int .i64) 3 w' w.heap.size (fun k_ => (w.heap.size ≤ k_)) (.slice Ao22 t189.length co22) t189) ∧ Aside0 (w'.heap[gb175]? = some (.cells #[(.slice A0_0 l0_0.length c0_0), (.slice A0_1 l0_1.length c0_1), (.slice A0_2 l0_2.length c0_2), u176003, (.slice A0_4 l0_4.length c0_4)] 27 (0, 0))) ∧ Aside0 (w'.heap[gb176]? = some (.cells #[(.slice none 0 0), (.slice none 0 0), (.slice none 0 0), (.slice none 0 0), (.slice none 0 0)] 27 (0, 0))) ∧ Aside0 (w'.heap[gb192]? = some (.cells #[(.slice Ao26 t177.length co26), (.slice Ao25 t180.length co25), (.slice Ao24 t183.length co24), u193003, (.slice Ao22 t189.length co22)] 27 (0, 0))) ∧ Aside0 (Below w.heap.size w w'))
 case atStart => exact ⟨(0), (l0_3), (t186), (.slice A0_3 l0_3.length c0_3), (.slice Ao23 t186.length co23), (by first | rfl | (simp; done) | (simp [*]; done)), H', ⟨Nat.le_refl _⟩, ⟨by (with_reducible repeat (first | apply Kd.V_alloc | apply Kd.V_drewN | apply Kd.V_drew)); exact Kd.V_mono (Kd.V_far (p := ⟨gb192, 4, none⟩) (Kd.V_far (p := ⟨gb192, 3, none⟩) (Kd.V_far (p := ⟨gb192, 2, none⟩) (Kd.V_far (p := ⟨gb192, 1, none⟩) (Kd.V_far (p := ⟨gb192, 0, none⟩) (Kd.V_mono HO0_3.out (fun k_ hk => (⟨hk, hk.2.2.2.2.2.2.2.2⟩ : _ ∧ k_ ≠ gb192))) (fun _ hk => hk.2) (.slice Ao26 t177.length co26)) (fun _ hk => hk.2) (.slice Ao25 t180.length co25)) (fun _ hk => hk.2) (.slice Ao24 t183.length co24)) (fun _ hk => hk.2) (.slice Ao23 t186.length co23)) (fun _ hk => hk.2) (.slice Ao22 t189.length co22)) (fun _ hk => ⟨hk.1.1, ⟨hk.1.2.1, ⟨hk.1.2.2.1, ⟨hk.1.2.2.2.1, ⟨hk.1.2.2.2.2.1, ⟨hk.1.2.2.2.2.2.1, ⟨hk.1.2.2.2.2.2.2.1, ⟨hk.1.2.2.2.2.2.2.2.1, hk.1.2.2.2.2.2.2.2.2⟩⟩⟩⟩⟩⟩⟩⟩)⟩, ⟨by (with_reducible repeat (first | apply Kd.R_alloc | apply Kd.R_drewN | apply Kd.R_drew)); exact Kd.R_mono (Kd.R_far (p := ⟨gb192, 4, none⟩) (Kd.R_far (p := ⟨gb192, 3, none⟩) (Kd.R_far (p := ⟨gb192, 2, none⟩) (Kd.R_far (p := ⟨gb192, 1, none⟩) (Kd.R_far (p := ⟨gb192, 0, none⟩) (Kd.R_types HO179.out BK192.out (by decide)) (fun _ hk => hk.2) (.slice Ao26 t177.length co26)) (fun _ hk => hk.2) (.slice Ao25 t180.length co25)) (fun _ hk => hk.2) (.slice Ao24 t183.length co24)) (fun _ hk => hk.2) (.slice Ao23 t186.length co23)) (fun _ hk => hk.2) (.slice Ao22 t189.length co22)) (fun _ hk => ⟨hk.1.1, hk.1.2⟩)⟩, ⟨by (with_reducible repeat (first | apply Kd.R_alloc | apply Kd.R_drewN | apply Kd.R_drew)); exact Kd.R_mono (Kd.R_far (p := ⟨gb192, 4, none⟩) (Kd.R_far (p := ⟨gb192, 3, none⟩) (Kd.R_far (p := ⟨gb192, 2, none⟩) (Kd.R_far (p := ⟨gb192, 1, none⟩) (Kd.R_far (p := ⟨gb192, 0, none⟩) (Kd.R_types HO182.out BK192.out (by decide)) (fun _ hk => hk.2) (.slice Ao26 t177.length co26)) (fun _ hk => hk.2) (.slice Ao25 t180.length co25)) (fun _ hk => hk.2) (.slice Ao24 t183.length co24)) (fun _ hk => hk.2) (.slice Ao23 t186.length co23)) (fun _ hk => hk.2) (.slice Ao22 t189.length co22)) (fun _ hk => ⟨hk.1.1, hk.1.2⟩)⟩, ⟨by (with_reducible repeat (first | apply Kd.R_alloc | apply Kd.R_drewN | apply Kd.R_drew)); exact Kd.R_mono (Kd.R_far (p := ⟨gb192, 4, none⟩) (Kd.R_far (p := ⟨gb192, 3, none⟩) (Kd.R_far (p := ⟨gb192, 2, none⟩) (Kd.R_far (p := ⟨gb192, 1, none⟩) (Kd.R_far (p := ⟨gb192, 0, none⟩) (Kd.R_types HO185.out BK192.out (by decide)) (fun _ hk => hk.2) (.slice Ao26 t177.length co26)) (fun _ hk => hk.2) (.slice Ao25 t180.length co25)) (fun _ hk => hk.2) (.slice Ao24 t183.length co24)) (fun _ hk => hk.2) (.slice Ao23 t186.length co23)) (fun _ hk => hk.2) (.slice Ao22 t189.length co22)) (fun _ hk => hk.1)⟩, ⟨by (with_reducible repeat (first | apply Kd.N_alloc | apply Kd.N_drewN | apply Kd.N_drew)); exact Kd.N_mono (Kd.N_far (p := ⟨gb192, 4, none⟩) (Kd.N_far (p := ⟨gb192, 3, none⟩) (Kd.N_far (p := ⟨gb192, 2, none⟩) (Kd.N_far (p := ⟨gb192, 1, none⟩) (Kd.N_far (p := ⟨gb192, 0, none⟩) (Kd.N_mono HO188.out (fun k_ hk => (⟨hk, hk.2.2.2.2.2.2.2⟩ : _ ∧ k_ ≠ gb192))) (fun _ hk => hk.2) (.slice Ao26 t177.length co26)) (fun _ hk => hk.2) (.slice Ao25 t180.length co25)) (fun _ hk => hk.2) (.slice Ao24 t183.length co24)) (fun _ hk => hk.2) (.slice Ao23 t186.length co23)) (fun _ hk => hk.2) (.slice Ao22 t189.length co22)) (fun _ hk => ⟨hk.1.1, ⟨hk.1.2.1, ⟨hk.1.2.2.1, ⟨hk.1.2.2.2.1, ⟨hk.1.2.2.2.2.1, ⟨hk.1.2.2.2.2.2.1, ⟨hk.1.2.2.2.2.2.2.1, hk.1.2.2.2.2.2.2.2⟩⟩⟩⟩⟩⟩⟩)⟩, ⟨by (with_reducible repeat (first | apply Kd.R_alloc | apply Kd.R_drewN | apply Kd.R_drew)); exact Kd.R_mono (Kd.R_far (p := ⟨gb192, 4, none⟩) (Kd.R_far (p := ⟨gb192, 3, none⟩) (Kd.R_far (p := ⟨gb192, 2, none⟩) (Kd.R_far (p := ⟨gb192, 1, none⟩) (Kd.R_far (p := ⟨gb192, 0, none⟩) (Kd.R_types HO191.out BK192.out (by decide)) (fun _ hk => hk.2) (.slice Ao26 t177.length co26)) (fun _ hk => hk.2) (.slice Ao25 t180.length co25)) (fun _ hk => hk.2) (.slice Ao24 t183.length co24)) (fun _ hk => hk.2) (.slice Ao23 t186.length co23)) (fun _ hk => hk.2) (.slice Ao22 t189.length co22)) (fun _ hk => hk.1)⟩, ⟨bf BK175.out⟩, ⟨bf BK176.out⟩, ⟨by (with_reducible repeat (first | refine blk_drewN ?_ _ | refine blk_drew ?_ | refine blk_alloc ?_ _)); refine blk_put (cs := #[.slice Ao26 t177.length co26, .slice Ao25 t180.length co25, .slice Ao24 t183.length co24, .slice Ao23 t186.length co23, .slice none 0 0]) ?_ 4 _ rfl; (with_reducible repeat (first | refine blk_drewN ?_ _ | refine blk_drew ?_ | refine blk_alloc ?_ _)); refine blk_put (cs := #[.slice Ao26 t177.length co26, .slice Ao25 t180.length co25, .slice Ao24 t183.length co24, .slice none 0 0, .slice none 0 0]) ?_ 3 _ rfl; (with_reducible repeat (first | refine blk_drewN ?_ _ | refine blk_drew ?_ | refine blk_alloc ?_ _)); refine blk_put (cs := #[.slice Ao26 t177.length co26, .slice Ao25 t180.length co25, .slice none 0 0, .slice none 0 0, .slice none 0 0]) ?_ 2 _ rfl; (with_reducible repeat (first | refine blk_drewN ?_ _ | refine blk_drew ?_ | refine blk_alloc ?_ _)); refine blk_put (cs := #[.slice Ao26 t177.length co26, .slice none 0 0, .slice none 0 0, .slice none 0 0, .slice none 0 0]) ?_ 1 _ rfl; (with_reducible repeat (first | refine blk_drewN ?_ _ | refine blk_drew ?_ | refine blk_alloc ?_ _)); refine blk_put (cs := #[.slice none 0 0, .slice none 0 0, .slice none 0 0, .slice none 0 0, .slice none 0 0]) ?_ 0 _ rfl; (with_reducible repeat (first | refine blk_drewN ?_ _ | refine blk_drew ?_ | refine blk_alloc ?_ _)); exact BK192.out⟩, ⟨bl⟩⟩
 clear H'
 clear hcz34_0 hcz34_1 hcz34_2 hcz34_3 hcz34_4 hfz34_0 hfz34_1 hfz34_2 hfz34_3 hfz34_4
 obtain ⟨x24_1, x176003_1, x193003_1, u176003, u193003, rfl, HA, HK1, HO_176003, HO_193000, HO_193001, HO_193002, HO_193003, HO_193004, BK175, BK176, BK192, HB⟩ := hrel
 cases gk with
 | zero => exact absurd HA.out (by simp [netlist_Copy.l0])
 | succ k1 =>
  have H := HA.out
  clear HA
  simp only [netlist_Copy.l0] at H
  by_cases c35 : x24_1 < (t186.length : Int)
  rotate_left
  · rw [if_neg c35] at H
    have c35b0 : decide (x24_1 < (t186.length : Int)) = false := decide_eq_false c35
    clear c35
    simp only [Option.some.injEq, Prod.mk.injEq] at H
    obtain ⟨rfl, rfl, rfl, rfl, rfl⟩ := H
    have hnb44 := NB192_175.out
    have hnc44 := NB175_192.out
    have hnb45 := NB192_176.out
    have hnc45 := NB176_192.out
    obtain ⟨hcz46_0, hcz46_1, hcz46_2, hcz46_3, hcz46_4, hfz46_0, hfz46_1, hfz46_2, hfz46_3, hfz46_4⟩ := bz5 BK192.out
    have hnb47 := NB176_175.out
    have hnc47 := NB175_176.out
    obtain ⟨hcz48_0, hcz48_1, hcz48_2, hcz48_3, hcz48_4, hfz48_0, hfz48_1, hfz48_2, hfz48_3, hfz48_4⟩ := bz5 BK176.out
    obtain ⟨Ao49, co49, eo49⟩ := Kd.N_slice HO_193003.out
    subst eo49
    go_wp2
    refine bodyPost_ret (results_cell_row rfl _ _ gb176 27 #[.slice Ao26 t177.length co26, .slice Ao25 t180.length co25, .slice Ao24 t183.length co24, .slice Ao49 x193003_1.length co49, .slice Ao22 t189.length co22] (0, 0) _ rfl (by (with_reducible repeat (first | refine blk_drewN ?_ _ | refine blk_drew ?_ | refine blk_alloc ?_ _)); refine blk_put (cs := #[.slice Ao26 t177.length co26, .slice Ao25 t180.length co25, .slice Ao24 t183.length co24, .slice Ao49 x193003_1.length co49, .slice none 0 0]) ?_ 4 _ rfl; (with_reducible repeat (first | refine blk_drewN ?_ _ | refine blk_drew ?_ | refine blk_alloc ?_ _)); refine blk_put (cs := #[.slice Ao26 t177.length co26, .slice Ao25 t180.length co25, .slice Ao24 t183.length co24, .slice none 0 0, .slice none 0 0]) ?_ 3 _ rfl; (with_reducible repeat (first | refine blk_drewN ?_ _ | refine blk_drew ?_ | refine blk_alloc ?_ _)); refine blk_put (cs := #[.slice Ao26 t177.length co26, .slice Ao25 t180.length co25, .slice none 0 0, .slice none 0 0, .slice none 0 0]) ?_ 2 _ rfl; (with_reducible repeat (first | refine blk_drewN ?_ _ | refine blk_drew ?_ | refine blk_alloc ?_ _)); refine blk_put (cs := #[.slice Ao26 t177.length co26, .slice none 0 0, .slice none 0 0, .slice none 0 0, .slice none 0 0]) ?_ 1 _ rfl; (with_reducible repeat (first | refine blk_drewN ?_ _ | refine blk_drew ?_ | refine blk_alloc ?_ _)); refine blk_put (cs := #[.slice none 0 0, .slice none 0 0, .slice none 0 0, .slice none 0 0, .slice none 0 0]) ?_ 0 _ rfl; (with_reducible repeat (first | refine blk_drewN ?_ _ | refine blk_drew ?_ | refine blk_alloc ?_ _)); exact BK176.out) Tryd.underlying27 rfl (by kernel_rfl)) rfl ?_
    exact ⟨_, _, _, _, _, by first | rfl | (simp [errW_none, errW_some] <;> rfl) | (simp [*, errW_none, errW_some] <;> rfl), by (with_reducible repeat (first | apply Kd.R_alloc | apply Kd.R_drewN | apply Kd.R_drew)); exact Kd.R_mono (Kd.R_far (p := ⟨gb176, 4, none⟩) (Kd.R_far (p := ⟨gb176, 3, none⟩) (Kd.R_far (p := ⟨gb176, 2, none⟩) (Kd.R_far (p := ⟨gb176, 1, none⟩) (Kd.R_far (p := ⟨gb176, 0, none⟩) (Kd.R_types HO_193000.out BK176.out (by decide)) (fun _ hk => hk.2) (.slice Ao26 t177.length co26)) (fun _ hk => hk.2) (.slice Ao25 t180.length co25)) (fun _ hk => hk.2) (.slice Ao24 t183.length co24)) (fun _ hk => hk.2) (.slice Ao49 x193003_1.length co49)) (fun _ hk => hk.2) (.slice Ao22 t189.length co22)) (fun _ hk => ⟨hk.1.1, hk.1.2⟩), by (with_reducible repeat (first | apply Kd.R_alloc | apply Kd.R_drewN | apply Kd.R_drew)); exact Kd.R_mono (Kd.R_far (p := ⟨gb176, 4, none⟩) (Kd.R_far (p := ⟨gb176, 3, none⟩) (Kd.R_far (p := ⟨gb176, 2, none⟩) (Kd.R_far (p := ⟨gb176, 1, none⟩) (Kd.R_far (p := ⟨gb176, 0, none⟩) (Kd.R_types HO_193001.out BK176.out (by decide)) (fun _ hk => hk.2) (.slice Ao26 t177.length co26)) (fun _ hk => hk.2) (.slice Ao25 t180.length co25)) (fun _ hk => hk.2) (.slice Ao24 t183.length co24)) (fun _ hk => hk.2) (.slice Ao49 x193003_1.length co49)) (fun _ hk => hk.2) (.slice Ao22 t189.length co22)) (fun _ hk => ⟨hk.1.1, hk.1.2⟩), by (with_reducible repeat (first | apply Kd.R_alloc | apply Kd.R_drewN | apply Kd.R_drew)); exact Kd.R_mono (Kd.R_far (p := ⟨gb176, 4, none⟩) (Kd.R_far (p := ⟨gb176, 3, none⟩) (Kd.R_far (p := ⟨gb176, 2, none⟩) (Kd.R_far (p := ⟨gb176, 1, none⟩) (Kd.R_far (p := ⟨gb176, 0, none⟩) (Kd.R_types HO_193002.out BK176.out (by decide)) (fun _ hk => hk.2) (.slice Ao26 t177.length co26)) (fun _ hk => hk.2) (.slice Ao25 t180.length co25)) (fun _ hk => hk.2) (.slice Ao24 t183.length co24)) (fun _ hk => hk.2) (.slice Ao49 x193003_1.length co49)) (fun _ hk => hk.2) (.slice Ao22 t189.length co22)) (fun _ hk => hk.1), by (with_reducible repeat (first | apply Kd.N_alloc | apply Kd.N_drewN | apply Kd.N_drew)); exact Kd.N_mono (Kd.N_far (p := ⟨gb176, 4, none⟩) (Kd.N_far (p := ⟨gb176, 3, none⟩) (Kd.N_far (p := ⟨gb176, 2, none⟩) (Kd.N_far (p := ⟨gb176, 1, none⟩) (Kd.N_far (p := ⟨gb176, 0, none⟩) (Kd.N_mono HO_193003.out (fun k_ hk => (⟨hk, hk.2.2.2.2.2.2.1⟩ : _ ∧ k_ ≠ gb176))) (fun _ hk => hk.2) (.slice Ao26 t177.length co26)) (fun _ hk => hk.2) (.slice Ao25 t180.length co25)) (fun _ hk => hk.2) (.slice Ao24 t183.length co24)) (fun _ hk => hk.2) (.slice Ao49 x193003_1.length co49)) (fun _ hk => hk.2) (.slice Ao22 t189.length co22)) (fun _ hk => ⟨hk.1.1, ⟨hk.1.2.1, ⟨hk.1.2.2.1, ⟨hk.1.2.2.2.1, hk.1.2.2.2.2.1⟩⟩⟩⟩), by (with_reducible repeat (first | apply Kd.R_alloc | apply Kd.R_drewN | apply Kd.R_drew)); exact Kd.R_mono (Kd.R_far (p := ⟨gb176, 4, none⟩) (Kd.R_far (p := ⟨gb176, 3, none⟩) (Kd.R_far (p := ⟨gb176, 2, none⟩) (Kd.R_far (p := ⟨gb176, 1, none⟩) (Kd.R_far (p := ⟨gb176, 0, none⟩) (Kd.R_types HO_193004.out BK176.out (by decide)) (fun _ hk => hk.2) (.slice Ao26 t177.length co26)) (fun _ hk => hk.2) (.slice Ao25 t180.length co25)) (fun _ hk => hk.2) (.slice Ao24 t183.length co24)) (fun _ hk => hk.2) (.slice Ao49 x193003_1.length co49)) (fun _ hk => hk.2) (.slice Ao22 t189.length co22)) (fun _ hk => hk.1), bl⟩
  rw [if_pos c35] at H
  have c35b0 : decide (x24_1 < (t186.length : Int)) = true := decide_eq_true c35
  clear c35
  by_cases c36 : 0 ≤ x24_1
  rotate_left
  · rw [if_neg c36] at H
    exact absurd H (by simp)
  rw [if_pos c36] at H
  have c36b0 : decide (0 ≤ x24_1) = true := decide_eq_true c36
  clear c36
  by_cases c37 : x24_1 < (x193003_1.length : Int)
  rotate_left
  · rw [if_neg c37] at H
    exact absurd H (by simp)
  rw [if_pos c37] at H
  have c37b0 : decide (x24_1 < (x193003_1.length : Int)) = true := decide_eq_true c37
  clear c37
  replace H := Option.bind_eq_some_iff.mp H
  obtain ⟨t194, A380, H⟩ := H
  replace H : (netlist_Copy.l0 k1 (t186.length : Int) (wrap64 (x24_1 + 1)) t177 t180 t183 (x193003_1.set (x24_1 : Int).toNat (⟨(rd_T51 x193003_1 x24_1).f0, (rd_T51 x193003_1 x24_1).f1, t194⟩ : S51)) t189) = some (r1, r2, r3, r4, r5) := H
  have A38 := Aside0.mk A380
  clear A380
  obtain ⟨y197, hy197⟩ : ∃ y_ : List (S51), y_ = (x193003_1.set (x24_1 : Int).toNat (⟨(rd_T51 x193003_1 x24_1).f0, (rd_T51 x193003_1 x24_1).f1, t194⟩ : S51)) := ⟨_, rfl⟩
  replace H : (netlist_Copy.l0 k1 (t186.length : Int) (wrap64 (x24_1 + 1)) t177 t180 t183 y197 t189) = some (r1, r2, r3, r4, r5) := by first | (rw [hy197]; with_reducible exact H) | (have H2_ := (Option.bind_some _ _).symm.trans H; rw [hy197]; with_reducible exact H2_) | (have H2_ := (Option.bind_some _ _).symm.trans H; with_reducible exact H2_) | with_reducible exact H | (rw [hy197]; exact H) | exact H
  have Ny197 := Aside0.mk hy197
  clear hy197
  have H' := Aside0.mk H
  clear H
  try go_wp2
  have n0_ := Aside0.mk (Kd.V_drew HO_176003.out)
  have n1_ := Aside0.mk (Kd.R_drew HO_193000.out)
  have n2_ := Aside0.mk (Kd.R_drew HO_193001.out)
  have n3_ := Aside0.mk (Kd.R_drew HO_193002.out)
  have n4_ := Aside0.mk (Kd.N_drew HO_193003.out)
  have n5_ := Aside0.mk (Kd.R_drew HO_193004.out)
  have n6_ := Aside0.mk (blk_drew BK175.out)
  have n7_ := Aside0.mk (blk_drew BK176.out)
  have n8_ := Aside0.mk (blk_drew BK192.out)
  have n9_ := Aside0.mk (below_drew1 HB.out)
  clear HO_176003
  clear HO_193000
  clear HO_193001
  clear HO_193002
  clear HO_193003
  clear HO_193004
  clear BK175
  clear BK176
  clear BK192
  clear HB
  have HO_176003 := n0_
  have HO_193000 := n1_
  have HO_193001 := n2_
  have HO_193002 := n3_
  have HO_193003 := n4_
  have HO_193004 := n5_
  have BK175 := n6_
  have BK176 := n7_
  have BK192 := n8_
  have HB := n9_
  clear n0_ n1_ n2_ n3_ n4_ n5_ n6_ n7_ n8_ n9_
  obtain ⟨Ao41, co41, eo41⟩ := Kd.N_slice HO_193003.out
  (first | subst eo41 | (injection eo41 with f1_ f2_ f3_; have f4_ := f1_.symm; have f5_ := f3_.symm; clear f1_ f2_ f3_; subst f4_; subst f5_))
  have p193 : 0 ≤ (x24_1 : Int) := of_decide_eq_true (by first | (with_reducible assumption) | assumption)
  have q193 : x24_1 < (x193003_1.length : Int) := of_decide_eq_true (by first | (with_reducible assumption) | assumption)
  obtain ⟨ad193, A193_2, c193_2, e193, hx193_0, hx193_1, hx193_2, hl193_2, hi193_2⟩ := at_T51 (Kd.N_reads' HO_193003.out).2.2 x24_1 p193 q193
  cases e193
  obtain ⟨ce193, hce193, hMe193, hcc193⟩ := Kd.N_get HO_193003.out z51 x24_1 p193 (by first | exact q193 | exact of_decide_eq_true (by first | (with_reducible assumption) | assumption) | (have e_ := (Kd.N_reads' HO_193003.out).1; omega))
  obtain ⟨ua193_2, uc193_2, rfl, ul193_2, ge193_2⟩ := k51_openF hMe193
  have hv193_2 := hcc193 2 _ rfl
  rw [add_field _ _ 2 (by omega)] at hv193_2
  replace hv193_2 := Option.some.inj (hv193_2.symm.trans hx193_2)
  injection hv193_2 with hva_ hvn_ hvc_
  rw [hva_] at ge193_2
  rw [hvc_] at ul193_2
  have HL193_2 := Aside0.mk (show Kd.V (Kd.int .i64) 3 _ w.heap.size _ _ ((rd_T51 x193003_1 x24_1).f2) from Kd.V_mk ul193_2 ge193_2)
  clear hva_ hvn_ hvc_ ge193_2 ul193_2
  clear hcc193 hce193
  have HR193_2 := Aside0.mk hi193_2
  have HC193_2 := Aside0.mk hl193_2
  clear hi193_2 hl193_2
  replace p193 := eq_true p193
  replace q193 := eq_true q193
  refine start_ (n := 13) (S := fun w' => w'.cell? ⟨gb192, 0, none⟩ = some (.slice Ao26 t177.length co26) ∧ w'.cell? ⟨gb192, 1, none⟩ = some (.slice Ao25 t180.length co25) ∧ w'.cell? ⟨gb192, 2, none⟩ = some (.slice Ao24 t183.length co24) ∧ w'.cell? ⟨gb192, 3, none⟩ = some (.slice (some ad193) x193003_1.length co41) ∧ w'.cell? ⟨gb192, 4, none⟩ = some (.slice Ao22 t189.length co22) ∧ w'.cell? (ad193.add ((x24_1).toNat * 3)) = some (.int .i64 ((rd_T51 x193003_1 x24_1).f0)) ∧ w'.cell? ⟨(ad193.add ((x24_1).toNat * 3)).block, (ad193.add ((x24_1).toNat * 3)).off + 1, none⟩ = some (.int .u64 ((rd_T51 x193003_1 x24_1).f1)) ∧ w'.cell? ⟨(ad193.add ((x24_1).toNat * 3)).block, (ad193.add ((x24_1).toNat * 3)).off + 2, none⟩ = some (.slice A193_2 ((rd_T51 x193003_1 x24_1).f2).length c193_2)) (ds := [12]) #[false, false, false, false, false, false, false, false, false, false, false, false, false] (by kernel_rfl) rfl rfl ⟨(blk_cell BK192.out 0).trans rfl, (blk_cell BK192.out 1).trans rfl, (blk_cell BK192.out 2).trans rfl, (blk_cell BK192.out 3).trans rfl, (blk_cell BK192.out 4).trans rfl, hx193_0, hx193_1, hx193_2⟩ (fun hHeld => ?_); refine with_tabW netlist_Copy.tab5 netlist_Copy.bits5 (fun HT_ HW_ => ?_)
  generalize wr.drew = w40 at HO_176003 HO_193000 HO_193001 HO_193002 HO_193003 HO_193004 BK175 BK176 BK192 HB HL193_2 HR193_2 hx193_0 hx193_1 hx193_2 hHeld ⊢
  refine pure_ (i := 0) (N := some 27) (v := ?_) (a' := ?_) #[true, false, false, false, false, false, false, false, false, false, false, false, false] rfl rfl (any_of HT_.out (by kernel_rfl)) (fun _ _ _ h => h) (Or.inl ⟨by rfl, ?_⟩) ?_ ?_
  rotate_left
  · intro w'
    go_simp
    with_reducible rfl
  rotate_left
  · simp only [Act.put, List.setIfInBounds_toArray, List.set_cons_zero, List.set_cons_succ, i64_w, i32_w]
    rfl
  refine pure_ (i := 2) (N := some 29) (v := ?_) (a' := ?_) #[true, false, true, false, false, false, false, false, false, false, false, false, false] rfl rfl (any_of HT_.out (by kernel_rfl)) (fun _ _ _ h => h) (Or.inl ⟨by rfl, ?_⟩) ?_ ?_
  rotate_left
  · intro w'
    go_simp
    with_reducible rfl
  rotate_left
  · simp only [Act.put, List.setIfInBounds_toArray, List.set_cons_zero, List.set_cons_succ, i64_w, i32_w]
    rfl
  refine pure_ (i := 3) (N := some 30) (v := ?_) (a' := ?_) #[true, false, true, true, false, false, false, false, false, false, false, false, false] rfl rfl (any_of HT_.out (by kernel_rfl)) (fun _ _ _ h => h) (Or.inl ⟨by rfl, ?_⟩) ?_ ?_
  rotate_left
  · intro w'
    go_simp
    with_reducible rfl
  rotate_left
  · simp only [Act.put, List.setIfInBounds_toArray, List.set_cons_zero, List.set_cons_succ, i64_w, i32_w]
    rfl
  refine pure_ (i := 5) (N := some 32) (v := ?_) (a' := ?_) #[true, false, true, true, false, true, false, false, false, false, false, false, false] rfl rfl (any_of HT_.out (by kernel_rfl)) (fun _ _ _ h => h) (Or.inl ⟨by rfl, ?_⟩) ?_ ?_
  rotate_left
  · intro w'
    go_simp
    with_reducible rfl
  rotate_left
  · simp only [Act.put, List.setIfInBounds_toArray, List.set_cons_zero, List.set_cons_succ, i64_w, i32_w]
    rfl
  refine take_ (i := 1) (N := some 28) (v := ?_) (a' := ?_) #[true, true, true, true, false, true, false, false, false, false, false, false, false] rfl rfl (take_ofW HT_.out HW_.out (by kernel_rfl)) (fun _ _ _ h => h) (Or.inl ⟨by rfl, ?_⟩) hHeld ?_ ?_
  rotate_left
  · rintro w' ⟨s0, s1, s2, s3, s4, s5, s6, s7⟩
    go_simp
    with_reducible rfl
  rotate_left
  · simp only [Act.put, List.setIfInBounds_toArray, List.set_cons_zero, List.set_cons_succ, i64_w, i32_w]
    rfl
  refine take_ (i := 4) (N := some 31) (v := ?_) (a' := ?_) #[true, true, true, true, true, true, false, false, false, false, false, false, false] rfl rfl (take_ofW HT_.out HW_.out (by kernel_rfl)) (fun _ _ _ h => h) (Or.inl ⟨by rfl, ?_⟩) hHeld ?_ ?_
  rotate_left
  · rintro w' ⟨s0, s1, s2, s3, s4, s5, s6, s7⟩
    go_simp
    with_reducible rfl
  rotate_left
  · simp only [Act.put, List.setIfInBounds_toArray, List.set_cons_zero, List.set_cons_succ, i64_w, i32_w]
    rfl
  refine pure_ (i := 6) (N := some 33) (v := ?_) (a' := ?_) #[true, true, true, true, true, true, true, false, false, false, false, false, false] rfl rfl (any_of HT_.out (by kernel_rfl)) (fun _ _ _ h => h) (Or.inl ⟨by rfl, ?_⟩) ?_ ?_
  rotate_left
  · intro w'
    go_simp
    with_reducible rfl
  rotate_left
  · simp only [Act.put, List.setIfInBounds_toArray, List.set_cons_zero, List.set_cons_succ, i64_w, i32_w]
    rfl
  refine pure_ (i := 7) (N := some 34) (v := ?_) (a' := ?_) #[true, true, true, true, true, true, true, true, false, false, false, false, false] rfl rfl (any_of HT_.out (by kernel_rfl)) (fun _ _ _ h => h) (Or.inl ⟨by rfl, ?_⟩) ?_ ?_
  rotate_left
  · intro w'
    go_simp
    with_reducible rfl
  rotate_left
  · simp only [Act.put, List.setIfInBounds_toArray, List.set_cons_zero, List.set_cons_succ, i64_w, i32_w]
    rfl
  refine take_ (i := 8) (N := some 35) (v := ?_) (a' := ?_) #[true, true, true, true, true, true, true, true, true, false, false, false, false] rfl rfl (take_ofW HT_.out HW_.out (by kernel_rfl)) (fun _ _ _ h => h) (Or.inl ⟨by rfl, ?_⟩) hHeld ?_ ?_
  rotate_left
  · rintro w' ⟨s0, s1, s2, s3, s4, s5, s6, s7⟩
    go_simp
    with_reducible rfl
  rotate_left
  · simp only [Act.put, List.setIfInBounds_toArray, List.set_cons_zero, List.set_cons_succ, i64_w, i32_w]
    rfl
  refine one_ (i := 9) (N := some 36) #[true, true, true, true, true, true, true, true, true, true, false, false, false] rfl rfl (one_of HT_.out (by kernel_rfl)) (by decide) (fun K hK => ?_)
  refine goes_ Tryd.func31 (by kernel_rfl) rfl #[.slice A193_2 ((rd_T51 x193003_1 x24_1).f2).length c193_2] (by rfl) rfl rfl (by (try simp only [List.map_toArray, List.map_cons, List.map_nil]); first | done | rfl | (simp only [List.length_drop, List.length_take]; rfl)) ?_
  with_reducible refine (slices_Clone_int_int.calls _ _ ((rd_T51 x193003_1 x24_1).f2) t194 _ ?side1 ?side2 A38.out).mono ?_
  (case side1 => repeat (first | exact (by repeat (first | (with_reducible exact HR193_2.out) | (with_reducible refine Kd.C_alloc ?_ _) | (with_reducible refine Kd.C_drewN ?_ _) | (with_reducible refine Kd.C_drew ?_) | exact HR193_2.out)) | (with_reducible refine Kd.C_alloc ?_ _) | (with_reducible refine Kd.C_drewN ?_ _) | (with_reducible refine Kd.C_drew ?_)))
  (case side2 => exact HC193_2.out)
  rintro e w42 ⟨v195_, rfl, ho0, hb⟩
  obtain ⟨A195, c195, rfl⟩ := Kd.R_slice ho0
  have HS5_ := (hb.cell (World.block_lt_of_cell? _ _ (hHeld.2.2.2.2.2.1))).trans (hHeld.2.2.2.2.2.1)
  have HS6_ := (hb.cell (World.block_lt_of_cell? _ _ (hHeld.2.2.2.2.2.2.1))).trans (hHeld.2.2.2.2.2.2.1)
  have HS7_ := (hb.cell (World.block_lt_of_cell? _ _ (hHeld.2.2.2.2.2.2.2))).trans (hHeld.2.2.2.2.2.2.2)
  refine ⟨_, rfl, ?_⟩
  have n0_ := Aside0.mk (Kd.V_elder' (by (with_reducible repeat (first | apply Kd.V_alloc | apply Kd.V_drewN | apply Kd.V_drew)); exact HO_176003.out) (Kd.R_base ho0) hb)
  have n1_ := Aside0.mk (rb HO_193000.out hb)
  have n2_ := Aside0.mk (rb HO_193001.out hb)
  have n3_ := Aside0.mk (rb HO_193002.out hb)
  have n4_ := Aside0.mk (Kd.N_elder' (by (with_reducible repeat (first | apply Kd.N_alloc | apply Kd.N_drewN | apply Kd.N_drew)); exact HO_193003.out) (Kd.R_base ho0) hb)
  have n5_ := Aside0.mk (Kd.R_elder' (by (with_reducible repeat (first | apply Kd.R_alloc | apply Kd.R_drewN | apply Kd.R_drew)); exact HO_193004.out) (Kd.R_base ho0) hb)
  have n6_ := Aside0.mk (Kd.V_elder' (by (with_reducible repeat (first | apply Kd.V_alloc | apply Kd.V_drewN | apply Kd.V_drew)); exact HL193_2.out) (Kd.R_base ho0) hb)
  have n7_ := Aside0.mk (Kd.R_lower (Kd.R_new' (Kd.R_newM (M := fun k_ => (w.heap.size ≤ k_)) ho0 (below_size bl) (fun k_ h_ => h_)) (Kd.R_lt (by (with_reducible repeat (first | apply Kd.R_alloc | apply Kd.R_drewN | apply Kd.R_drew)); exact HO_193004.out))) (below_size bl))
  have n8_ := Aside0.mk (bb BK175.out hb)
  have n9_ := Aside0.mk (bb BK176.out hb)
  have n10_ := Aside0.mk (bb BK192.out hb)
  have n11_ := Aside0.mk (Kd.C_below (by repeat (first | (with_reducible exact HR193_2.out) | (with_reducible refine Kd.C_alloc ?_ _) | (with_reducible refine Kd.C_drewN ?_ _) | (with_reducible refine Kd.C_drew ?_) | exact HR193_2.out)) hb)
  have n12_ := Aside0.mk (below_step bl hb)
  clear HO_176003
  clear HO_193000
  clear HO_193001
  clear HO_193002
  clear HO_193003
  clear HO_193004
  clear HL193_2
  clear BK175
  clear BK176
  clear BK192
  clear HR193_2
  clear HB
  have HO_176003 := n0_
  have HO_193000 := n1_
  have HO_193001 := n2_
  have HO_193002 := n3_
  have HO_193003 := n4_
  have HO_193004 := n5_
  have HL193_2 := n6_
  have HO196 := n7_
  have BK175 := n8_
  have BK176 := n9_
  have BK192 := n10_
  have HR193_2 := n11_
  have HB := n12_
  clear n0_ n1_ n2_ n3_ n4_ n5_ n6_ n7_ n8_ n9_ n10_ n11_ n12_
  (try clear hb)
  (try clear hb2)
  (try clear hk)
  (try clear hi)
  (try clear ho0)
  have p39 : 0 ≤ (x24_1 : Int) := of_decide_eq_true (by first | (with_reducible assumption) | assumption)
  have q39 : (x24_1 : Int) < ((x193003_1.length : Int) : Int) := of_decide_eq_true (by first | (with_reducible assumption) | assumption)
  obtain ⟨go39, co39, eo39, gb39, gl39, cl39, HG39⟩ := Kd.N_form HO_193003.out (by omega)
  (first | cases eo39 | (injection eo39 with ea_ en_ ec_; (first | subst ea_ | (injection ea_ with ea_; subst ea_)); subst ec_; clear en_))
  have GB39 := Aside0.mk gb39
  have GG39 := Aside0.mk HG39
  clear gb39 gl39 HG39
  (first | simp only [add_plain] at hx193_0 | skip)
  (first | simp only [add_plain] at hx193_1 | skip)
  (first | simp only [add_plain] at hx193_2 | skip)
  obtain ⟨ce39, hcl39, hM39, hcc39, hfr39⟩ := Kd.N_elem HO_193003.out z51 (x24_1 : Int) p39 q39
  obtain ⟨ua39_2, uc39_2, rfl, ul39_2, ge39_2⟩ := k51_openF hM39
  have hx39_0 : World.cell? _ ⟨go39, (x24_1 : Int).toNat * 3, none⟩ = some (.int .i64 ((rd_T51 x193003_1 x24_1).f0)) := hcc39 0 _ rfl
  have hx39_1 : World.cell? _ ⟨go39, (x24_1 : Int).toNat * 3 + 1, none⟩ = some (.int .u64 ((rd_T51 x193003_1 x24_1).f1)) := hcc39 1 _ rfl
  have hx39_2 : World.cell? _ ⟨go39, (x24_1 : Int).toNat * 3 + 2, none⟩ = some (.slice ua39_2 ((rd_T51 x193003_1 x24_1).f2).length uc39_2) := hcc39 2 _ rfl
  have hf39_0 : World.frozen? _ ⟨go39, (x24_1 : Int).toNat * 3, none⟩ = false := hfr39 0
  have hf39_1 : World.frozen? _ ⟨go39, (x24_1 : Int).toNat * 3 + 1, none⟩ = false := hfr39 1
  have hf39_2 : World.frozen? _ ⟨go39, (x24_1 : Int).toNat * 3 + 2, none⟩ = false := hfr39 2
  clear hcl39 hcc39 hfr39 hM39
  replace p39 := eq_true p39
  replace q39 := eq_true q39
  have HX43 := Aside0.mk (show Kd.N k51 51 _ w.heap.size (fun k_ => (P0_3_ k_ ∨ w.heap.size ≤ k_) ∧ some k_ ≠ (.slice Ao26 t177.length co26 : Value).ownBlock ∧ some k_ ≠ (.slice Ao25 t180.length co25 : Value).ownBlock ∧ some k_ ≠ (.slice Ao24 t183.length co24 : Value).ownBlock ∧ some k_ ≠ (.slice Ao22 t189.length co22 : Value).ownBlock ∧ some k_ ≠ (.slice A195 t194.length c195 : Value).ownBlock ∧ k_ ≠ gb175 ∧ k_ ≠ gb176 ∧ k_ ≠ gb192) (.slice (some ⟨go39, 0, none⟩) x193003_1.length co41) x193003_1 from (Kd.N_mono (HO_193003.out) (fun k_ hk => ⟨hk.1.1, ⟨hk.1.2.1, ⟨hk.1.2.2.1, ⟨hk.1.2.2.2.1, ⟨hk.1.2.2.2.2.1, ⟨hk.2, ⟨hk.1.2.2.2.2.2.1, ⟨hk.1.2.2.2.2.2.2.1, hk.1.2.2.2.2.2.2.2⟩⟩⟩⟩⟩⟩⟩⟩)))
  replace HX43 := Aside0.mk (show Kd.N k51 51 _ w.heap.size (fun k_ => (P0_3_ k_ ∨ w.heap.size ≤ k_) ∧ some k_ ≠ (.slice Ao26 t177.length co26 : Value).ownBlock ∧ some k_ ≠ (.slice Ao25 t180.length co25 : Value).ownBlock ∧ some k_ ≠ (.slice Ao24 t183.length co24 : Value).ownBlock ∧ some k_ ≠ (.slice Ao22 t189.length co22 : Value).ownBlock ∧ k_ ≠ gb175 ∧ k_ ≠ gb176 ∧ k_ ≠ gb192) (.slice (some ⟨go39, 0, none⟩) x193003_1.length co41) x193003_1 from Kd.N_mono HX43.out (fun k_ hk => ⟨hk.1, ⟨hk.2.1, ⟨hk.2.2.1, ⟨hk.2.2.2.1, ⟨hk.2.2.2.2.1, ⟨hk.2.2.2.2.2.2.1, ⟨hk.2.2.2.2.2.2.2.1, hk.2.2.2.2.2.2.2.2⟩⟩⟩⟩⟩⟩⟩))
  obtain ⟨ce43, hcl43, hM43, hcc43, hfr43⟩ := Kd.N_elem HX43.out z51 (x24_1 : Int) (of_decide_eq_true (by first | (with_reducible assumption) | assumption)) (by have h_ : (x24_1 : Int) < ((x193003_1.length : Int) : Int) := of_decide_eq_true (by first | (with_reducible assumption) | assumption); first | exact h_ | (have e_ := (Kd.N_reads' HO_193003.out).1; omega) | simpa using h_)
  obtain ⟨ua43_2, uc43_2, rfl, ul43_2, ge43_2⟩ := k51_openF hM43
  have HP43 := (Kd.N_seg HX43.out (x24_1 : Int) (of_decide_eq_true (by first | (with_reducible assumption) | assumption)) (by have h_ : (x24_1 : Int) < ((x193003_1.length : Int) : Int) := of_decide_eq_true (by first | (with_reducible assumption) | assumption); first | exact h_ | (have e_ := (Kd.N_reads' HO_193003.out).1; omega) | simpa using h_) (seg := [.slice A195 t194.length c195]) (j := 2) hcl43 hcc43 (show 3 ≤ 3 from by decide) (x' := (⟨(rd_T51 x193003_1 x24_1).f0, (rd_T51 x193003_1 x24_1).f1, t194⟩ : S51)) (k51_mkF _ _ (⟨(rd_T51 x193003_1 x24_1).f0, (rd_T51 x193003_1 x24_1).f1, t194⟩ : S51) (Kd.R_reads' (Kd.R_mono (ok' := (fun k_ => ((fun k_ => (P0_3_ k_ ∨ w.heap.size ≤ k_) ∧ some k_ ≠ (.slice Ao26 t177.length co26 : Value).ownBlock ∧ some k_ ≠ (.slice Ao25 t180.length co25 : Value).ownBlock ∧ some k_ ≠ (.slice Ao24 t183.length co24 : Value).ownBlock ∧ some k_ ≠ (.slice Ao22 t189.length co22 : Value).ownBlock ∧ k_ ≠ gb175 ∧ k_ ≠ gb176 ∧ k_ ≠ gb192)) k_ ∧ k_ ≠ go39)) (Kd.R_types (Kd.R_types (Kd.R_types (Kd.R_apart' (Kd.R_apart' (Kd.R_apart' (Kd.R_apart' (HO196.out) (Kd.R_typed HO_193000.out) (by decide)) (Kd.R_typed HO_193001.out) (by decide)) (Kd.R_typed HO_193002.out) (by decide)) (Kd.N_typed HO_193003.out) (by decide)) BK175.out (by decide)) BK176.out (by decide)) BK192.out (by decide)) (fun k_ hk => ⟨⟨(.inr (hk.1.1.1.1.1.1.1.1.1)), ⟨hk.1.1.1.1.1.1.2, ⟨hk.1.1.1.1.1.2, ⟨hk.1.1.1.1.2, ⟨hk.1.1.1.1.1.1.1.2, ⟨hk.1.1.2, ⟨hk.1.2, hk.2⟩⟩⟩⟩⟩⟩⟩, fun e_ => (hk.1.1.1.2) (by rw [e_]; rfl)⟩))).2.1 (Kd.R_F (Kd.R_mono (ok' := (fun k_ => ((fun k_ => (P0_3_ k_ ∨ w.heap.size ≤ k_) ∧ some k_ ≠ (.slice Ao26 t177.length co26 : Value).ownBlock ∧ some k_ ≠ (.slice Ao25 t180.length co25 : Value).ownBlock ∧ some k_ ≠ (.slice Ao24 t183.length co24 : Value).ownBlock ∧ some k_ ≠ (.slice Ao22 t189.length co22 : Value).ownBlock ∧ k_ ≠ gb175 ∧ k_ ≠ gb176 ∧ k_ ≠ gb192)) k_ ∧ k_ ≠ go39)) (Kd.R_types (Kd.R_types (Kd.R_types (Kd.R_apart' (Kd.R_apart' (Kd.R_apart' (Kd.R_apart' (HO196.out) (Kd.R_typed HO_193000.out) (by decide)) (Kd.R_typed HO_193001.out) (by decide)) (Kd.R_typed HO_193002.out) (by decide)) (Kd.N_typed HO_193003.out) (by decide)) BK175.out (by decide)) BK176.out (by decide)) BK192.out (by decide)) (fun k_ hk => ⟨⟨(.inr (hk.1.1.1.1.1.1.1.1.1)), ⟨hk.1.1.1.1.1.1.2, ⟨hk.1.1.1.1.1.2, ⟨hk.1.1.1.1.2, ⟨hk.1.1.1.1.1.1.1.2, ⟨hk.1.1.2, ⟨hk.1.2, hk.2⟩⟩⟩⟩⟩⟩⟩, fun e_ => (hk.1.1.1.2) (by rw [e_]; rfl)⟩)))) (fun _ hk => hk)).1
  rw [← Ny197.out] at HP43
  have HQ43 := Aside0.mk HP43
  clear hcl43 hcc43 hfr43 hM43 HP43
  refine hK.out _ _ ⟨(blk_cell BK192.out 0).trans rfl, (blk_cell BK192.out 1).trans rfl, (blk_cell BK192.out 2).trans rfl, (blk_cell BK192.out 3).trans rfl, (blk_cell BK192.out 4).trans rfl, HS5_, HS6_, HS7_⟩ (fun hHeld => ?_)
  clear hK K
  refine norm_ (a' := ?_) ?_ ?_
  rotate_left
  · show Act.put _ (some 36) _ = _
    simp only [Act.put, List.setIfInBounds_toArray, List.set_cons_zero, List.set_cons_succ, i64_w, i32_w]
    rfl
  refine pure_ (i := 10) (N := some 37) (v := ?_) (a' := ?_) #[true, true, true, true, true, true, true, true, true, true, true, false, false] rfl rfl (any_of HT_.out (by kernel_rfl)) (fun _ _ _ h => h) (Or.inl ⟨by rfl, ?_⟩) ?_ ?_
  rotate_left
  · intro w'
    go_simp
    with_reducible rfl
  rotate_left
  · simp only [Act.put, List.setIfInBounds_toArray, List.set_cons_zero, List.set_cons_succ, i64_w, i32_w]
    rfl
  refine pure_ (i := 11) (N := some 38) (v := ?_) (a' := ?_) #[true, true, true, true, true, true, true, true, true, true, true, true, false] rfl rfl (any_of HT_.out (by kernel_rfl)) (fun _ _ _ h => h) (Or.inl ⟨by rfl, ?_⟩) ?_ ?_
  rotate_left
  · intro w'
    go_simp
    with_reducible rfl
  rotate_left
  · simp only [Act.put, List.setIfInBounds_toArray, List.set_cons_zero, List.set_cons_succ, i64_w, i32_w]
    rfl
  refine last_ (i := 12) (N := none) #[true, true, true, true, true, true, true, true, true, true, true, true, true] rfl rfl (one_of HT_.out (by kernel_rfl)) (by decide) (fun K hK => ?_)
  refine skip_ (w1 := ?_) (by rfl) rfl ?_ ?_
  rotate_left
  · go_simp
    rfl
  refine hK.out _ _ ?_
  clear hK K
  refine done_ (done_of HT_.out (by kernel_rfl)) ?_
  try go_wp2
  go_roundg k1
  case measure => have := HK1.out; omega
  case rel => exact ⟨(wrap64 (x24_1 + 1)), (x176003_1), (y197), (u176003), (.slice (some ⟨go39, 0, none⟩) x193003_1.length co41), (by first | rfl | (simp; done) | (simp [*]; done)), H', ⟨by have := HK1.out; omega⟩, ⟨by (with_reducible repeat (first | apply Kd.V_alloc | apply Kd.V_drewN | apply Kd.V_drew)); exact Kd.V_mono (Kd.V_far (p := ⟨go39, (x24_1 : Int).toNat * 3 + 2, none⟩) (Kd.V_mono HO_176003.out (fun k_ hk => (⟨hk, fun e_ => hk.1.2.2.2.2.1 (by rw [e_]; rfl)⟩ : _ ∧ k_ ≠ go39))) (fun _ hk => hk.2) (.slice A195 t194.length c195)) (fun _ hk => ⟨hk.1.1.1, ⟨hk.1.1.2.1, ⟨hk.1.1.2.2.1, ⟨hk.1.1.2.2.2.1, ⟨hk.1.1.2.2.2.2.1, ⟨hk.1.1.2.2.2.2.2.1, ⟨hk.1.1.2.2.2.2.2.2.1, ⟨hk.1.1.2.2.2.2.2.2.2.1, hk.1.1.2.2.2.2.2.2.2.2⟩⟩⟩⟩⟩⟩⟩⟩)⟩, ⟨by (with_reducible repeat (first | apply Kd.R_alloc | apply Kd.R_drewN | apply Kd.R_drew)); exact Kd.R_mono (Kd.R_far (p := ⟨go39, (x24_1 : Int).toNat * 3 + 2, none⟩) (Kd.R_types HO_193000.out GG39.out (by decide)) (fun _ hk => hk.2) (.slice A195 t194.length c195)) (fun _ hk => ⟨hk.1.1, hk.1.2⟩)⟩, ⟨by (with_reducible repeat (first | apply Kd.R_alloc | apply Kd.R_drewN | apply Kd.R_drew)); exact Kd.R_mono (Kd.R_far (p := ⟨go39, (x24_1 : Int).toNat * 3 + 2, none⟩) (Kd.R_types HO_193001.out GG39.out (by decide)) (fun _ hk => hk.2) (.slice A195 t194.length c195)) (fun _ hk => ⟨hk.1.1, hk.1.2⟩)⟩, ⟨by (with_reducible repeat (first | apply Kd.R_alloc | apply Kd.R_drewN | apply Kd.R_drew)); exact Kd.R_mono (Kd.R_far (p := ⟨go39, (x24_1 : Int).toNat * 3 + 2, none⟩) (Kd.R_types HO_193002.out GG39.out (by decide)) (fun _ hk => hk.2) (.slice A195 t194.length c195)) (fun _ hk => hk.1)⟩, ⟨by (with_reducible repeat (first | apply Kd.N_alloc | apply Kd.N_drewN | apply Kd.N_drew)); exact HQ43.out⟩, ⟨by (with_reducible repeat (first | apply Kd.R_alloc | apply Kd.R_drewN | apply Kd.R_drew)); exact Kd.R_mono (Kd.R_far (p := ⟨go39, (x24_1 : Int).toNat * 3 + 2, none⟩) (Kd.R_types HO_193004.out GG39.out (by decide)) (fun _ hk => hk.2) (.slice A195 t194.length c195)) (fun _ hk => hk.1.1)⟩, ⟨by (with_reducible repeat (first | refine blk_drewN ?_ _ | refine blk_drew ?_ | refine blk_alloc ?_ _)); refine blk_far ?_ (by have h_ := Kd.N_away HO_193003.out (fun _ hk => hk.1.2.2.2.2.2.1); intro e_; exact h_ (by rw [e_]; rfl)) _; (with_reducible repeat (first | refine blk_drewN ?_ _ | refine blk_drew ?_ | refine blk_alloc ?_ _)); exact BK175.out⟩, ⟨by (with_reducible repeat (first | refine blk_drewN ?_ _ | refine blk_drew ?_ | refine blk_alloc ?_ _)); refine blk_far ?_ (by have h_ := Kd.N_away HO_193003.out (fun _ hk => hk.1.2.2.2.2.2.2.1); intro e_; exact h_ (by rw [e_]; rfl)) _; (with_reducible repeat (first | refine blk_drewN ?_ _ | refine blk_drew ?_ | refine blk_alloc ?_ _)); exact BK176.out⟩, ⟨by (with_reducible repeat (first | refine blk_drewN ?_ _ | refine blk_drew ?_ | refine blk_alloc ?_ _)); refine blk_far ?_ (by have h_ := Kd.N_away HO_193003.out (fun _ hk => hk.1.2.2.2.2.2.2.2); intro e_; exact h_ (by rw [e_]; rfl)) _; (with_reducible repeat (first | refine blk_drewN ?_ _ | refine blk_drew ?_ | refine blk_alloc ?_ _)); exact BK192.out⟩, ⟨by repeat (first | (with_reducible first | exact HB.out | apply below_alloc | apply pw_below_drewN | apply below_drew1 | refine below_set ?_ GB39.out | refine below_set ?_ GE175.out | refine below_set ?_ GE176.out | refine below_set ?_ GE192.out) | exact HB.out)⟩⟩

end Go.Proofs.YtpkpmdmmnhmnlaaDoor.PT
