-- PRINTED by print.py (a twelfth state) out of the translation. Not trusted: Lean checks it.
import Derived.Maps.Views
import Derived.Maps.Own
import Derived.Test.YthjdjjnpdeacgaaDoorPTx0
import Derived.Test.YthjdjjnpdeacgaaDoorPTx3
namespace Go.Proofs.YthjdjjnpdeacgaaDoor.PT
open Go.RowKit Go.Proofs.YthjdjjnpdeacgaaDoorW.PrintWords Go.Proofs.YthjdjjnpdeacgaaDoorW.PrintLast Go.Proofs.YthjdjjnpdeacgaaDoorW.PrintMore
attribute [local go_sem] max2_int min2_int max_two min_two max_three min_three max_four min_four   -- for this text's walks alone
set_option linter.unusedVariables false
set_option linter.unusedSimpArgs false

-- the contract of function 43 (maskwright/graph.Names): written by hand
/-! ### graph_Names: function 43 -/
-- IMPORT Derived.Maps.Own
-- IMPORT Derived.Maps.Views
def graph_Names.tw (l : List ByteArray) (i : Int) : Bool := (l.take i.toNat).any (fun d => d.data.toList == (rdOf ByteArray.empty l i).data.toList)
def graph_Names.l0 : Nat → List ByteArray → Int → Option Int
  | 0, _, _ => none
  | k + 1, l, i => if i < (l.length : Int) then ((graph_Name.f (rdOf ByteArray.empty l i)).bind fun e => if e = true then (if graph_Names.tw l i = true then some 6 else graph_Names.l0 k l (i + 1)) else some 9) else some 0
def graph_Names.f (k : Nat) (l0 : List ByteArray) : Option Int := graph_Names.l0 k l0 0
theorem graph_Names.mono_l : ∀ k l i, LeO (graph_Names.l0 k l i) (graph_Names.l0 (k + 1) l i)
  | 0, _, _ => fun r h => by simp [graph_Names.l0] at h
  | k + 1, l, i => by
    unfold graph_Names.l0
    repeat' first
      | (with_reducible exact graph_Names.mono_l k _ _)
      | (with_reducible exact LeO.refl _)
      | (with_reducible refine LeO.ite ?_ ?_)
      | (with_reducible refine LeO.bind ?_ (fun _ => ?_))
theorem graph_Names.mono : ∀ l k, LeO (graph_Names.f k l) (graph_Names.f (k + 1) l) := fun l k => graph_Names.mono_l k l 0
theorem graph_Names.law : Go.Maps.Keyed Tryd.prog 9 := Go.Maps.string_keyed Tryd.underlying9
theorem graph_Names.zero (w : World) : (zeroValue 3).run Tryd.prog w = .ok (.int .i64 0) w := by kernel_rfl
set_option maxHeartbeats 4000000 in
set_option maxRecDepth 100000 in
theorem graph_Names.calls (k : Nat) (A0 : Option Addr) (c0 : Nat) (l0 : List ByteArray) (r : Int) (w : World) (hr0 : Kd.C Kd.string w A0 l0.length l0) (hc0 : l0.length ≤ c0) (h : graph_Names.f k l0 = some r) :
    Calls Tryd.prog 43 #[.slice A0 l0.length c0] w fun e w' => e = .returned (.int .i64 r) ∧ Below w.heap.size w w' := by
  have h63 : l0.length ≤ 9223372036854775807 := hr0.2.1
  have hmm := @run_makeMap Tryd.prog
  have HR := Aside0.mk hr0
  have HH := Aside0.mk h
  have HB0 := Aside0.mk (Below.refl w.heap.size w)
  clear hr0 hc0 h
  go_enter Tryd.func43, Tryd.ntmps43
  go_wp2
  go_loopw [9] (fun v wr => ∃ (i : Int) (kq n : Nat) (D : DataW Unit), 0 ≤ i ∧ i ≤ l0.length ∧ v = .int .i64 i ∧ Aside0 (graph_Names.l0 kq l0 i = some r) ∧ Aside0 ((n : Int) = i ∧ wr.ownsMap Tryd.prog 9 (plainElem Tryd.prog 3) w.heap.size n D ∧ Go.Maps.IsMap D) ∧ Aside0 (∀ s : ByteArray, D.atKey (.string s.data.toList) (.lit (.int .i64 0)) = .lit (.int .i64 (if (l0.take i.toNat).any (fun d => d.data.toList == s.data.toList) then 1 else 0))) ∧ Aside0 (Below w.heap.size w wr)) (fun v _ => (l0.length - (intOf v).toNat))
  case atStart => exact ⟨0, k, 0, .map [], by omega, by omega, rfl, HH, ⟨rfl, World.ownsMap_made _ _ _ _, ⟨[], rfl⟩⟩, ⟨fun s => by simp [DataW.atKey]⟩, ⟨below_alloc HB0.out _⟩⟩
  case round =>
    clear HH HB0
    obtain ⟨i, kq, n, D, h0, h1, rfl, HA, HO, HK, HB⟩ := hrel
    cases kq with
    | zero => exact absurd HA.out (by simp [graph_Names.l0])
    | succ k1 =>
      have H := HA.out
      clear HA
      simp only [graph_Names.l0] at H
      by_cases hlt : i < (l0.length : Int)
      · rw [if_pos hlt] at H
        obtain ⟨ad, rfl, d0⟩ := Kd.at_string (Kd.C_below HR.out HB.out) i h0 hlt
        have e1 : decide (i < (l0.length : Int)) = true := decide_eq_true hlt
        have HT := Aside0.mk (show l0.take (i + 1).toNat = l0.take i.toNat ++ [rdOf ByteArray.empty l0 i] by
          rw [show (i + 1).toNat = i.toNat + 1 by omega, List.take_succ_eq_append_getElem (by omega)]
          unfold rdOf
          rw [List.getD_eq_getElem?_getD, List.getElem?_eq_getElem (by omega)]
          rfl)
        have HW := Aside0.mk (show graph_Names.tw l0 i = (l0.take i.toNat).any (fun d => d.data.toList == (rdOf ByteArray.empty l0 i).data.toList) from rfl)
        generalize rdOf ByteArray.empty l0 i = s at d0 H HT HW
        cases hb : graph_Name.b s with
        | false =>
          have HF := Aside0.mk (show (9 : Int) = r by
            unfold graph_Name.f at H
            rw [hb] at H
            exact Option.some.inj H)
          have HC := Aside0.mk (show graph_Name.f s = some false by unfold graph_Name.f; rw [hb])
          clear hb H
          go_wp2_with fail
          refine (graph_Name.calls s false _ HC.out).mono ?_
          rintro e w1 ⟨rfl, hw1⟩
          have HB1 := Aside0.mk (below_step HB.out hw1)
          clear hw1 HB d0
          go_wp2
          go_ret
          exact ⟨by rw [← HF.out]; rfl, HB1.out⟩
        | true =>
          have HF := Aside0.mk (show (if graph_Names.tw l0 i = true then some 6 else graph_Names.l0 k1 l0 (i + 1)) = some r by
            unfold graph_Name.f at H
            rw [hb] at H
            exact H)
          have HC := Aside0.mk (show graph_Name.f s = some true by unfold graph_Name.f; rw [hb])
          have hsz : s.size ≤ 128 := by
            unfold graph_Name.b at hb
            simp only [Bool.and_eq_true, decide_eq_true_eq] at hb
            exact hb.1.2
          have hkey : keyOf Tryd.prog 9 (.string s) = some (.string s.data.toList) := Go.WideMaps.keyOf_string_mk Tryd.underlying9 (by unfold maxLen; omega)
          clear hb H
          go_wp2_with fail
          refine (graph_Name.calls s true _ HC.out).mono ?_
          rintro e w1 ⟨rfl, hw1⟩
          have HB1 := Aside0.mk (below_step HB.out hw1)
          have HO1 := Aside0.mk (show w1.ownsMap Tryd.prog 9 (plainElem (H := Unit) Tryd.prog 3) w.heap.size n D from by
            obtain ⟨es, ck, hb, F, hs, hD⟩ := HO.out.2.1
            exact ⟨es, ck, blk_below hb hw1, F, hs, hD⟩)
          obtain ⟨c, hrun, hat, _⟩ := HO1.out.lookup_int graph_Names.law Tryd.underlying113 Tryd.underlying3 (graph_Names.zero _) hkey
          rw [HK.out s, ← HW.out] at hat
          clear hw1 HB d0
          have hn : n < 9223372036854775807 := by have := HO.out.1; omega
          cases htw : graph_Names.tw l0 i with
          | true =>
            have hF := Aside0.mk (Option.some.inj ((if_pos htw).symm.trans HF.out))
            rw [htw] at hat
            obtain rfl : c = 1 := by simpa using hat.symm
            clear hat htw HF
            go_wp2_with (first | (at_mapUpdate; refine wpList_mapUpdate_own _ rfl _ _ _ 113 rfl 9 3 graph_Names.law Tryd.underlying113 _ w.heap.size n _ rfl HO1.out (by unfold maxLen; omega) _ _ _ rfl rfl hkey _ [] (plainElem_int Tryd.underlying3 (by decide)) ?_))
            intro w2 hown2 hgrow2
            obtain ⟨c, hrun2, hat2, _⟩ := hown2.lookup_int graph_Names.law Tryd.underlying113 Tryd.underlying3 (graph_Names.zero _) hkey
            rw [Go.Maps.atKey_put_same HO.out.2.2 (graph_Names.law.key hkey)] at hat2
            obtain rfl : c = 2 := by simpa using hat2.symm
            have HB2 := Aside0.mk (HB1.out.grown hgrow2 HB1.out.size (fun j hj => by cases hj; exact Nat.le_refl _))
            clear hat2 hown2 hgrow2 hrun HB1
            go_wp2
            go_ret
            exact ⟨by rw [← hF.out]; rfl, HB2.out⟩
          | false =>
            have hF := Aside0.mk ((if_neg (by rw [htw]; simp)).symm.trans HF.out)
            rw [htw] at hat
            obtain rfl : c = 0 := by simpa using hat.symm
            have HTW := Aside0.mk (HW.out.symm.trans htw)
            clear hat htw HF HW
            go_wp2_with (first | (at_mapUpdate; refine wpList_mapUpdate_own _ rfl _ _ _ 113 rfl 9 3 graph_Names.law Tryd.underlying113 _ w.heap.size n _ rfl HO1.out (by unfold maxLen; omega) _ _ _ rfl rfl hkey _ [] (plainElem_int Tryd.underlying3 (by decide)) ?_))
            intro w2 hown2 hgrow2
            obtain ⟨c, hrun2, hat2, _⟩ := hown2.lookup_int graph_Names.law Tryd.underlying113 Tryd.underlying3 (graph_Names.zero _) hkey
            have hput := Go.Maps.atKey_put_same HO.out.2.2 (graph_Names.law.key hkey)
            rw [hput] at hat2
            obtain rfl : c = 1 := by simpa using hat2.symm
            have HB2 := Aside0.mk (HB1.out.grown hgrow2 HB1.out.size (fun j hj => by cases hj; exact Nat.le_refl _))
            have HO2 := Aside0.mk (show ((n + 1 : Nat) : Int) = i + 1 ∧ w2.ownsMap Tryd.prog 9 (plainElem (H := Unit) Tryd.prog 3) w.heap.size (n + 1) (D.put (.string s.data.toList) (.lit (.int .i64 1))) ∧ Go.Maps.IsMap (D.put (.string s.data.toList) (.lit (.int .i64 1))) from ⟨by have := HO.out.1; omega, hown2, HO.out.2.2.put _ _⟩)
            have HK2 := Aside0.mk (show ∀ s' : ByteArray, (D.put (.string s.data.toList) (.lit (.int .i64 1))).atKey (.string s'.data.toList) (.lit (.int .i64 0)) = .lit (.int .i64 (if (l0.take (i + 1).toNat).any (fun d => d.data.toList == s'.data.toList) then 1 else 0)) from fun s' => by
              rw [HT.out, List.any_append]
              by_cases e : s'.data.toList = s.data.toList
              · rw [e, hput]
                simp
              · rw [Go.Maps.atKey_put_other (fun h => e (by injection h)), HK.out s']
                have : ¬ s.data = s'.data := fun h => e (by rw [h])
                simp [this])
            clear hat2 hown2 hgrow2 hrun HB1 hput HK HO HO1 HTW HT
            go_wp2
            go_roundw
            case rel => exact ⟨i + 1, k1, n + 1, _, by omega, by omega, by go_num, hF, HO2, HK2, HB2⟩
            case measure => simp [intOf]; omega
      · rw [if_neg hlt] at H
        have hF := Aside0.mk (Option.some.inj H)
        have e1 : decide (i < (l0.length : Int)) = false := decide_eq_false hlt
        clear hlt H
        go_wp2
        go_ret
        exact ⟨by rw [← hF.out]; rfl, HB.out⟩

end Go.Proofs.YthjdjjnpdeacgaaDoor.PT
