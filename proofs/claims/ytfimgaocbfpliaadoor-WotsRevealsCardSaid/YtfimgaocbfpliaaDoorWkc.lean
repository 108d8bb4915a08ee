/- What the functions of the one-time signatures compute, walked; the condition is that the tables read as they are laid. -/
import Derived.Test.YtfimgaocbfpliaaDoorWka
import Derived.Test.YtfimgaocbfpliaaDoorWkb
import Derived.Test.YtfimgaocbfpliaaDoorFwb
import Derived.Test.YtfimgaocbfpliaaDoorPla
import Derived.Test.YtfimgaocbfpliaaDoorProg
import Derived.KernelRfl
import Derived.Test.YtfimgaocbfpliaaDoorFwc
section
open Go.RowKit
set_option maxRecDepth 100000
set_option linter.unusedVariables false
set_option linter.unusedSimpArgs false
namespace Go.Fw
open Go.Proofs
theorem ro_nil : ∀ j s, lr [] j = some s → s.wr = false := fun _ _ h => by cases h
theorem ro_cons {L : ML} {i : Nat} {v : Value} {sz n : Nat} {xs : List Value} (h : ∀ j s, lr L j = some s → s.wr = false) : ∀ j s, lr ((i, .ro v sz n xs) :: L) j = some s → s.wr = false := by
  intro j s hj
  rw [lr_cons] at hj
  split at hj
  · cases hj; rfl
  · exact h j s hj
theorem derive_spec (k l : List UInt8) (hk : k.length ≤ 1048576) (hl : l.length ≤ 1048576) (v : Value) (ms : List (List UInt8)) (hms : Pl.few ms) (w : World) (hG : Gl 1 (Pl.K.map u32) w) (hr : Reads w v 1 ms.length (ms.map str)) :
    Calls Tryd.prog 45 #[str k, str l, v] w fun e w' => e = .returned (str (Pl.derive k l ms)) ∧ Below w.heap.size w w' := by
  
  refine enterA (vs := [_, _, _]) Tryd.func45 rfl 27 rfl [(901, .ro (gv 1 64) 1 64 (Pl.K.map u32)), (100, .ro v 1 ms.length (ms.map str))] ((MemOk.start1 100 hr).addRo 901 hG (ro_cons ro_nil)) ?_
  refine JQ.seq ?_
  refine JQ.region ?_
  refine JQ.v (JV.assign rfl) rfl ?_
  refine JQ.nil ?_
  refine JQ.n_then ?_
  refine JQ.seq ?_
  refine JQ.region ?_
  refine JQ.v (JV.move rfl) rfl ?_
  refine JQ.x (JO.callRow 1 Tryd.call41 (evs_cons rfl evs_nil) (fun w hw => bytes_spec l (by omega) w)) rfl ?_
  intro i1_1
  refine JQ.v (JV.assign rfl) rfl ?_
  refine JQ.nil ?_
  refine JQ.n_then ?_
  refine JQ.seq ?_
  refine JQ.seq ?_
  refine JQ.region ?_
  refine JQ.v (JV.move rfl) rfl ?_
  refine JQ.v (JV.lenRo 100 rfl rfl Tryd.runUnderlying41) rfl ?_
  refine JQ.v (JV.move rfl) rfl ?_
  refine JQ.nil ?_
  refine JQ.n_then ?_
  refine JQ.block ?_
  refine JQ.loopI (ι := Nat × Value) (fun i => [(0, str k), (7, i.2), (12, v), (13, .int .i64 ((ms.length : Nat) : Int)), (14, .int .i64 ((i.1 : Nat) : Int))]) (fun i => [(1, .row i.2 5 1 (Pl.kin l (ms.take i.1)).length ((Pl.kin l (ms.take i.1)).map b8)), (100, .ro v 1 ms.length (ms.map str)), (901, .ro (gv 1 64) 1 64 (Pl.K.map u32))]) (fun i => i.1 ≤ ms.length) (fun i => ms.length - i.1) (0, _) (Nat.zero_le _) (subk_cons rfl (subk_cons rfl (subk_cons rfl (subk_cons rfl (subk_cons rfl subk_nil))))) (subr_cons (by rw [show Pl.kin l (ms.take 0) = Pl.encB l from Pl.kin_nil l]; rfl) (subr_cons rfl (subr_cons rfl subr_nil))) ?_
  intro i hi
  have h1 := Pl.kin_few hl (hms.take i.1)
  have h2 := Pl.encB_few hms i.1
  have h3 := hms.1
  refine JQ.seq ?_
  refine JQ.region ?_
  refine JQ.v (JV.lssN rfl rfl) rfl ?_
  refine JQ.nil ?_
  refine JQ.n_then ?_
  refine JQ.seq ?_
  refine JQ.condP rfl (fun h15 => ?_) (fun h15 => ?_)
  · refine JQ.skip ?_
    refine JQ.n_then ?_
    refine JQ.seq ?_
    refine JQ.block ?_
    refine JQ.seq ?_
    refine JQ.region ?_
    refine JQ.v (JV.idxRo1 100 rfl rfl rfl Tryd.runUnderlying41 Tryd.sizeOf9 (by decide) (by omega)) rfl ?_
    refine JQ.v (JV.loadR 100 rfl rfl Tryd.isAgg9 (getS _ _ (by omega))) rfl ?_
    refine JQ.v (JV.assign rfl) rfl ?_
    refine JQ.nil ?_
    refine JQ.n_then ?_
    refine JQ.region ?_
    refine JQ.v (JV.move rfl) rfl ?_
    refine JQ.v (JV.move rfl) rfl ?_
    refine JQ.x (JO.callRow 2 Tryd.call41 (evs_cons rfl evs_nil) (fun w hw => bytes_spec _ (Nat.le_trans (hms.get i.1) (by decide)) w)) rfl ?_
    intro i5_2
    refine JQ.x (JO.append 1 elem5 rfl rfl rfl (fun w hw => Src.rd Tryd.underlying45 (hw.readsRow (id := 2) rfl)) (allB _) (by omega) (by omega)) rfl ?_
    intro i5_3
    rw [← List.map_append, ← List.length_append, ← Pl.kin_succ l ms i.1 (by omega)]
    refine JQ.v (JV.assign rfl) rfl ?_
    refine JQ.nil ?_
    refine JQ.n_block ?_
    refine JQ.n_then ?_
    refine JQ.region ?_
    refine JQ.v (JV.addN (b := 1) rfl rfl (by omega)) rfl ?_
    refine JQ.v (JV.move rfl) rfl ?_
    refine JQ.nil ?_
    refine JQ.n_then ?_
    exact JQ.nextI (i.1 + 1, i5_3) (by show i.1 + 1 ≤ ms.length; omega) (by show ms.length - (i.1 + 1) < ms.length - i.1; omega) (subk_cons rfl (subk_cons rfl (subk_cons rfl (subk_cons rfl (subk_cons rfl subk_nil))))) (subr_cons rfl (subr_cons rfl (subr_cons rfl subr_nil)))
  · refine JQ.exit ?_
    refine JQ.e_then ?_
    refine JQ.e_then ?_
    refine JQ.e_here ?_
    refine JQ.n_then ?_
    refine JQ.seq ?_
    rw [show i.1 = ms.length from by omega, List.take_of_length_le (Nat.le_refl _)]
    refine JQ.region ?_
    refine JQ.v (JV.move rfl) rfl ?_
    refine JQ.v (JV.move rfl) rfl ?_
    refine JQ.v (JV.bytesStrW 1 (l := Pl.kin l ms) Tryd.runUnderlying45 Tryd.runUnderlying5 Tryd.runUnderlying9 rfl rfl) rfl ?_
    refine JQ.v (JV.callM Tryd.call51 (evs_cons rfl (evs_cons rfl evs_nil)) (fun w hw => mac_spec k (Pl.kin l ms) (by omega) (by have := Pl.kin_few hl hms; omega) w (hw.reads (id := 901) rfl))) rfl ?_
    refine JQ.v (JV.assign rfl) rfl ?_
    refine JQ.nil ?_
    refine JQ.n_then ?_
    refine JQ.ret ?_
    refine JQ.done1 Tryd.results45 rfl ?_
    exact fun w hw => ⟨rfl, hw.below⟩

theorem rkin_spec (l : List UInt8) (hl : l.length ≤ 1048576) (v : Value) (ms : List (List UInt8)) (hms : Pl.few ms) (w : World) (hr : Reads w v 1 ms.length (ms.map str)) :
    Calls Tryd.prog 53 #[str l, v] w fun e w' => e = .returned (str (Pl.kin l ms)) ∧ Below w.heap.size w w' := by
  
  refine enterA (vs := [_, _]) Tryd.func53 rfl 26 rfl [(100, .ro v 1 ms.length (ms.map str))] (MemOk.start1 100 hr) ?_
  refine JQ.seq ?_
  refine JQ.region ?_
  refine JQ.v (JV.assign rfl) rfl ?_
  refine JQ.nil ?_
  refine JQ.n_then ?_
  refine JQ.seq ?_
  refine JQ.region ?_
  refine JQ.x (JO.buildSlice 1 (us := []) (e := 5) evp_nil (fun w => by kernel_rfl)) rfl ?_
  intro i1_0
  refine JQ.rowOf (n := 0) (esz := 1) 1 rfl rfl (by omega) ?_
  refine JQ.v (JV.move rfl) rfl ?_
  refine JQ.x (JO.callRow 2 Tryd.call48 (evs_cons rfl evs_nil) (fun w hw => rbytes_spec l (by omega) w)) rfl ?_
  intro i1_2
  refine JQ.x (JO.append 1 elem5 rfl rfl rfl (fun w hw => Src.rd Tryd.underlying45 (hw.readsRow (id := 2) rfl)) (allB _) (by have := Pl.encB_len l; have := Pl.nb_le l.length; omega) (by have := Pl.encB_len l; have := Pl.nb_le l.length; omega)) rfl ?_
  intro i1_3
  rw [List.nil_append, Nat.zero_add]
  refine JQ.v (JV.assign rfl) rfl ?_
  refine JQ.nil ?_
  refine JQ.n_then ?_
  refine JQ.seq ?_
  refine JQ.seq ?_
  refine JQ.region ?_
  refine JQ.v (JV.assign rfl) rfl ?_
  refine JQ.nil ?_
  refine JQ.n_then ?_
  refine JQ.block ?_
  refine JQ.loopI (ι := Nat × Value) (fun i => [(1, v), (5, i.2), (6, .int .i64 ((i.1 : Nat) : Int))]) (fun i => [(1, .row i.2 5 1 (Pl.kin l (ms.take i.1)).length ((Pl.kin l (ms.take i.1)).map b8)), (100, .ro v 1 ms.length (ms.map str))]) (fun i => i.1 ≤ ms.length) (fun i => ms.length - i.1) (0, _) (Nat.zero_le _) (subk_cons rfl (subk_cons rfl (subk_cons rfl subk_nil))) (subr_cons (by rw [show Pl.kin l (ms.take 0) = Pl.encB l from Pl.kin_nil l]; rfl) (subr_cons rfl subr_nil)) ?_
  intro i hi
  have h1 := Pl.kin_few hl (hms.take i.1)
  have h2 := Pl.encB_few hms i.1
  have h3 := hms.1
  refine JQ.seq ?_
  refine JQ.seq ?_
  refine JQ.region ?_
  refine JQ.v (JV.move rfl) rfl ?_
  refine JQ.v (JV.move rfl) rfl ?_
  refine JQ.v (JV.lenRo 100 rfl rfl Tryd.runUnderlying41) rfl ?_
  refine JQ.v (JV.lssN rfl rfl) rfl ?_
  refine JQ.nil ?_
  refine JQ.n_then ?_
  refine JQ.condP rfl (fun h14 => ?_) (fun h14 => ?_)
  · refine JQ.skip ?_
    refine JQ.n_then ?_
    refine JQ.seq ?_
    refine JQ.block ?_
    refine JQ.region ?_
    refine JQ.v (JV.move rfl) rfl ?_
    refine JQ.v (JV.move rfl) rfl ?_
    refine JQ.v (JV.move rfl) rfl ?_
    refine JQ.v (JV.idxRo1 100 rfl rfl rfl Tryd.runUnderlying41 Tryd.sizeOf9 (by decide) (by omega)) rfl ?_
    refine JQ.v (JV.loadR 100 rfl rfl Tryd.isAgg9 (getS _ _ (by omega))) rfl ?_
    refine JQ.x (JO.callRow 3 Tryd.call48 (evs_cons rfl evs_nil) (fun w hw => rbytes_spec _ (Nat.le_trans (hms.get i.1) (by decide)) w)) rfl ?_
    intro i5_5
    refine JQ.x (JO.append 1 elem5 rfl rfl rfl (fun w hw => Src.rd Tryd.underlying45 (hw.readsRow (id := 3) rfl)) (allB _) (by omega) (by omega)) rfl ?_
    intro i5_6
    rw [← List.map_append, ← List.length_append, ← Pl.kin_succ l ms i.1 (by omega)]
    refine JQ.v (JV.assign rfl) rfl ?_
    refine JQ.nil ?_
    refine JQ.n_block ?_
    refine JQ.n_then ?_
    refine JQ.region ?_
    refine JQ.v (JV.move rfl) rfl ?_
    refine JQ.v (JV.addN (b := 1) rfl rfl (by omega)) rfl ?_
    refine JQ.v (JV.assign rfl) rfl ?_
    refine JQ.nil ?_
    refine JQ.n_then ?_
    exact JQ.nextI (i.1 + 1, i5_6) (by show i.1 + 1 ≤ ms.length; omega) (by show ms.length - (i.1 + 1) < ms.length - i.1; omega) (subk_cons rfl (subk_cons rfl (subk_cons rfl subk_nil))) (subr_cons rfl (subr_cons rfl subr_nil))
  · refine JQ.exit ?_
    refine JQ.e_then ?_
    refine JQ.e_then ?_
    refine JQ.e_here ?_
    refine JQ.n_then ?_
    refine JQ.seq ?_
    rw [show i.1 = ms.length from by omega, List.take_of_length_le (Nat.le_refl _)]
    refine JQ.region ?_
    refine JQ.v (JV.move rfl) rfl ?_
    refine JQ.v (JV.bytesStrW 1 (l := Pl.kin l ms) Tryd.runUnderlying45 Tryd.runUnderlying5 Tryd.runUnderlying9 rfl rfl) rfl ?_
    refine JQ.v (JV.assign rfl) rfl ?_
    refine JQ.nil ?_
    refine JQ.n_then ?_
    refine JQ.ret ?_
    refine JQ.done1 Tryd.results53 rfl ?_
    exact fun w hw => ⟨rfl, hw.below⟩

theorem rderive_spec (k l : List UInt8) (hk : k.length ≤ 1048576) (hl : l.length ≤ 1048576) (v : Value) (ms : List (List UInt8)) (hms : Pl.few ms) (w : World) (hR : Gl 0 (Pl.K.map u32) w) (hr : Reads w v 1 ms.length (ms.map str)) :
    Calls Tryd.prog 46 #[str k, str l, v] w fun e w' => e = .returned (str (Pl.derive k l ms)) ∧ Below w.heap.size w w' := by
  
  refine enterA (vs := [_, _, _]) Tryd.func46 rfl 12 rfl [(900, .ro (gv 0 64) 1 64 (Pl.K.map u32)), (100, .ro v 1 ms.length (ms.map str))] ((MemOk.start1 100 hr).addRo 900 hR (ro_cons ro_nil)) ?_
  refine JQ.seq ?_
  refine JQ.region ?_
  refine JQ.v (JV.assign rfl) rfl ?_
  refine JQ.nil ?_
  refine JQ.n_then ?_
  refine JQ.seq ?_
  refine JQ.region ?_
  refine JQ.v (JV.move rfl) rfl ?_
  refine JQ.v (JV.move rfl) rfl ?_
  refine JQ.v (JV.move rfl) rfl ?_
  refine JQ.v (JV.callM Tryd.call53 (evs_cons rfl (evs_cons rfl evs_nil)) (fun w hw => rkin_spec l hl v ms hms w (hw.reads (id := 100) rfl))) rfl ?_
  refine JQ.v (JV.callM Tryd.call52 (evs_cons rfl (evs_cons rfl evs_nil)) (fun w hw => rmac_spec k (Pl.kin l ms) (by omega) (by have := Pl.kin_few hl hms; omega) w (hw.reads (id := 900) rfl))) rfl ?_
  refine JQ.v (JV.assign rfl) rfl ?_
  refine JQ.nil ?_
  refine JQ.n_then ?_
  refine JQ.ret ?_
  refine JQ.done1 Tryd.results46 rfl ?_
  exact fun w hw => ⟨rfl, hw.below⟩
end Go.Fw
end
section
open Go.RowKit
set_option maxRecDepth 100000
set_option linter.unusedVariables false
set_option linter.unusedSimpArgs false
namespace Go.Fw
open Go.Proofs
theorem short_setG (l : List UInt8) (i : Nat) (hl : 16 ≤ l.length) (h : i < 16) : (l.take i ++ List.replicate (16 - i) 0).set i (l.getD i 0) = l.take (i + 1) ++ List.replicate (16 - (i + 1)) 0 := by
  rw [List.set_append_right _ _ (by simp; omega)]
  have e1 : i - (l.take i).length = 0 := by simp; omega
  rw [e1, show 16 - i = (16 - (i + 1)) + 1 from by omega, List.replicate_succ, List.set_cons_zero, take_snoc l i (by omega)]
  simp
def i64 (n : Nat) : Value := .int .i64 (n : Int)
theorem elem3 : Elem Tryd.prog 29 3 1 8 := ⟨Tryd.underlying29, ⟨Tryd.t3, _, by kernel_rfl, rfl, rfl, rfl, rfl⟩, by decide⟩
theorem within_pure (n m : Int) :
    Pure Tryd.prog 33 #[.int .i64 n, .int .i64 m] (.bool (decide (0 ≤ n ∧ n ≤ m))) := by
  intro w
  refine enterA (vs := [_, _]) Tryd.func33 rfl 12 rfl [] (MemOk.start w) ?_
  refine JQ.seq ?_
  refine JQ.region ?_
  refine JQ.v (JV.assign rfl) rfl ?_
  refine JQ.nil ?_
  refine JQ.n_then ?_
  refine JQ.seq ?_
  refine JQ.region ?_
  refine JQ.v (JV.move rfl) rfl ?_
  by_cases hs1_1 : (0 : Int) ≤ n
  · refine JQ.v (JV.tt (JV.geq rfl rfl) hs1_1) rfl ?_
    refine JQ.v (JV.move rfl) rfl ?_
    refine JQ.vg rfl rfl (JV.move rfl) rfl ?_
    refine JQ.vg rfl rfl (JV.move rfl) rfl ?_
    refine JQ.vg rfl rfl (JV.leq rfl rfl) rfl ?_
    refine JQ.v (JV.pickT rfl rfl) rfl ?_
    refine JQ.v (JV.assign rfl) rfl ?_
    refine JQ.nil ?_
    refine JQ.n_then ?_
    refine JQ.ret ?_
    refine JQ.done1 Tryd.results33 rfl ?_
    exact fun w hw => ⟨by congr 2; rw [Bool.eq_iff_iff]; simp only [decide_eq_true_eq]; omega, hw.below⟩
  · refine JQ.v (JV.ff (JV.geq rfl rfl) hs1_1) rfl ?_
    refine JQ.v (JV.move rfl) rfl ?_
    refine JQ.g0 rfl rfl rfl rfl ?_
    refine JQ.g0 rfl rfl rfl rfl ?_
    refine JQ.g0 rfl rfl rfl rfl ?_
    refine JQ.v (JV.pickF rfl rfl) rfl ?_
    refine JQ.v (JV.assign rfl) rfl ?_
    refine JQ.nil ?_
    refine JQ.n_then ?_
    refine JQ.ret ?_
    refine JQ.done1 Tryd.results33 rfl ?_
    exact fun w hw => ⟨by rw [decide_eq_false (fun h => hs1_1 h.1)], hw.below⟩

theorem adv_spec (c f t : Int) (v : List UInt8) (hv : v.length = 16) (w : World) (hG : Gl 1 (Pl.K.map u32) w) :
    Calls Tryd.prog 21 #[.int .i64 c, .int .i64 f, .int .i64 t, .agg (v.map b8).toArray] w fun e w' => e = .returned (.agg ((Pl.adv c f t v).map b8).toArray) ∧ Below w.heap.size w w' := by
  
  refine enterA (vs := [_, _, _, _]) Tryd.func21 rfl 43 rfl [(901, .ro (gv 1 64) 1 64 (Pl.K.map u32))] (MemOk.start1 901 hG) ?_
  refine JQ.seq ?_
  refine JQ.region ?_
  refine JQ.x (JO.box 1 rfl rfl) rfl ?_
  intro i0_0
  refine JQ.x (JO.alloc 2 (zs := ((List.replicate 16 0).map b8)) Tryd.zeroValue23 rfl) rfl ?_
  intro i0_1
  refine JQ.nil ?_
  refine JQ.n_then ?_
  refine JQ.seq ?_
  refine JQ.seq ?_
  refine JQ.region ?_
  refine JQ.v (JV.move rfl) rfl ?_
  by_cases hs1_1 : (0 : Int) ≤ c ∧ c ≤ 34
  · refine JQ.v (JV.tt (JV.call Tryd.call33 (evs_cons rfl (evs_cons rfl evs_nil)) (within_pure c 34)) hs1_1) rfl ?_
    refine JQ.v (JV.notB rfl) rfl ?_
    refine JQ.v (JV.move rfl) rfl ?_
    refine JQ.vg rfl rfl (JV.move rfl) rfl ?_
    by_cases hs1_5 : (0 : Int) ≤ f ∧ f ≤ 15
    · refine JQ.vg rfl rfl (JV.tt (JV.call Tryd.call33 (evs_cons rfl (evs_cons rfl evs_nil)) (within_pure f 15)) hs1_5) rfl ?_
      refine JQ.vg rfl rfl (JV.notB rfl) rfl ?_
      refine JQ.v (JV.pickF rfl rfl) rfl ?_
      refine JQ.v (JV.move rfl) rfl ?_
      refine JQ.vg rfl rfl (JV.move rfl) rfl ?_
      by_cases hs1_10 : (0 : Int) ≤ t ∧ t ≤ 15
      · refine JQ.vg rfl rfl (JV.tt (JV.call Tryd.call33 (evs_cons rfl (evs_cons rfl evs_nil)) (within_pure t 15)) hs1_10) rfl ?_
        refine JQ.vg rfl rfl (JV.notB rfl) rfl ?_
        refine JQ.v (JV.pickF rfl rfl) rfl ?_
        refine JQ.nil ?_
        refine JQ.n_then ?_
        refine JQ.condF rfl ?_
        refine JQ.skip ?_
        refine JQ.n_then ?_
        refine JQ.seq ?_
        obtain ⟨c, rfl⟩ : ∃ n : Nat, c = (n : Int) := ⟨c.toNat, by omega⟩
        obtain ⟨f, rfl⟩ : ∃ n : Nat, f = (n : Int) := ⟨f.toNat, by omega⟩
        obtain ⟨t, rfl⟩ : ∃ n : Nat, t = (n : Int) := ⟨t.toNat, by omega⟩
        have hin : Pl.inR (c : Int) (f : Int) (t : Int) := ⟨by omega, by omega, by omega⟩
        refine JQ.region ?_
        refine JQ.v (JV.move rfl) rfl ?_
        refine JQ.x (JO.callRow 3 Tryd.call34 (evs_cons rfl evs_nil) (fun w hw => int_spec c (by omega) w)) rfl ?_
        intro i3_1
        refine JQ.v (JV.bytesStrW 3 (l := Pl.enc c) Tryd.runUnderlying45 Tryd.runUnderlying5 Tryd.runUnderlying9 rfl rfl) rfl ?_
        refine JQ.v (JV.assign rfl) rfl ?_
        refine JQ.nil ?_
        refine JQ.n_then ?_
        refine JQ.seq ?_
        refine JQ.seq ?_
        refine JQ.region ?_
        refine JQ.v (JV.move rfl) rfl ?_
        refine JQ.v (JV.assign rfl) rfl ?_
        refine JQ.nil ?_
        refine JQ.n_then ?_
        refine JQ.block ?_
        refine JQ.loopI (ι := Nat) (fun i => [(2, .int .i64 ((t : Nat) : Int)), (7, .pointer (some ⟨i0_0, 0, none⟩)), (8, .pointer (some ⟨i0_1, 0, none⟩)), (9, str (Pl.enc c)), (10, .int .i64 ((i : Nat) : Int))]) (fun i => [(1, .cells i0_0 ((Pl.advN c f v (i - f)).map b8) 23 (0, 0)), (2, .cells i0_1 ((List.replicate 16 0).map b8) 23 (0, 0)), (901, .ro (gv 1 64) 1 64 (Pl.K.map u32))]) (fun i => f ≤ i ∧ (i ≤ t ∨ i = f)) (fun i => t - i) f ⟨Nat.le_refl _, .inr rfl⟩ (subk_cons rfl (subk_cons rfl (subk_cons rfl (subk_cons rfl (subk_cons rfl subk_nil))))) (subr_cons (by rw [Nat.sub_self]; rfl) (subr_cons rfl (subr_cons rfl subr_nil))) ?_
        intro i hi
        have hfi := hi.1
        refine JQ.seq ?_
        refine JQ.seq ?_
        refine JQ.region ?_
        refine JQ.v (JV.move rfl) rfl ?_
        refine JQ.v (JV.move rfl) rfl ?_
        refine JQ.v (JV.lssN rfl rfl) rfl ?_
        refine JQ.nil ?_
        refine JQ.n_then ?_
        refine JQ.condP rfl (fun h31 => ?_) (fun h31 => ?_)
        · refine JQ.skip ?_
          refine JQ.n_then ?_
          refine JQ.seq ?_
          refine JQ.block ?_
          refine JQ.any [_, _, _, _, _, _, _, _, _] [fun _ => [], fun _ => [], _, fun _ => [], fun _ => [], fun _ => [], _, fun _ => [], _] [⟨[], [], [], []⟩, ⟨[], [], [], []⟩, ⟨[], [4], [], [1]⟩, ⟨[4], [], [2], [1, 2]⟩, ⟨[], [], [], []⟩, ⟨[1], [], [], [4]⟩, ⟨[], [5], [2], [0, 1, 2, 3, 4, 5]⟩, ⟨[5, 901], [], [2, 6], [0, 1, 2, 3, 4, 5, 6]⟩, ⟨[], [1], [2, 6], [0, 1, 2, 3, 4, 5, 6, 7]⟩] Tryd.mixed rfl (by kernel_rfl) ⟨Ob.v rfl (fun _ _ h => by cases h) (fun _ _ _ => rfl) (fun e L' hL => JV.move rfl),
                        Ob.v rfl (fun _ _ h => by cases h) (fun _ _ _ => rfl) (fun e L' hL => JV.move rfl),
                        Ob.val 4 rfl (fun _ _ h => by cases h) (fun _ _ _ => ⟨rfl, rfl⟩) (by decide) (fun e L' hL => JO.callRow 4 Tryd.call34 (evs_cons rfl evs_nil) (fun w hw => int_spec i (by omega) w)),
                        Ob.v rfl (fun _ _ h => by cases h) (fun e e' he => by simp only [he 2 (by decide)]) (fun e L' hL => JV.bytesStrW 4 (l := Pl.enc i) Tryd.runUnderlying45 Tryd.runUnderlying5 Tryd.runUnderlying9 rfl ((hL 4 (by decide)).trans rfl)),
                        Ob.v rfl (fun _ _ h => by cases h) (fun _ _ _ => rfl) (fun e L' hL => JV.sliceArr rfl Tryd.runUnderlying23 Tryd.sizeOf5 rfl rfl (by omega) (by omega) (by omega)),
                        Ob.v rfl (fun _ _ h => by cases h) (fun _ _ _ => rfl) (fun e L' hL => JV.bytesStrA 1 (l := (Pl.advN c f v (i - f))) Tryd.runUnderlying45 Tryd.runUnderlying5 Tryd.runUnderlying9 rfl ((hL 1 (by decide)).trans rfl) (takeB _ _ (Pl.advN_len c f hv _)) (Pl.advN_len c f hv _) (by decide)),
                        Ob.nb 5 rfl (fun _ _ h => by cases h) (fun e e' he => by constructor <;> (funext z; simp only [he 2 (by decide)])) (by decide) (fun e L' hL => JO.buildSlice 5 (us := [str (Pl.enc c), str (Pl.enc i), str (Pl.advN c f v (i - f))]) (e := 9) (evp_cons rfl (evp_cons rfl (evp_cons rfl evp_nil))) (fun w => by kernel_rfl)),
                        Ob.v rfl (fun _ _ h => by cases h) (fun e e' he => by simp only [he 2 (by decide), he 6 (by decide)]) (fun e L' hL => JV.callM Tryd.call25 (evs_cons rfl (evs_cons rfl evs_nil)) (fun w hw => of_spec 4 4 (by decide) _ [Pl.enc c, Pl.enc i, (Pl.advN c f v (i - f))] (Pl.few3 (Pl.enc_few c) (Pl.enc_few i) (by rw [Pl.advN_len c f hv]; decide)) w (hw.reads (id := 901) ((hL 901 (by decide)).trans rfl)) (reads_cells (hw.blk (id := 5) ((hL 5 (by decide)).trans rfl)) rfl rfl (by simp)))),
                        Ob.s 1 rfl (fun _ _ h => by cases h) (fun e e' he => by simp only [he 2 (by decide), he 6 (by decide)]) (fun e L' hL => JO.storeV 1 rfl ((hL 1 (by decide)).trans rfl) rfl (us := (Pl.chainH c i (Pl.advN c f v (i - f))).map b8) (allB _) Tryd.sizeOf23 (by simp [Pl.chainH_len]) (by simp [Pl.advN_len c f hv])), trivial⟩ (fun ev7 => ?_)
          simp only [endF, endL, putF, List.nil_append, List.cons_append]
          refine JQ.n_block ?_
          refine JQ.n_then ?_
          refine JQ.region ?_
          refine JQ.v (JV.move rfl) rfl ?_
          refine JQ.v (JV.addN (b := 1) rfl rfl (by omega)) rfl ?_
          refine JQ.v (JV.assign rfl) rfl ?_
          refine JQ.nil ?_
          refine JQ.n_then ?_
          exact JQ.nextI (i + 1) (by omega) (by omega) (subk_cons rfl (subk_cons rfl (subk_cons rfl (subk_cons rfl (subk_cons rfl subk_nil))))) (subr_cons (by rw [show i + 1 - f = (i - f) + 1 from by omega, Pl.advN, show f + (i - f) = i from by omega]; rfl) (subr_cons rfl (subr_cons rfl subr_nil)))
        · refine JQ.exit ?_
          refine JQ.e_then ?_
          refine JQ.e_then ?_
          refine JQ.e_here ?_
          refine JQ.n_then ?_
          refine JQ.seq ?_
          refine JQ.region ?_
          refine JQ.v (JV.loadV 1 rfl rfl Tryd.isAgg23 Tryd.sizeOf23 (by simp [Pl.advN_len c f hv])) rfl ?_
          refine JQ.s (JO.storeV 2 rfl rfl rfl (us := (Pl.advN c f v (i - f)).map b8) (allB _) Tryd.sizeOf23 (by simp [Pl.advN_len c f hv]) rfl) ?_
          refine JQ.nil ?_
          refine JQ.n_then ?_
          refine JQ.ret ?_
          refine JQ.doneC 2 Tryd.results21 rfl rfl Tryd.isAgg23 Tryd.sizeOf23 (by simp <;> rw [Pl.advN_len c f hv]) ?_
          exact fun w hw => ⟨by rw [Pl.adv_in v hin, show i - f = t - f from by omega], hw.below⟩
      · refine JQ.vg rfl rfl (JV.ff (JV.call Tryd.call33 (evs_cons rfl (evs_cons rfl evs_nil)) (within_pure t 15)) hs1_10) rfl ?_
        refine JQ.vg rfl rfl (JV.notB rfl) rfl ?_
        refine JQ.v (JV.pickF rfl rfl) rfl ?_
        refine JQ.nil ?_
        refine JQ.n_then ?_
        refine JQ.condT rfl ?_
        refine JQ.seq ?_
        refine JQ.region ?_
        refine JQ.v (JV.build (v := .agg ((List.replicate 16 0).map b8).toArray) evp_nil (fun w => by kernel_rfl)) rfl ?_
        refine JQ.s (JO.storeV 2 rfl rfl rfl (us := ((List.replicate 16 0).map b8)) (allB _) Tryd.sizeOf23 rfl rfl) ?_
        refine JQ.nil ?_
        refine JQ.n_then ?_
        refine JQ.ret ?_
        refine JQ.r_then ?_
        refine JQ.doneC 2 Tryd.results21 rfl rfl Tryd.isAgg23 Tryd.sizeOf23 (by simp <;> rw [Pl.advN_len c f hv]) ?_
        exact fun w hw => ⟨by rw [Pl.adv_out v (fun h => hs1_10 h.2.2)], hw.below⟩
    · refine JQ.vg rfl rfl (JV.ff (JV.call Tryd.call33 (evs_cons rfl (evs_cons rfl evs_nil)) (within_pure f 15)) hs1_5) rfl ?_
      refine JQ.vg rfl rfl (JV.notB rfl) rfl ?_
      refine JQ.v (JV.pickF rfl rfl) rfl ?_
      refine JQ.v (JV.move rfl) rfl ?_
      refine JQ.g0 rfl rfl rfl rfl ?_
      refine JQ.g0 rfl rfl rfl rfl ?_
      refine JQ.g0 rfl rfl rfl rfl ?_
      refine JQ.v (JV.pickT rfl rfl) rfl ?_
      refine JQ.nil ?_
      refine JQ.n_then ?_
      refine JQ.condT rfl ?_
      refine JQ.seq ?_
      refine JQ.region ?_
      refine JQ.v (JV.build (v := .agg ((List.replicate 16 0).map b8).toArray) evp_nil (fun w => by kernel_rfl)) rfl ?_
      refine JQ.s (JO.storeV 2 rfl rfl rfl (us := ((List.replicate 16 0).map b8)) (allB _) Tryd.sizeOf23 rfl rfl) ?_
      refine JQ.nil ?_
      refine JQ.n_then ?_
      refine JQ.ret ?_
      refine JQ.r_then ?_
      refine JQ.doneC 2 Tryd.results21 rfl rfl Tryd.isAgg23 Tryd.sizeOf23 (by simp <;> rw [Pl.advN_len c f hv]) ?_
      exact fun w hw => ⟨by rw [Pl.adv_out v (fun h => hs1_5 h.2.1)], hw.below⟩
  · refine JQ.v (JV.ff (JV.call Tryd.call33 (evs_cons rfl (evs_cons rfl evs_nil)) (within_pure c 34)) hs1_1) rfl ?_
    refine JQ.v (JV.notB rfl) rfl ?_
    refine JQ.v (JV.move rfl) rfl ?_
    refine JQ.g0 rfl rfl rfl rfl ?_
    refine JQ.g0 rfl rfl rfl rfl ?_
    refine JQ.g0 rfl rfl rfl rfl ?_
    refine JQ.v (JV.pickT rfl rfl) rfl ?_
    refine JQ.v (JV.move rfl) rfl ?_
    refine JQ.g0 rfl rfl rfl rfl ?_
    refine JQ.g0 rfl rfl rfl rfl ?_
    refine JQ.g0 rfl rfl rfl rfl ?_
    refine JQ.v (JV.pickT rfl rfl) rfl ?_
    refine JQ.nil ?_
    refine JQ.n_then ?_
    refine JQ.condT rfl ?_
    refine JQ.seq ?_
    refine JQ.region ?_
    refine JQ.v (JV.build (v := .agg ((List.replicate 16 0).map b8).toArray) evp_nil (fun w => by kernel_rfl)) rfl ?_
    refine JQ.s (JO.storeV 2 rfl rfl rfl (us := ((List.replicate 16 0).map b8)) (allB _) Tryd.sizeOf23 rfl rfl) ?_
    refine JQ.nil ?_
    refine JQ.n_then ?_
    refine JQ.ret ?_
    refine JQ.r_then ?_
    refine JQ.doneC 2 Tryd.results21 rfl rfl Tryd.isAgg23 Tryd.sizeOf23 (by simp <;> rw [Pl.advN_len c f hv]) ?_
    exact fun w hw => ⟨by rw [Pl.adv_out v (fun h => hs1_1 h.1)], hw.below⟩

theorem radv_spec (c f t : Int) (v : List UInt8) (hv : v.length = 16) (w : World) (hR : Gl 0 (Pl.K.map u32) w) :
    Calls Tryd.prog 22 #[.int .i64 c, .int .i64 f, .int .i64 t, .agg (v.map b8).toArray] w fun e w' => e = .returned (.agg ((Pl.adv c f t v).map b8).toArray) ∧ Below w.heap.size w w' := by
  
  refine enterA (vs := [_, _, _, _]) Tryd.func22 rfl 50 rfl [(900, .ro (gv 0 64) 1 64 (Pl.K.map u32))] (MemOk.start1 900 hR) ?_
  refine JQ.seq ?_
  refine JQ.region ?_
  refine JQ.x (JO.box 1 rfl rfl) rfl ?_
  intro i0_0
  refine JQ.x (JO.alloc 2 (zs := ((List.replicate 16 0).map b8)) Tryd.zeroValue23 rfl) rfl ?_
  intro i0_1
  refine JQ.nil ?_
  refine JQ.n_then ?_
  refine JQ.seq ?_
  refine JQ.seq ?_
  refine JQ.region ?_
  refine JQ.v (JV.move rfl) rfl ?_
  by_cases hs1_1 : c < 0
  · refine JQ.v (JV.tt (JV.lss rfl rfl) hs1_1) rfl ?_
    refine JQ.v (JV.move rfl) rfl ?_
    refine JQ.g0 rfl rfl rfl rfl ?_
    refine JQ.g0 rfl rfl rfl rfl ?_
    refine JQ.v (JV.pickT rfl rfl) rfl ?_
    refine JQ.v (JV.move rfl) rfl ?_
    refine JQ.g0 rfl rfl rfl rfl ?_
    refine JQ.g0 rfl rfl rfl rfl ?_
    refine JQ.v (JV.pickT rfl rfl) rfl ?_
    refine JQ.v (JV.move rfl) rfl ?_
    refine JQ.g0 rfl rfl rfl rfl ?_
    refine JQ.g0 rfl rfl rfl rfl ?_
    refine JQ.v (JV.pickT rfl rfl) rfl ?_
    refine JQ.v (JV.move rfl) rfl ?_
    refine JQ.g0 rfl rfl rfl rfl ?_
    refine JQ.g0 rfl rfl rfl rfl ?_
    refine JQ.v (JV.pickT rfl rfl) rfl ?_
    refine JQ.v (JV.move rfl) rfl ?_
    refine JQ.g0 rfl rfl rfl rfl ?_
    refine JQ.g0 rfl rfl rfl rfl ?_
    refine JQ.v (JV.pickT rfl rfl) rfl ?_
    refine JQ.nil ?_
    refine JQ.n_then ?_
    refine JQ.condT rfl ?_
    refine JQ.seq ?_
    refine JQ.region ?_
    refine JQ.v (JV.build (v := .agg ((List.replicate 16 0).map b8).toArray) evp_nil (fun w => by kernel_rfl)) rfl ?_
    refine JQ.s (JO.storeV 2 rfl rfl rfl (us := ((List.replicate 16 0).map b8)) (allB _) Tryd.sizeOf23 rfl rfl) ?_
    refine JQ.nil ?_
    refine JQ.n_then ?_
    refine JQ.ret ?_
    refine JQ.r_then ?_
    refine JQ.doneC 2 Tryd.results22 rfl rfl Tryd.isAgg23 Tryd.sizeOf23 (by simp <;> rw [Pl.advN_len c f hv]) ?_
    exact fun w hw => ⟨by rw [Pl.adv_out v (fun h => by have h1 := h.1; have h2 := h.2.1; have h3 := h.2.2; omega)], hw.below⟩
  · refine JQ.v (JV.ff (JV.lss rfl rfl) hs1_1) rfl ?_
    refine JQ.v (JV.move rfl) rfl ?_
    refine JQ.vg rfl rfl (JV.move rfl) rfl ?_
    by_cases hs1_4 : 34 < c
    · refine JQ.vg rfl rfl (JV.tt (JV.gtr rfl rfl) hs1_4) rfl ?_
      refine JQ.v (JV.pickF rfl rfl) rfl ?_
      refine JQ.v (JV.move rfl) rfl ?_
      refine JQ.g0 rfl rfl rfl rfl ?_
      refine JQ.g0 rfl rfl rfl rfl ?_
      refine JQ.v (JV.pickT rfl rfl) rfl ?_
      refine JQ.v (JV.move rfl) rfl ?_
      refine JQ.g0 rfl rfl rfl rfl ?_
      refine JQ.g0 rfl rfl rfl rfl ?_
      refine JQ.v (JV.pickT rfl rfl) rfl ?_
      refine JQ.v (JV.move rfl) rfl ?_
      refine JQ.g0 rfl rfl rfl rfl ?_
      refine JQ.g0 rfl rfl rfl rfl ?_
      refine JQ.v (JV.pickT rfl rfl) rfl ?_
      refine JQ.v (JV.move rfl) rfl ?_
      refine JQ.g0 rfl rfl rfl rfl ?_
      refine JQ.g0 rfl rfl rfl rfl ?_
      refine JQ.v (JV.pickT rfl rfl) rfl ?_
      refine JQ.nil ?_
      refine JQ.n_then ?_
      refine JQ.condT rfl ?_
      refine JQ.seq ?_
      refine JQ.region ?_
      refine JQ.v (JV.build (v := .agg ((List.replicate 16 0).map b8).toArray) evp_nil (fun w => by kernel_rfl)) rfl ?_
      refine JQ.s (JO.storeV 2 rfl rfl rfl (us := ((List.replicate 16 0).map b8)) (allB _) Tryd.sizeOf23 rfl rfl) ?_
      refine JQ.nil ?_
      refine JQ.n_then ?_
      refine JQ.ret ?_
      refine JQ.r_then ?_
      refine JQ.doneC 2 Tryd.results22 rfl rfl Tryd.isAgg23 Tryd.sizeOf23 (by simp <;> rw [Pl.advN_len c f hv]) ?_
      exact fun w hw => ⟨by rw [Pl.adv_out v (fun h => by have h1 := h.1; have h2 := h.2.1; have h3 := h.2.2; omega)], hw.below⟩
    · refine JQ.vg rfl rfl (JV.ff (JV.gtr rfl rfl) hs1_4) rfl ?_
      refine JQ.v (JV.pickF rfl rfl) rfl ?_
      refine JQ.v (JV.move rfl) rfl ?_
      refine JQ.vg rfl rfl (JV.move rfl) rfl ?_
      by_cases hs1_8 : f < 0
      · refine JQ.vg rfl rfl (JV.tt (JV.lss rfl rfl) hs1_8) rfl ?_
        refine JQ.v (JV.pickF rfl rfl) rfl ?_
        refine JQ.v (JV.move rfl) rfl ?_
        refine JQ.g0 rfl rfl rfl rfl ?_
        refine JQ.g0 rfl rfl rfl rfl ?_
        refine JQ.v (JV.pickT rfl rfl) rfl ?_
        refine JQ.v (JV.move rfl) rfl ?_
        refine JQ.g0 rfl rfl rfl rfl ?_
        refine JQ.g0 rfl rfl rfl rfl ?_
        refine JQ.v (JV.pickT rfl rfl) rfl ?_
        refine JQ.v (JV.move rfl) rfl ?_
        refine JQ.g0 rfl rfl rfl rfl ?_
        refine JQ.g0 rfl rfl rfl rfl ?_
        refine JQ.v (JV.pickT rfl rfl) rfl ?_
        refine JQ.nil ?_
        refine JQ.n_then ?_
        refine JQ.condT rfl ?_
        refine JQ.seq ?_
        refine JQ.region ?_
        refine JQ.v (JV.build (v := .agg ((List.replicate 16 0).map b8).toArray) evp_nil (fun w => by kernel_rfl)) rfl ?_
        refine JQ.s (JO.storeV 2 rfl rfl rfl (us := ((List.replicate 16 0).map b8)) (allB _) Tryd.sizeOf23 rfl rfl) ?_
        refine JQ.nil ?_
        refine JQ.n_then ?_
        refine JQ.ret ?_
        refine JQ.r_then ?_
        refine JQ.doneC 2 Tryd.results22 rfl rfl Tryd.isAgg23 Tryd.sizeOf23 (by simp <;> rw [Pl.advN_len c f hv]) ?_
        exact fun w hw => ⟨by rw [Pl.adv_out v (fun h => by have h1 := h.1; have h2 := h.2.1; have h3 := h.2.2; omega)], hw.below⟩
      · refine JQ.vg rfl rfl (JV.ff (JV.lss rfl rfl) hs1_8) rfl ?_
        refine JQ.v (JV.pickF rfl rfl) rfl ?_
        refine JQ.v (JV.move rfl) rfl ?_
        refine JQ.vg rfl rfl (JV.move rfl) rfl ?_
        by_cases hs1_12 : 15 < f
        · refine JQ.vg rfl rfl (JV.tt (JV.gtr rfl rfl) hs1_12) rfl ?_
          refine JQ.v (JV.pickF rfl rfl) rfl ?_
          refine JQ.v (JV.move rfl) rfl ?_
          refine JQ.g0 rfl rfl rfl rfl ?_
          refine JQ.g0 rfl rfl rfl rfl ?_
          refine JQ.v (JV.pickT rfl rfl) rfl ?_
          refine JQ.v (JV.move rfl) rfl ?_
          refine JQ.g0 rfl rfl rfl rfl ?_
          refine JQ.g0 rfl rfl rfl rfl ?_
          refine JQ.v (JV.pickT rfl rfl) rfl ?_
          refine JQ.nil ?_
          refine JQ.n_then ?_
          refine JQ.condT rfl ?_
          refine JQ.seq ?_
          refine JQ.region ?_
          refine JQ.v (JV.build (v := .agg ((List.replicate 16 0).map b8).toArray) evp_nil (fun w => by kernel_rfl)) rfl ?_
          refine JQ.s (JO.storeV 2 rfl rfl rfl (us := ((List.replicate 16 0).map b8)) (allB _) Tryd.sizeOf23 rfl rfl) ?_
          refine JQ.nil ?_
          refine JQ.n_then ?_
          refine JQ.ret ?_
          refine JQ.r_then ?_
          refine JQ.doneC 2 Tryd.results22 rfl rfl Tryd.isAgg23 Tryd.sizeOf23 (by simp <;> rw [Pl.advN_len c f hv]) ?_
          exact fun w hw => ⟨by rw [Pl.adv_out v (fun h => by have h1 := h.1; have h2 := h.2.1; have h3 := h.2.2; omega)], hw.below⟩
        · refine JQ.vg rfl rfl (JV.ff (JV.gtr rfl rfl) hs1_12) rfl ?_
          refine JQ.v (JV.pickF rfl rfl) rfl ?_
          refine JQ.v (JV.move rfl) rfl ?_
          refine JQ.vg rfl rfl (JV.move rfl) rfl ?_
          by_cases hs1_16 : t < 0
          · refine JQ.vg rfl rfl (JV.tt (JV.lss rfl rfl) hs1_16) rfl ?_
            refine JQ.v (JV.pickF rfl rfl) rfl ?_
            refine JQ.v (JV.move rfl) rfl ?_
            refine JQ.g0 rfl rfl rfl rfl ?_
            refine JQ.g0 rfl rfl rfl rfl ?_
            refine JQ.v (JV.pickT rfl rfl) rfl ?_
            refine JQ.nil ?_
            refine JQ.n_then ?_
            refine JQ.condT rfl ?_
            refine JQ.seq ?_
            refine JQ.region ?_
            refine JQ.v (JV.build (v := .agg ((List.replicate 16 0).map b8).toArray) evp_nil (fun w => by kernel_rfl)) rfl ?_
            refine JQ.s (JO.storeV 2 rfl rfl rfl (us := ((List.replicate 16 0).map b8)) (allB _) Tryd.sizeOf23 rfl rfl) ?_
            refine JQ.nil ?_
            refine JQ.n_then ?_
            refine JQ.ret ?_
            refine JQ.r_then ?_
            refine JQ.doneC 2 Tryd.results22 rfl rfl Tryd.isAgg23 Tryd.sizeOf23 (by simp <;> rw [Pl.advN_len c f hv]) ?_
            exact fun w hw => ⟨by rw [Pl.adv_out v (fun h => by have h1 := h.1; have h2 := h.2.1; have h3 := h.2.2; omega)], hw.below⟩
          · refine JQ.vg rfl rfl (JV.ff (JV.lss rfl rfl) hs1_16) rfl ?_
            refine JQ.v (JV.pickF rfl rfl) rfl ?_
            refine JQ.v (JV.move rfl) rfl ?_
            refine JQ.vg rfl rfl (JV.move rfl) rfl ?_
            by_cases hs1_20 : 15 < t
            · refine JQ.vg rfl rfl (JV.tt (JV.gtr rfl rfl) hs1_20) rfl ?_
              refine JQ.v (JV.pickF rfl rfl) rfl ?_
              refine JQ.nil ?_
              refine JQ.n_then ?_
              refine JQ.condT rfl ?_
              refine JQ.seq ?_
              refine JQ.region ?_
              refine JQ.v (JV.build (v := .agg ((List.replicate 16 0).map b8).toArray) evp_nil (fun w => by kernel_rfl)) rfl ?_
              refine JQ.s (JO.storeV 2 rfl rfl rfl (us := ((List.replicate 16 0).map b8)) (allB _) Tryd.sizeOf23 rfl rfl) ?_
              refine JQ.nil ?_
              refine JQ.n_then ?_
              refine JQ.ret ?_
              refine JQ.r_then ?_
              refine JQ.doneC 2 Tryd.results22 rfl rfl Tryd.isAgg23 Tryd.sizeOf23 (by simp <;> rw [Pl.advN_len c f hv]) ?_
              exact fun w hw => ⟨by rw [Pl.adv_out v (fun h => by have h1 := h.1; have h2 := h.2.1; have h3 := h.2.2; omega)], hw.below⟩
            · refine JQ.vg rfl rfl (JV.ff (JV.gtr rfl rfl) hs1_20) rfl ?_
              refine JQ.v (JV.pickF rfl rfl) rfl ?_
              refine JQ.nil ?_
              refine JQ.n_then ?_
              refine JQ.condF rfl ?_
              refine JQ.skip ?_
              refine JQ.n_then ?_
              refine JQ.seq ?_
              refine JQ.seq ?_
              obtain ⟨c, rfl⟩ : ∃ n : Nat, c = (n : Int) := ⟨c.toNat, by omega⟩
              obtain ⟨f, rfl⟩ : ∃ n : Nat, f = (n : Int) := ⟨f.toNat, by omega⟩
              obtain ⟨t, rfl⟩ : ∃ n : Nat, t = (n : Int) := ⟨t.toNat, by omega⟩
              have hin : Pl.inR (c : Int) (f : Int) (t : Int) := ⟨by omega, by omega, by omega⟩
              refine JQ.region ?_
              refine JQ.v (JV.move rfl) rfl ?_
              refine JQ.v (JV.assign rfl) rfl ?_
              refine JQ.nil ?_
              refine JQ.n_then ?_
              refine JQ.block ?_
              refine JQ.loopI (ι := Nat) (fun i => [(0, .int .i64 ((c : Nat) : Int)), (2, .int .i64 ((t : Nat) : Int)), (7, .pointer (some ⟨i0_0, 0, none⟩)), (8, .pointer (some ⟨i0_1, 0, none⟩)), (9, .int .i64 ((i : Nat) : Int))]) (fun i => [(1, .cells i0_0 ((Pl.advN c f v (i - f)).map b8) 23 (0, 0)), (2, .cells i0_1 ((List.replicate 16 0).map b8) 23 (0, 0)), (900, .ro (gv 0 64) 1 64 (Pl.K.map u32))]) (fun i => f ≤ i ∧ (i ≤ t ∨ i = f)) (fun i => t - i) f ⟨Nat.le_refl _, .inr rfl⟩ (subk_cons rfl (subk_cons rfl (subk_cons rfl (subk_cons rfl (subk_cons rfl subk_nil))))) (subr_cons (by rw [Nat.sub_self]; rfl) (subr_cons rfl (subr_cons rfl subr_nil))) ?_
              intro i hi
              have hfi := hi.1
              refine JQ.seq ?_
              refine JQ.seq ?_
              refine JQ.region ?_
              refine JQ.v (JV.move rfl) rfl ?_
              refine JQ.v (JV.move rfl) rfl ?_
              refine JQ.v (JV.lssN rfl rfl) rfl ?_
              refine JQ.nil ?_
              refine JQ.n_then ?_
              refine JQ.condP rfl (fun h36 => ?_) (fun h36 => ?_)
              · refine JQ.skip ?_
                refine JQ.n_then ?_
                refine JQ.seq ?_
                refine JQ.block ?_
                refine JQ.any [_, _, _, _, _, _, _, _, _, _, _] [fun _ => [], _, fun _ => [], fun _ => [], _, fun _ => [], fun _ => [], fun _ => [], _, fun _ => [], _] [⟨[], [], [], []⟩, ⟨[], [3], [], [0]⟩, ⟨[3], [], [1], [0, 1]⟩, ⟨[], [], [], []⟩, ⟨[], [4], [], [0, 1, 3]⟩, ⟨[4], [], [4], [0, 1, 3, 4]⟩, ⟨[1], [], [], []⟩, ⟨[], [], [], [0, 1, 3, 4, 6]⟩, ⟨[], [5], [1, 4], [0, 1, 2, 3, 4, 5, 6, 7]⟩, ⟨[5, 900], [], [1, 4, 8], [0, 1, 2, 3, 4, 5, 6, 7, 8]⟩, ⟨[], [1], [1, 4, 8], [0, 1, 2, 3, 4, 5, 6, 7, 8, 9]⟩] Tryd.mixed rfl (by kernel_rfl) ⟨Ob.v rfl (fun _ _ h => by cases h) (fun _ _ _ => rfl) (fun e L' hL => JV.move rfl),
                                    Ob.val 3 rfl (fun _ _ h => by cases h) (fun _ _ _ => ⟨rfl, rfl⟩) (by decide) (fun e L' hL => JO.callRow 3 Tryd.call35 (evs_cons rfl evs_nil) (fun w hw => rint_spec c (by omega) w)),
                                    Ob.v rfl (fun _ _ h => by cases h) (fun e e' he => by simp only [he 1 (by decide)]) (fun e L' hL => JV.bytesStrW 3 (l := Pl.enc c) Tryd.runUnderlying45 Tryd.runUnderlying5 Tryd.runUnderlying9 rfl ((hL 3 (by decide)).trans rfl)),
                                    Ob.v rfl (fun _ _ h => by cases h) (fun _ _ _ => rfl) (fun e L' hL => JV.move rfl),
                                    Ob.val 4 rfl (fun _ _ h => by cases h) (fun _ _ _ => ⟨rfl, rfl⟩) (by decide) (fun e L' hL => JO.callRow 4 Tryd.call35 (evs_cons rfl evs_nil) (fun w hw => rint_spec i (by omega) w)),
                                    Ob.v rfl (fun _ _ h => by cases h) (fun e e' he => by simp only [he 4 (by decide)]) (fun e L' hL => JV.bytesStrW 4 (l := Pl.enc i) Tryd.runUnderlying45 Tryd.runUnderlying5 Tryd.runUnderlying9 rfl ((hL 4 (by decide)).trans rfl)),
                                    Ob.v rfl (fun _ _ h => by cases h) (fun _ _ _ => rfl) (fun e L' hL => JV.loadV 1 rfl ((hL 1 (by decide)).trans rfl) Tryd.isAgg23 Tryd.sizeOf23 (by simp [Pl.advN_len c f hv])),
                                    Ob.v rfl (fun _ _ h => by cases h) (fun _ _ _ => rfl) (fun e L' hL => JV.call Tryd.call30 (evs_cons rfl evs_nil) (text_pure _ (Pl.advN_len c f hv _))),
                                    Ob.nb 5 rfl (fun _ _ h => by cases h) (fun e e' he => by constructor <;> (funext z; simp only [he 1 (by decide), he 4 (by decide)])) (by decide) (fun e L' hL => JO.buildSlice 5 (us := [str (Pl.enc c), str (Pl.enc i), str (Pl.advN c f v (i - f))]) (e := 9) (evp_cons rfl (evp_cons rfl (evp_cons rfl evp_nil))) (fun w => by kernel_rfl)),
                                    Ob.v rfl (fun _ _ h => by cases h) (fun e e' he => by simp only [he 1 (by decide), he 4 (by decide), he 8 (by decide)]) (fun e L' hL => JV.callM Tryd.call24 (evs_cons rfl (evs_cons rfl evs_nil)) (fun w hw => rof_spec 4 4 (by decide) _ [Pl.enc c, Pl.enc i, (Pl.advN c f v (i - f))] (Pl.few3 (Pl.enc_few c) (Pl.enc_few i) (by rw [Pl.advN_len c f hv]; decide)) w (hw.reads (id := 900) ((hL 900 (by decide)).trans rfl)) (reads_cells (hw.blk (id := 5) ((hL 5 (by decide)).trans rfl)) rfl rfl (by simp)))),
                                    Ob.s 1 rfl (fun _ _ h => by cases h) (fun e e' he => by simp only [he 1 (by decide), he 4 (by decide), he 8 (by decide)]) (fun e L' hL => JO.storeV 1 rfl ((hL 1 (by decide)).trans rfl) rfl (us := (Pl.chainH c i (Pl.advN c f v (i - f))).map b8) (allB _) Tryd.sizeOf23 (by simp [Pl.chainH_len]) (by simp [Pl.advN_len c f hv])), trivial⟩ (fun ev6 => ?_)
                simp only [endF, endL, putF, List.nil_append, List.cons_append]
                refine JQ.n_block ?_
                refine JQ.n_then ?_
                refine JQ.region ?_
                refine JQ.v (JV.move rfl) rfl ?_
                refine JQ.v (JV.addN (b := 1) rfl rfl (by omega)) rfl ?_
                refine JQ.v (JV.assign rfl) rfl ?_
                refine JQ.nil ?_
                refine JQ.n_then ?_
                exact JQ.nextI (i + 1) (by omega) (by omega) (subk_cons rfl (subk_cons rfl (subk_cons rfl (subk_cons rfl (subk_cons rfl subk_nil))))) (subr_cons (by rw [show i + 1 - f = (i - f) + 1 from by omega, Pl.advN, show f + (i - f) = i from by omega]; rfl) (subr_cons rfl (subr_cons rfl subr_nil)))
              · refine JQ.exit ?_
                refine JQ.e_then ?_
                refine JQ.e_then ?_
                refine JQ.e_here ?_
                refine JQ.n_then ?_
                refine JQ.seq ?_
                refine JQ.region ?_
                refine JQ.v (JV.loadV 1 rfl rfl Tryd.isAgg23 Tryd.sizeOf23 (by simp [Pl.advN_len c f hv])) rfl ?_
                refine JQ.s (JO.storeV 2 rfl rfl rfl (us := (Pl.advN c f v (i - f)).map b8) (allB _) Tryd.sizeOf23 (by simp [Pl.advN_len c f hv]) rfl) ?_
                refine JQ.nil ?_
                refine JQ.n_then ?_
                refine JQ.ret ?_
                refine JQ.doneC 2 Tryd.results22 rfl rfl Tryd.isAgg23 Tryd.sizeOf23 (by simp <;> rw [Pl.advN_len c f hv]) ?_
                exact fun w hw => ⟨by rw [Pl.adv_in v hin, show i - f = t - f from by omega], hw.below⟩

theorem start_spec (s : List UInt8) (hs : s.length ≤ 1048576) (k : Nat) (hk : k ≤ 4611686018427387904) (w : World) (hG : Gl 1 (Pl.K.map u32) w) :
    Calls Tryd.prog 29 #[str s, .int .i64 (k : Int)] w fun e w' => e = .returned (.agg ((Pl.start s k).map b8).toArray) ∧ Below w.heap.size w w' := by
  
  refine enterA (vs := [_, _]) Tryd.func29 rfl 15 rfl [(901, .ro (gv 1 64) 1 64 (Pl.K.map u32))] (MemOk.start1 901 hG) ?_
  refine JQ.seq ?_
  refine JQ.region ?_
  refine JQ.x (JO.alloc 1 (zs := ((List.replicate 16 0).map b8)) Tryd.zeroValue23 rfl) rfl ?_
  intro i0_0
  refine JQ.nil ?_
  refine JQ.n_then ?_
  refine JQ.seq ?_
  refine JQ.region ?_
  refine JQ.v (JV.move rfl) rfl ?_
  refine JQ.v (JV.move rfl) rfl ?_
  refine JQ.x (JO.callRow 2 Tryd.call34 (evs_cons rfl evs_nil) (fun w hw => int_spec k hk w)) rfl ?_
  intro i1_2
  refine JQ.v (JV.bytesStrW 2 (l := Pl.enc k) Tryd.runUnderlying45 Tryd.runUnderlying5 Tryd.runUnderlying9 rfl rfl) rfl ?_
  refine JQ.x (JO.buildSlice 3 (us := [str (Pl.enc k)]) (e := 9) (evp_cons rfl evp_nil) (fun w => by kernel_rfl)) rfl ?_
  intro i1_4
  refine JQ.v (JV.callM Tryd.call45 (evs_cons rfl (evs_cons rfl (evs_cons rfl evs_nil))) (fun w hw => derive_spec s Pl.lchain hs (by decide) _ [Pl.enc k] (Pl.few1 (Pl.enc_few k)) w (hw.reads (id := 901) rfl) (reads_cells (hw.blk (id := 3) rfl) rfl rfl (by decide)))) rfl ?_
  refine JQ.v (JV.sliceStr rfl Tryd.runUnderlying9 rfl (bnd_some (n := 16) rfl) (by omega) (by rw [Pl.derive_len]; decide)) rfl ?_
  refine JQ.x (JO.strBytes 4 (l := Pl.start s k) Tryd.runUnderlying9 Tryd.runUnderlying45 Tryd.runUnderlying5 rfl (by simp [Pl.start_len])) rfl ?_
  intro i1_7
  refine JQ.v (JV.toArr rfl Tryd.runUnderlying23 (by simp [Pl.start_len])) rfl ?_
  refine JQ.v (JV.loadRA 4 rfl rfl Tryd.isAgg23 Tryd.sizeOf23 (us := (Pl.start s k).map b8) (by rw [List.drop_zero]; exact List.take_of_length_le (by simp [Pl.start_len])) (by simp [Pl.start_len]) (by decide)) rfl ?_
  refine JQ.s (JO.storeV 1 rfl rfl rfl (us := (Pl.start s k).map b8) (allB _) Tryd.sizeOf23 (by simp [Pl.start_len]) rfl) ?_
  refine JQ.nil ?_
  refine JQ.n_then ?_
  refine JQ.ret ?_
  refine JQ.doneC 1 Tryd.results29 rfl rfl Tryd.isAgg23 Tryd.sizeOf23 (by simp [Pl.start_len]) ?_
  exact fun w hw => ⟨rfl, hw.below⟩

theorem digest_pure (l : List UInt8) (hl : 16 ≤ l.length) :
    Pure Tryd.prog 36 #[str l] (.agg ((l.take 16).map b8).toArray) := by
  intro w
  refine enterA (vs := [_]) Tryd.func36 rfl 15 rfl [] (MemOk.start w) ?_
  refine JQ.seq ?_
  refine JQ.region ?_
  refine JQ.x (JO.alloc 1 (zs := ((List.replicate 16 0).map b8)) Tryd.zeroValue23 rfl) rfl ?_
  intro i0_0
  refine JQ.nil ?_
  refine JQ.n_then ?_
  refine JQ.seq ?_
  refine JQ.region ?_
  refine JQ.x (JO.alloc 2 (zs := ((List.replicate 16 0).map b8)) Tryd.zeroValue23 rfl) rfl ?_
  intro i1_0
  refine JQ.nil ?_
  refine JQ.n_then ?_
  refine JQ.seq ?_
  refine JQ.seq ?_
  refine JQ.region ?_
  refine JQ.v (JV.assign rfl) rfl ?_
  refine JQ.nil ?_
  refine JQ.n_then ?_
  refine JQ.block ?_
  refine JQ.loopI (ι := Nat) (fun i => [(0, str l), (2, .pointer (some ⟨i0_0, 0, none⟩)), (3, .pointer (some ⟨i1_0, 0, none⟩)), (4, .int .i64 ((i : Nat) : Int))]) (fun i => [(1, .cells i0_0 ((List.replicate 16 0).map b8) 23 (0, 0)), (2, .cells i1_0 ((l.take i ++ List.replicate (16 - i) 0).map b8) 23 (0, 0))]) (fun i => i ≤ 16) (fun i => 16 - i) 0 (by omega) (subk_cons rfl (subk_cons rfl (subk_cons rfl (subk_cons rfl subk_nil)))) (subr_cons rfl (subr_cons rfl subr_nil)) ?_
  intro i hi
  refine JQ.seq ?_
  refine JQ.seq ?_
  refine JQ.region ?_
  refine JQ.v (JV.move rfl) rfl ?_
  refine JQ.v (JV.lssN (b := 16) rfl rfl) rfl ?_
  refine JQ.nil ?_
  refine JQ.n_then ?_
  refine JQ.condP rfl (fun h6 => ?_) (fun h6 => ?_)
  · refine JQ.skip ?_
    refine JQ.n_then ?_
    refine JQ.seq ?_
    refine JQ.block ?_
    refine JQ.region ?_
    refine JQ.v (JV.move rfl) rfl ?_
    refine JQ.v (JV.move rfl) rfl ?_
    refine JQ.v (JV.move rfl) rfl ?_
    refine JQ.v (JV.idxStrD rfl rfl Tryd.runUnderlying9 (by omega)) rfl ?_
    refine JQ.v (JV.idxArr0 rfl rfl Tryd.runUnderlying23 Tryd.sizeOf5 (by omega)) rfl ?_
    refine JQ.s (JO.store1 2 rfl rfl rfl rfl Tryd.sizeOf5 (by simp; omega)) ?_
    rw [setB, short_setG _ _ hl (by omega)]
    refine JQ.nil ?_
    refine JQ.n_block ?_
    refine JQ.n_then ?_
    refine JQ.region ?_
    refine JQ.v (JV.move rfl) rfl ?_
    refine JQ.v (JV.addN (b := 1) rfl rfl (by omega)) rfl ?_
    refine JQ.v (JV.assign rfl) rfl ?_
    refine JQ.nil ?_
    refine JQ.n_then ?_
    exact JQ.nextI (i + 1) (by omega) (by omega) (subk_cons rfl (subk_cons rfl (subk_cons rfl (subk_cons rfl subk_nil)))) (subr_cons rfl (subr_cons rfl subr_nil))
  · refine JQ.exit ?_
    refine JQ.e_then ?_
    refine JQ.e_then ?_
    refine JQ.e_here ?_
    refine JQ.n_then ?_
    refine JQ.seq ?_
    refine JQ.region ?_
    refine JQ.v (JV.loadV 2 rfl rfl Tryd.isAgg23 Tryd.sizeOf23 (by simp; omega)) rfl ?_
    refine JQ.s (JO.storeV 1 rfl rfl rfl (allB _) Tryd.sizeOf23 (by simp; omega) rfl) ?_
    refine JQ.nil ?_
    refine JQ.n_then ?_
    refine JQ.ret ?_
    rw [show i = 16 from by omega]
    refine JQ.doneC 1 Tryd.results36 rfl rfl Tryd.isAgg23 Tryd.sizeOf23 (by simp; omega) ?_
    exact fun w hw => ⟨by simp only [Nat.sub_self, List.replicate_zero, List.append_nil], hw.below⟩

theorem rstart_spec (s : List UInt8) (hs : s.length ≤ 1048576) (k : Nat) (hk : k ≤ 4611686018427387904) (w : World) (hR : Gl 0 (Pl.K.map u32) w) :
    Calls Tryd.prog 31 #[str s, .int .i64 (k : Int)] w fun e w' => e = .returned (.agg ((Pl.start s k).map b8).toArray) ∧ Below w.heap.size w w' := by
  
  refine enterA (vs := [_, _]) Tryd.func31 rfl 12 rfl [(900, .ro (gv 0 64) 1 64 (Pl.K.map u32))] (MemOk.start1 900 hR) ?_
  refine JQ.seq ?_
  refine JQ.region ?_
  refine JQ.x (JO.alloc 1 (zs := ((List.replicate 16 0).map b8)) Tryd.zeroValue23 rfl) rfl ?_
  intro i0_0
  refine JQ.nil ?_
  refine JQ.n_then ?_
  refine JQ.seq ?_
  refine JQ.region ?_
  refine JQ.v (JV.move rfl) rfl ?_
  refine JQ.v (JV.move rfl) rfl ?_
  refine JQ.x (JO.callRow 2 Tryd.call35 (evs_cons rfl evs_nil) (fun w hw => rint_spec k hk w)) rfl ?_
  intro i1_2
  refine JQ.v (JV.bytesStrW 2 (l := Pl.enc k) Tryd.runUnderlying45 Tryd.runUnderlying5 Tryd.runUnderlying9 rfl rfl) rfl ?_
  refine JQ.x (JO.buildSlice 3 (us := [str (Pl.enc k)]) (e := 9) (evp_cons rfl evp_nil) (fun w => by kernel_rfl)) rfl ?_
  intro i1_4
  refine JQ.v (JV.callM Tryd.call46 (evs_cons rfl (evs_cons rfl (evs_cons rfl evs_nil))) (fun w hw => rderive_spec s Pl.lchain hs (by decide) _ [Pl.enc k] (Pl.few1 (Pl.enc_few k)) w (hw.reads (id := 900) rfl) (reads_cells (hw.blk (id := 3) rfl) rfl rfl (by decide)))) rfl ?_
  refine JQ.v (JV.call Tryd.call36 (evs_cons rfl evs_nil) (digest_pure _ (by rw [Pl.derive_len]; decide))) rfl ?_
  refine JQ.s (JO.storeV 1 rfl rfl rfl (us := (Pl.start s k).map b8) (allB _) Tryd.sizeOf23 (by simp [Pl.start_len]) rfl) ?_
  refine JQ.nil ?_
  refine JQ.n_then ?_
  refine JQ.ret ?_
  refine JQ.doneC 1 Tryd.results31 rfl rfl Tryd.isAgg23 Tryd.sizeOf23 (by simp [Pl.start_len]) ?_
  exact fun w hw => ⟨rfl, hw.below⟩

theorem rpublic_spec (s : List UInt8) (hs : s.length ≤ 1048576) (w : World) (hR : Gl 0 (Pl.K.map u32) w) :
    Calls Tryd.prog 16 #[str s] w fun e w' => e = .returned (.agg ((Pl.pubK s).map b8).toArray) ∧ Below w.heap.size w w' := by
  
  refine enterA (vs := [_]) Tryd.func16 rfl 20 rfl [(900, .ro (gv 0 64) 1 64 (Pl.K.map u32))] (MemOk.start1 900 hR) ?_
  refine JQ.seq ?_
  refine JQ.region ?_
  refine JQ.x (JO.alloc 1 (zs := ((List.replicate 16 0).map b8)) Tryd.zeroValue23 rfl) rfl ?_
  intro i0_0
  refine JQ.nil ?_
  refine JQ.n_then ?_
  refine JQ.seq ?_
  refine JQ.region ?_
  refine JQ.v (JV.assign rfl) rfl ?_
  refine JQ.nil ?_
  refine JQ.n_then ?_
  refine JQ.seq ?_
  refine JQ.seq ?_
  refine JQ.region ?_
  refine JQ.v (JV.assign rfl) rfl ?_
  refine JQ.nil ?_
  refine JQ.n_then ?_
  refine JQ.block ?_
  refine JQ.loopI (ι := Nat) (fun i => [(0, str s), (2, .pointer (some ⟨i0_0, 0, none⟩)), (3, str (Pl.catN (Pl.pubV s) i)), (4, .int .i64 ((i : Nat) : Int))]) (fun i => [(1, .cells i0_0 ((List.replicate 16 0).map b8) 23 (0, 0)), (900, .ro (gv 0 64) 1 64 (Pl.K.map u32))]) (fun i => i ≤ 35) (fun i => 35 - i) 0 (Nat.zero_le _) (subk_cons rfl (subk_cons rfl (subk_cons rfl (subk_cons rfl subk_nil)))) (subr_cons rfl (subr_cons rfl subr_nil)) ?_
  intro i hi
  have hcl := Pl.catN_len _ (Pl.pubV_len s) i
  refine JQ.seq ?_
  refine JQ.seq ?_
  refine JQ.region ?_
  refine JQ.v (JV.move rfl) rfl ?_
  refine JQ.v (JV.lssN (b := 35) rfl rfl) rfl ?_
  refine JQ.nil ?_
  refine JQ.n_then ?_
  refine JQ.condP rfl (fun h6 => ?_) (fun h6 => ?_)
  · refine JQ.skip ?_
    refine JQ.n_then ?_
    refine JQ.seq ?_
    refine JQ.block ?_
    refine JQ.region ?_
    refine JQ.v (JV.move rfl) rfl ?_
    refine JQ.v (JV.move rfl) rfl ?_
    refine JQ.v (JV.move rfl) rfl ?_
    refine JQ.v (JV.move rfl) rfl ?_
    refine JQ.v (JV.callM Tryd.call31 (evs_cons rfl (evs_cons rfl evs_nil)) (fun w hw => rstart_spec s hs i (by omega) w (hw.reads (id := 900) rfl))) rfl ?_
    refine JQ.v (JV.callM Tryd.call22 (evs_cons rfl (evs_cons rfl (evs_cons rfl (evs_cons rfl evs_nil)))) (fun w hw => radv_spec i 0 15 (Pl.start s i) (Pl.start_len s i) w (hw.reads (id := 900) rfl))) rfl ?_
    refine JQ.v (JV.call Tryd.call30 (evs_cons rfl evs_nil) (text_pure _ (Pl.adv_len _ _ _ (Pl.start_len _ _)))) rfl ?_
    refine JQ.v (JV.addS (l' := Pl.pubV s i) rfl rfl (by rw [Pl.pubV_len]; omega)) rfl ?_
    refine JQ.v (JV.assign rfl) rfl ?_
    refine JQ.nil ?_
    refine JQ.n_block ?_
    refine JQ.n_then ?_
    refine JQ.region ?_
    refine JQ.v (JV.move rfl) rfl ?_
    refine JQ.v (JV.addN (b := 1) rfl rfl (by omega)) rfl ?_
    refine JQ.v (JV.assign rfl) rfl ?_
    refine JQ.nil ?_
    refine JQ.n_then ?_
    exact JQ.nextI (i + 1) (by omega) (by omega) (subk_cons rfl (subk_cons rfl (subk_cons rfl (subk_cons rfl subk_nil)))) (subr_cons rfl (subr_cons rfl subr_nil))
  · refine JQ.exit ?_
    refine JQ.e_then ?_
    refine JQ.e_then ?_
    refine JQ.e_here ?_
    refine JQ.n_then ?_
    refine JQ.seq ?_
    rw [show i = 35 from by omega]
    refine JQ.region ?_
    refine JQ.v (JV.move rfl) rfl ?_
    refine JQ.x (JO.buildSlice 2 (us := [str (Pl.catN (Pl.pubV s) 35)]) (e := 9) (evp_cons rfl evp_nil) (fun w => by kernel_rfl)) rfl ?_
    intro i6_1
    refine JQ.v (JV.callM Tryd.call24 (evs_cons rfl (evs_cons rfl evs_nil)) (fun w hw => rof_spec 5 5 (by decide) _ [Pl.catN (Pl.pubV s) 35] (Pl.few1 (by rw [Pl.catN_len _ (Pl.pubV_len s)]; decide)) w (hw.reads (id := 900) rfl) (reads_cells (hw.blk (id := 2) rfl) rfl rfl (by decide)))) rfl ?_
    refine JQ.s (JO.storeV 1 rfl rfl rfl (us := (Pl.pubK s).map b8) (allB _) Tryd.sizeOf23 (by simp [Pl.pubK_len]) rfl) ?_
    refine JQ.nil ?_
    refine JQ.n_then ?_
    refine JQ.ret ?_
    refine JQ.doneC 1 Tryd.results16 rfl rfl Tryd.isAgg23 Tryd.sizeOf23 (by simp [Pl.pubK_len]) ?_
    exact fun w hw => ⟨rfl, hw.below⟩

theorem rdigits_spec (d : List UInt8) (hd : d.length = 16) (w : World) :
    Calls Tryd.prog 14 #[.agg (d.map b8).toArray] w fun e w' => ∃ v, e = .returned v ∧ w'.ownsRow w.heap.size 3 1 v 35 ((Pl.digits d).map i64) ∧ Below w.heap.size w w' := by
  
  refine enterA (vs := [_]) Tryd.func14 rfl 43 rfl [] (MemOk.start w) ?_
  refine JQ.seq ?_
  refine JQ.region ?_
  refine JQ.x (JO.box 1 rfl rfl) rfl ?_
  intro i0_0
  refine JQ.v (JV.assign rfl) rfl ?_
  refine JQ.nil ?_
  refine JQ.n_then ?_
  refine JQ.seq ?_
  refine JQ.region ?_
  refine JQ.v (JV.assign rfl) rfl ?_
  refine JQ.nil ?_
  refine JQ.n_then ?_
  refine JQ.seq ?_
  refine JQ.region ?_
  refine JQ.v (JV.assign rfl) rfl ?_
  refine JQ.nil ?_
  refine JQ.n_then ?_
  refine JQ.seq ?_
  refine JQ.seq ?_
  refine JQ.region ?_
  refine JQ.v (JV.assign rfl) rfl ?_
  refine JQ.nilRow 3 3 1 ?_
  refine JQ.nil ?_
  refine JQ.n_then ?_
  refine JQ.block ?_
  refine JQ.loopI (ι := Nat × Value) (fun i => [(1, .pointer (some ⟨i0_0, 0, none⟩)), (3, i.2), (4, .int .i64 ((Pl.csum d i.1 : Nat) : Int)), (5, .int .i64 ((i.1 : Nat) : Int))]) (fun i => [(1, .cells i0_0 (d.map b8) 23 (0, 0)), (3, .row i.2 3 1 (2 * i.1) ((Pl.nib d i.1).map i64))]) (fun i => i.1 ≤ 16) (fun i => 16 - i.1) (0, _) (Nat.zero_le _) (subk_cons rfl (subk_cons rfl (subk_cons rfl (subk_cons rfl subk_nil)))) (subr_cons rfl (subr_cons rfl subr_nil)) ?_
  intro i hi
  have hcs := Pl.csum_le d i.1
  refine JQ.seq ?_
  refine JQ.seq ?_
  refine JQ.region ?_
  refine JQ.v (JV.move rfl) rfl ?_
  refine JQ.v (JV.lssN (b := 16) rfl rfl) rfl ?_
  refine JQ.nil ?_
  refine JQ.n_then ?_
  refine JQ.condP rfl (fun h9 => ?_) (fun h9 => ?_)
  · refine JQ.skip ?_
    refine JQ.n_then ?_
    refine JQ.seq ?_
    refine JQ.block ?_
    refine JQ.seq ?_
    refine JQ.region ?_
    refine JQ.v (JV.move rfl) rfl ?_
    refine JQ.v (JV.idxArr0 rfl rfl Tryd.runUnderlying23 Tryd.sizeOf5 (by omega)) rfl ?_
    refine JQ.v (JV.load1 1 rfl rfl Tryd.isAgg5 (getB _ _ (by omega))) rfl ?_
    refine JQ.v (JV.convK Tryd.runUnderlying5 Tryd.runUnderlying3 rfl ((wrap_i64 (by have := (d.getD i.1 0).toNat_lt; omega)))) rfl ?_
    refine JQ.v (JV.quoN (b := 16) rfl rfl (by have := (d.getD i.1 0).toNat_lt; omega)) rfl ?_
    refine JQ.v (JV.assign rfl) rfl ?_
    refine JQ.nil ?_
    refine JQ.n_then ?_
    refine JQ.seq ?_
    refine JQ.region ?_
    refine JQ.v (JV.move rfl) rfl ?_
    refine JQ.v (JV.idxArr0 rfl rfl Tryd.runUnderlying23 Tryd.sizeOf5 (by omega)) rfl ?_
    refine JQ.v (JV.load1 1 rfl rfl Tryd.isAgg5 (getB _ _ (by omega))) rfl ?_
    refine JQ.v (JV.convK Tryd.runUnderlying5 Tryd.runUnderlying3 rfl ((wrap_i64 (by have := (d.getD i.1 0).toNat_lt; omega)))) rfl ?_
    refine JQ.v (JV.remN (b := 16) rfl rfl (by omega)) rfl ?_
    refine JQ.v (JV.assign rfl) rfl ?_
    refine JQ.nil ?_
    refine JQ.n_then ?_
    refine JQ.seq ?_
    refine JQ.region ?_
    refine JQ.v (JV.move rfl) rfl ?_
    refine JQ.v (JV.move rfl) rfl ?_
    refine JQ.v (JV.move rfl) rfl ?_
    refine JQ.x (JO.buildSlice 4 (us := [i64 (Pl.hi4 d i.1), i64 (Pl.lo4 d i.1)]) (e := 3) (evp_cons rfl (evp_cons rfl evp_nil)) (fun w => by kernel_rfl)) rfl ?_
    intro i8_3
    refine JQ.x (JO.append 3 elem3 rfl rfl rfl (fun w hw => Src.ro Tryd.underlying29 (reads_cells (hw.blk (id := 4) rfl) (show (_ : List Value) = ([i64 (Pl.hi4 d i.1), i64 (Pl.lo4 d i.1)] : List Value) from rfl) rfl (by decide))) (by simp [i64, Value.oneCell']) (by omega) (by omega)) rfl ?_
    intro i8_4
    refine JQ.v (JV.assign rfl) rfl ?_
    refine JQ.nil ?_
    refine JQ.n_then ?_
    refine JQ.region ?_
    refine JQ.v (JV.move rfl) rfl ?_
    refine JQ.v (JV.addN (b := 30) rfl rfl (by omega)) rfl ?_
    refine JQ.v (JV.move rfl) rfl ?_
    refine JQ.v (JV.subN rfl rfl (by have h1 := Pl.hi4_lt d i.1; unfold Pl.hi4 at h1; omega)) rfl ?_
    refine JQ.v (JV.move rfl) rfl ?_
    refine JQ.v (JV.subN rfl rfl (by have h1 := Pl.hi4_lt d i.1; have h2 := Pl.lo4_lt d i.1; unfold Pl.hi4 at h1; unfold Pl.lo4 at h2; omega)) rfl ?_
    refine JQ.v (JV.assign rfl) rfl ?_
    refine JQ.nil ?_
    refine JQ.n_block ?_
    refine JQ.n_then ?_
    refine JQ.region ?_
    refine JQ.v (JV.move rfl) rfl ?_
    refine JQ.v (JV.addN (b := 1) rfl rfl (by omega)) rfl ?_
    refine JQ.v (JV.assign rfl) rfl ?_
    refine JQ.nil ?_
    refine JQ.n_then ?_
    exact JQ.nextI (i.1 + 1, i8_4) (by show i.1 + 1 ≤ 16; omega) (by show 16 - (i.1 + 1) < 16 - i.1; omega) (subk_cons rfl (subk_cons rfl (subk_cons rfl (subk_cons rfl subk_nil)))) (subr_cons rfl (subr_cons (by rw [Pl.nib, List.map_append]; rfl) subr_nil))
  · refine JQ.exit ?_
    refine JQ.e_then ?_
    refine JQ.e_then ?_
    refine JQ.e_here ?_
    refine JQ.n_then ?_
    refine JQ.seq ?_
    rw [show i.1 = 16 from by omega] at hcs ⊢
    refine JQ.region ?_
    refine JQ.v (JV.move rfl) rfl ?_
    refine JQ.v (JV.move rfl) rfl ?_
    refine JQ.v (JV.quoN (b := 256) rfl rfl (by omega)) rfl ?_
    refine JQ.v (JV.move rfl) rfl ?_
    refine JQ.v (JV.quoN (b := 16) rfl rfl (by omega)) rfl ?_
    refine JQ.v (JV.remN (b := 16) rfl rfl (by omega)) rfl ?_
    refine JQ.v (JV.move rfl) rfl ?_
    refine JQ.v (JV.remN (b := 16) rfl rfl (by omega)) rfl ?_
    refine JQ.x (JO.buildSlice 4 (us := [i64 (Pl.csum d 16 / 256), i64 (Pl.csum d 16 / 16 % 16), i64 (Pl.csum d 16 % 16)]) (e := 3) (evp_cons rfl (evp_cons rfl (evp_cons rfl evp_nil))) (fun w => by kernel_rfl)) rfl ?_
    intro i10_8
    refine JQ.x (JO.append 3 elem3 rfl rfl rfl (fun w hw => Src.ro Tryd.underlying29 (reads_cells (hw.blk (id := 4) rfl) (show (_ : List Value) = ([i64 (Pl.csum d 16 / 256), i64 (Pl.csum d 16 / 16 % 16), i64 (Pl.csum d 16 % 16)] : List Value) from rfl) rfl (by decide))) (by simp [i64, Value.oneCell']) (by omega) (by omega)) rfl ?_
    intro i10_9
    refine JQ.v (JV.assign rfl) rfl ?_
    refine JQ.nil ?_
    refine JQ.n_then ?_
    refine JQ.ret ?_
    refine JQ.done1 Tryd.results14 rfl ?_
    exact fun w hw => ⟨_, rfl, by have h := hw.row (id := 3) rfl; rw [Pl.digits, List.map_append]; exact h, hw.below⟩
end Go.Fw
end
section
open Go.RowKit
set_option maxRecDepth 100000
set_option linter.unusedVariables false
set_option linter.unusedSimpArgs false
namespace Go.Fw
open Go.Proofs
section
variable {L : ML} {a b c d e f : Res} {i j k : Nat}
theorem sub_over1 : ∀ x r, lr ((i, a) :: L) x = some r → lr ((i, a) :: (i, b) :: L) x = some r := by
  intro x r h; simp only [lr_cons] at h ⊢; split at h <;> simp_all
theorem sub_over2 : ∀ x r, lr ((i, a) :: (j, b) :: L) x = some r → lr ((i, a) :: (j, b) :: (i, c) :: (j, d) :: L) x = some r := by
  intro x r h; simp only [lr_cons] at h ⊢; split at h
  · simp_all
  · split at h <;> simp_all
theorem sub_over3 : ∀ x r, lr ((i, a) :: (j, b) :: (k, c) :: L) x = some r → lr ((i, a) :: (j, b) :: (i, d) :: (j, e) :: (k, c) :: L) x = some r := by
  intro x r h; simp only [lr_cons] at h ⊢; split at h
  · simp_all
  · split at h
    · simp_all
    · split at h <;> simp_all
theorem dup_sub {r : Res} (hr : lr L i = some r) : ∀ x s, lr L x = some s → lr ((i, r) :: L) x = some s := by
  intro x s h; rw [lr_cons]; split
  · rename_i e; subst e; rw [← hr]; exact h
  · exact h
theorem undup {r : Res} (hr : lr L i = some r) : ∀ x s, lr ((i, r) :: L) x = some s → lr L x = some s := by
  intro x s h; rw [lr_cons] at h; split at h
  · rename_i e; subst e; rw [hr]; exact h
  · exact h
end
theorem copyCheck_new {w0 : World} {L : ML} (b : Nat) (v : Value) (w : World) (hw : MemOk w0 ((204, .cells b [.pointer none, v] 67 (0, 0)) :: L) w) :
    Calls Tryd.prog 50 #[.pointer (some ⟨b, 0, none⟩)] w fun e w' => ∃ _ : Unit, e = .returned (.tuple #[]) ∧ MemOk w0 ((204, .cells b [.pointer (some ⟨b, 0, none⟩), v] 67 (0, 0)) :: L) w' := by
  
  refine enterB (vs := [_]) Tryd.func50 rfl 20 rfl ((204, .cells b [.pointer none, v] 67 (0, 0)) :: L) hw ?_
  refine JQ.seq ?_
  refine JQ.region ?_
  refine JQ.v (JV.move rfl) rfl ?_
  refine JQ.v (JV.nilPtr rfl) rfl ?_
  refine JQ.v (JV.fieldAddrK (o := 0) rfl Tryd.runUnderlying67 rfl Tryd.sizeOf65 rfl rfl) rfl ?_
  refine JQ.v (JV.load1 204 rfl rfl Tryd.isAgg65 (rfl)) rfl ?_
  refine JQ.v (JV.eqlPN rfl rfl Tryd.underlying65) rfl ?_
  refine JQ.nil ?_
  refine JQ.n_then ?_
  refine JQ.condT rfl ?_
  refine JQ.region ?_
  refine JQ.v (JV.move rfl) rfl ?_
  refine JQ.v (JV.move rfl) rfl ?_
  refine JQ.v (JV.toUnsafe 204 (j := Tryd.t67) rfl rfl Tryd.underlying65 Tryd.underlying87 (by kernel_rfl) (by decide) (Nat.succ_pos _)) rfl ?_
  refine JQ.v (JV.ext (evs_cons rfl evs_nil) (fun w => by rw [run_callFunc_extern Tryd.func59 (by kernel_rfl) (by kernel_rfl) (by kernel_rfl) (e := Extern.AbiNoEscape.same) (by kernel_rfl)]; rfl)) rfl ?_
  refine JQ.v (JV.fromUnsafe 204 (j := Tryd.t67) rfl rfl Tryd.underlying87 Tryd.underlying65 (by kernel_rfl) (by kernel_rfl)) rfl ?_
  refine JQ.v (JV.nilPtr rfl) rfl ?_
  refine JQ.v (JV.fieldAddrK (o := 0) rfl Tryd.runUnderlying67 rfl Tryd.sizeOf65 rfl rfl) rfl ?_
  refine JQ.s (JO.store1 204 rfl rfl rfl rfl Tryd.sizeOf65 (Nat.le_of_ble_eq_true rfl)) ?_
  refine JQ.nil ?_
  refine JQ.to_ret ?_
  refine JQ.doneN Tryd.results50 ?_
  exact fun w hw => ⟨(), rfl, hw.sub sub_over1⟩

theorem copyCheck_used {w0 : World} {L : ML} (b : Nat) (v : Value) (w : World) (hw : MemOk w0 ((204, .cells b [.pointer (some ⟨b, 0, none⟩), v] 67 (0, 0)) :: L) w) :
    Calls Tryd.prog 50 #[.pointer (some ⟨b, 0, none⟩)] w fun e w' => ∃ _ : Unit, e = .returned (.tuple #[]) ∧ MemOk w0 ((204, .cells b [.pointer (some ⟨b, 0, none⟩), v] 67 (0, 0)) :: L) w' := by
  
  refine enterB (vs := [_]) Tryd.func50 rfl 20 rfl ((204, .cells b [.pointer (some ⟨b, 0, none⟩), v] 67 (0, 0)) :: L) hw ?_
  refine JQ.seq ?_
  refine JQ.region ?_
  refine JQ.v (JV.move rfl) rfl ?_
  refine JQ.v (JV.nilPtr rfl) rfl ?_
  refine JQ.v (JV.fieldAddrK (o := 0) rfl Tryd.runUnderlying67 rfl Tryd.sizeOf65 rfl rfl) rfl ?_
  refine JQ.v (JV.load1 204 rfl rfl Tryd.isAgg65 (rfl)) rfl ?_
  refine JQ.v (JV.eqlPS rfl rfl Tryd.underlying65) rfl ?_
  refine JQ.nil ?_
  refine JQ.n_then ?_
  refine JQ.condF rfl ?_
  refine JQ.seq ?_
  refine JQ.region ?_
  refine JQ.v (JV.move rfl) rfl ?_
  refine JQ.v (JV.nilPtr rfl) rfl ?_
  refine JQ.v (JV.fieldAddrK (o := 0) rfl Tryd.runUnderlying67 rfl Tryd.sizeOf65 rfl rfl) rfl ?_
  refine JQ.v (JV.load1 204 rfl rfl Tryd.isAgg65 (rfl)) rfl ?_
  refine JQ.v (JV.move rfl) rfl ?_
  refine JQ.v (JV.neqPP (j := Tryd.t67) rfl rfl Tryd.underlying65 (by kernel_rfl)) rfl ?_
  refine JQ.nil ?_
  refine JQ.n_then ?_
  refine JQ.condF rfl ?_
  refine JQ.skip ?_
  refine JQ.to_ret ?_
  refine JQ.doneN Tryd.results50 ?_
  exact fun w hw => ⟨(), rfl, hw.sub (fun _ _ h => h)⟩

theorem copyCheck_spec {w0 : World} {L : ML} (b : Nat) (p v : Value) (hp : p = .pointer none ∨ p = .pointer (some ⟨b, 0, none⟩)) (w : World) (hw : MemOk w0 ((204, .cells b [p, v] 67 (0, 0)) :: L) w) :
    Calls Tryd.prog 50 #[.pointer (some ⟨b, 0, none⟩)] w fun e w' => ∃ _ : Unit, e = .returned (.tuple #[]) ∧ MemOk w0 ((204, .cells b [.pointer (some ⟨b, 0, none⟩), v] 67 (0, 0)) :: L) w' := by
  rcases hp with rfl | rfl
  · exact copyCheck_new b v w hw
  · exact copyCheck_used b v w hw

theorem write_spec {w0 : World} {L : ML} (b : Nat) (p v : Value) (m l : List UInt8) (hp : p = .pointer none ∨ p = .pointer (some ⟨b, 0, none⟩)) (hm : m.length + l.length ≤ 140737488355328) (w : World) (pv : Value) (hw : MemOk w0 ((204, .cells b [p, v] 67 (0, 0)) :: (205, .row v 5 1 (m).length ((m).map b8)) :: (206, .ro pv 1 l.length (l.map b8)) :: L) w) :
    Calls Tryd.prog 43 #[.pointer (some ⟨b, 0, none⟩), pv] w fun e w' => ∃ v' : Value, e = .returned (.tuple #[.int .i64 (l.length : Int), .nilIface]) ∧ MemOk w0 ((204, .cells b [.pointer (some ⟨b, 0, none⟩), v'] 67 (0, 0)) :: (205, .row v' 5 1 (m ++ l).length ((m ++ l).map b8)) :: (206, .ro pv 1 l.length (l.map b8)) :: L) w' := by
  
  refine enterB (vs := [_, _]) Tryd.func43 rfl 19 rfl ((204, .cells b [p, v] 67 (0, 0)) :: (205, .row v 5 1 (m).length ((m).map b8)) :: (206, .ro pv 1 l.length (l.map b8)) :: L) hw ?_
  refine JQ.seq ?_
  refine JQ.region ?_
  refine JQ.v (JV.assign rfl) rfl ?_
  refine JQ.v (JV.assign rfl) rfl ?_
  refine JQ.nil ?_
  refine JQ.n_then ?_
  refine JQ.seq ?_
  refine JQ.region ?_
  refine JQ.v (JV.move rfl) rfl ?_
  refine JQ.x (JO.callC Tryd.call50 (evs_cons rfl evs_nil) (fun w hw => copyCheck_spec b p v hp w hw)) rfl ?_
  rintro ⟨⟩
  refine JQ.nil ?_
  refine JQ.n_then ?_
  refine JQ.seq ?_
  refine JQ.region ?_
  refine JQ.v (JV.move rfl) rfl ?_
  refine JQ.v (JV.move rfl) rfl ?_
  refine JQ.v (JV.nilPtr rfl) rfl ?_
  refine JQ.v (JV.fieldAddrK (o := 1) rfl Tryd.runUnderlying67 rfl Tryd.sizeOf45 rfl rfl) rfl ?_
  refine JQ.v (JV.load1 204 rfl rfl Tryd.isAgg45 (rfl)) rfl ?_
  refine JQ.v (JV.move rfl) rfl ?_
  refine JQ.x (JO.append 205 elem5 rfl rfl rfl (fun w hw => Src.rd Tryd.underlying45 (hw.reads (id := 206) rfl)) (allB _) (by omega) (by omega)) rfl ?_
  intro i2_6
  rw [← List.map_append, ← List.length_append]
  refine JQ.v (JV.nilPtr rfl) rfl ?_
  refine JQ.v (JV.fieldAddrK (o := 1) rfl Tryd.runUnderlying67 rfl Tryd.sizeOf45 rfl rfl) rfl ?_
  refine JQ.s (JO.store1R 204 205 rfl rfl rfl rfl Tryd.sizeOf45 (Nat.le_of_ble_eq_true rfl)) ?_
  refine JQ.nil ?_
  refine JQ.n_then ?_
  refine JQ.seq ?_
  refine JQ.region ?_
  refine JQ.v (JV.move rfl) rfl ?_
  refine JQ.v (JV.lenRo 206 rfl rfl Tryd.runUnderlying45) rfl ?_
  refine JQ.v (JV.assign rfl) rfl ?_
  refine JQ.v (JV.assign rfl) rfl ?_
  refine JQ.nil ?_
  refine JQ.n_then ?_
  refine JQ.ret ?_
  refine JQ.doneTT Tryd.results43 rfl rfl ?_
  exact fun w hw => ⟨_, rfl, hw.sub sub_over3⟩

theorem string_spec {w0 : World} {L : ML} (b : Nat) (p v : Value) (m : List UInt8) (h0 : 0 < m.length) (w : World) (hw : MemOk w0 ((204, .cells b [p, v] 67 (0, 0)) :: (205, .row v 5 1 (m).length ((m).map b8)) :: L) w) :
    Calls Tryd.prog 44 #[.pointer (some ⟨b, 0, none⟩)] w fun e w' => ∃ _ : Unit, e = .returned (str m) ∧ MemOk w0 ((205, .ro v 1 m.length (m.map b8)) :: (204, .cells b [p, v] 67 (0, 0)) :: (205, .row v 5 1 (m).length ((m).map b8)) :: L) w' := by
  
  refine enterB (vs := [_]) Tryd.func44 rfl 14 rfl ((204, .cells b [p, v] 67 (0, 0)) :: (205, .row v 5 1 (m).length ((m).map b8)) :: L) hw ?_
  refine JQ.seq ?_
  refine JQ.region ?_
  refine JQ.v (JV.assign rfl) rfl ?_
  refine JQ.nil ?_
  refine JQ.n_then ?_
  refine JQ.seq ?_
  refine JQ.any [_, _, _, _, _, _, _, _, _, _, _, _] [fun _ => [], fun _ => [], fun _ => [], fun _ => [], fun _ => [], fun _ => [], fun _ => [], fun _ => [], fun _ => [], fun _ => [], _, fun _ => []] [⟨[], [], [], []⟩, ⟨[], [], [], [0]⟩, ⟨[], [], [], [0, 1]⟩, ⟨[204], [], [], [0, 1, 2]⟩, ⟨[205], [], [], [0, 1, 2, 3]⟩, ⟨[], [], [], []⟩, ⟨[], [], [], [5]⟩, ⟨[], [], [], [5, 6]⟩, ⟨[204], [], [], [5, 6, 7]⟩, ⟨[205], [], [], [5, 6, 7, 8]⟩, ⟨[], [205], [], [0, 1, 2, 3, 4, 5, 6, 7, 8, 9]⟩, ⟨[], [], [], [0, 1, 2, 3, 4, 5, 6, 7, 8, 9, 10]⟩] Tryd.mixed rfl (by kernel_rfl) ⟨Ob.v rfl (fun _ _ h => by cases h) (fun _ _ _ => rfl) (fun e L' hL => JV.move rfl),
        Ob.v rfl (fun _ _ h => by cases h) (fun _ _ _ => rfl) (fun e L' hL => JV.nilPtr rfl),
        Ob.v rfl (fun _ _ h => by cases h) (fun _ _ _ => rfl) (fun e L' hL => JV.fieldAddrK (o := 1) rfl Tryd.runUnderlying67 rfl Tryd.sizeOf45 rfl rfl),
        Ob.v rfl (fun _ _ h => by cases h) (fun _ _ _ => rfl) (fun e L' hL => JV.load1 204 rfl ((hL 204 (by decide)).trans rfl) Tryd.isAgg45 (rfl)),
        Ob.v rfl (fun _ _ h => by cases h) (fun _ _ _ => rfl) (fun e L' hL => JV.sliceData 205 rfl ((hL 205 (by decide)).trans rfl) (h0)),
        Ob.v rfl (fun _ _ h => by cases h) (fun _ _ _ => rfl) (fun e L' hL => JV.move rfl),
        Ob.v rfl (fun _ _ h => by cases h) (fun _ _ _ => rfl) (fun e L' hL => JV.nilPtr rfl),
        Ob.v rfl (fun _ _ h => by cases h) (fun _ _ _ => rfl) (fun e L' hL => JV.fieldAddrK (o := 1) rfl Tryd.runUnderlying67 rfl Tryd.sizeOf45 rfl rfl),
        Ob.v rfl (fun _ _ h => by cases h) (fun _ _ _ => rfl) (fun e L' hL => JV.load1 204 rfl ((hL 204 (by decide)).trans rfl) Tryd.isAgg45 (rfl)),
        Ob.v rfl (fun _ _ h => by cases h) (fun _ _ _ => rfl) (fun e L' hL => JV.lenRow 205 rfl ((hL 205 (by decide)).trans rfl) Tryd.runUnderlying45),
        Ob.u 205 rfl (fun _ _ h => by cases h) (fun _ _ _ => ⟨rfl, rfl⟩) (by decide) (fun e L' hL => JO.unsafeStr 205 rfl rfl ((hL 205 (by decide)).trans rfl) (h0) Tryd.underlying77 (by kernel_rfl)),
        Ob.v rfl (fun _ _ h => by cases h) (fun _ _ _ => rfl) (fun e L' hL => JV.assign rfl), trivial⟩ (fun ev1 => ?_)
  simp only [endF, endL, putF, List.nil_append, List.cons_append]
  refine JQ.n_then ?_
  refine JQ.ret ?_
  refine JQ.done1 Tryd.results44 rfl ?_
  exact fun w hw => ⟨(), rfl, hw⟩

theorem string_at {w0 : World} {L : ML} (b : Nat) (p v : Value) (m : List UInt8) (h0 : 0 < m.length) (h4 : lr L 204 = some (.cells b [p, v] 67 (0, 0))) (h5 : lr L 205 = some (.row v 5 1 m.length (m.map b8))) (w : World) (hw : MemOk w0 L w) :
    Calls Tryd.prog 44 #[.pointer (some ⟨b, 0, none⟩)] w fun e w' => ∃ _ : Unit, e = .returned (str m) ∧ MemOk w0 ((205, .ro v 1 m.length (m.map b8)) :: L) w' :=
  (string_spec b p v m h0 w ((hw.dup h5).dup (id := 204) ((dup_sub h5 _ _ h4)))).mono fun e w' ⟨i, he, hM⟩ => ⟨i, he, hM.sub fun x s hx => by
    rw [lr_cons] at hx ⊢
    split at hx
    · rename_i e; rw [if_pos e]; exact hx
    · rename_i e; rw [if_neg e]; exact dup_sub (dup_sub h5 _ _ h4) _ _ (dup_sub h5 _ _ hx)⟩

theorem write_at {w0 : World} {L : ML} (b : Nat) (p v : Value) (m : List UInt8) (l : List UInt8) (hp : p = .pointer none ∨ p = .pointer (some ⟨b, 0, none⟩)) (hm : m.length + l.length ≤ 140737488355328) (pv : Value) (h6 : lr L 206 = some (.ro pv 1 l.length (l.map b8))) (h4 : lr L 204 = some (.cells b [p, v] 67 (0, 0))) (h5 : lr L 205 = some (.row v 5 1 m.length (m.map b8))) (w : World) (hw : MemOk w0 L w) :
    Calls Tryd.prog 43 #[.pointer (some ⟨b, 0, none⟩), pv] w fun e w' => ∃ v' : Value, e = .returned (.tuple #[.int .i64 (l.length : Int), .nilIface]) ∧ MemOk w0 ((204, .cells b [.pointer (some ⟨b, 0, none⟩), v'] 67 (0, 0)) :: (205, .row v' 5 1 (m ++ l).length ((m ++ l).map b8)) :: L) w' :=
  (write_spec b p v m l hp hm w pv (((hw.dup h6).dup (dup_sub h6 _ _ h5)).dup (id := 204) (dup_sub (dup_sub h6 _ _ h5) _ _ (dup_sub h6 _ _ h4)))).mono fun e w' ⟨i, he, hM⟩ => ⟨i, he, hM.sub fun x s hx => by
    rw [lr_cons] at hx ⊢
    split at hx
    · rename_i e; rw [if_pos e]; exact hx
    · rename_i e; rw [if_neg e]; rw [lr_cons] at hx ⊢; split at hx
      · rename_i e; rw [if_pos e]; exact hx
      · rename_i e; rw [if_neg e]; exact dup_sub h6 _ _ hx⟩
end Go.Fw
end
section
open Go.RowKit
set_option maxRecDepth 100000
set_option linter.unusedVariables false
set_option linter.unusedSimpArgs false
namespace Pl
def verify (p d t : List UInt8) : Bool := decide (recE t = 0) && decide (recK d t = p)
theorem verify_ok {p d t : List UInt8} (h : recE t = 0) : verify p d t = decide (recK d t = p) := by simp [verify, h]
theorem verify_no {p d t : List UInt8} (h : ¬ recE t = 0) : verify p d t = false := by simp [verify, h]
end Pl
namespace Go.Fw
open Go.Proofs
def selfP (b i : Nat) : Value := match i with | 0 => .pointer none | _ + 1 => .pointer (some ⟨b, 0, none⟩)
theorem selfP_or (b i : Nat) : selfP b i = .pointer none ∨ selfP b i = .pointer (some ⟨b, 0, none⟩) := by cases i <;> simp [selfP]
theorem getN (l : List Nat) (k : Nat) (h : k < l.length) : (l.map i64)[k]? = some (.int .i64 ((l.getD k 0 : Nat) : Int)) := by simp [h, i64]
theorem getDig (d : List UInt8) {k : Nat} (h : k < 35) : ((Pl.digits d).map i64)[k]? = some (.int .i64 ((Pl.dig d k : Nat) : Int)) := by
  rw [List.getElem?_map, Pl.dig_get d h]; rfl
theorem take_nextN {a b : List Nat} {i : Nat} (ha : i < a.length) (hb : i < b.length) (h : a.take i = b.take i) (h2 : a.getD i 0 = b.getD i 0) : a.take (i + 1) = b.take (i + 1) := by
  rw [List.take_succ_eq_append_getElem ha, List.take_succ_eq_append_getElem hb, h]
  simp [ha, hb] at h2
  rw [h2]
theorem dgs_set (d : List UInt8) (i : Nat) (h : i < 35) : ((Pl.dgs d i ++ List.replicate (35 - i) 0).map i64).set i (.int .i64 (((d.getD (i / 2) 0).toNat / 2 ^ (4 - 4 * (i % 2)) % 16 : Nat) : Int)) = (Pl.dgs d (i + 1) ++ List.replicate (35 - (i + 1)) 0).map i64 := by
  rw [show (Value.int .i64 (((d.getD (i / 2) 0).toNat / 2 ^ (4 - 4 * (i % 2)) % 16 : Nat) : Int)) = i64 (Pl.dg d i) from rfl, ← List.map_set, List.set_append_right _ _ (by rw [Pl.dgs_len]; exact Nat.le_refl _), Pl.dgs_len, Nat.sub_self, show 35 - i = (35 - (i + 1)) + 1 from by omega, List.replicate_succ, List.set_cons_zero, Pl.dgs]
  simp
theorem dgs_at (d : List UInt8) (i : Nat) (h : i < 35) : ((Pl.dgs d (i + 1) ++ List.replicate (35 - (i + 1)) 0).map i64)[i]? = some (.int .i64 ((Pl.dg d i : Nat) : Int)) := by
  rw [Pl.dgs, List.append_assoc, List.getElem?_map, List.getElem?_append_right (by rw [Pl.dgs_len]; exact Nat.le_refl _), Pl.dgs_len]
  simp [i64]
theorem digs_fin' (l : List Nat) (hl : l.length = 32) (x y z : Value) : ((((l ++ List.replicate (35 - 32) 0).map i64).set 34 x).set (34 - 1) y).set (34 - 1 - 1) z = l.map i64 ++ [z, y, x] := by
  have hm : (l.map i64).length = 32 := by rw [List.length_map, hl]
  rw [List.map_append, List.set_append_right _ _ (by omega), List.set_append_right _ _ (by omega), List.set_append_right _ _ (by omega), hm]
  rfl
theorem digs_fin (d : List UInt8) {l : List Nat} {s : Nat} (e1 : l = Pl.dgs d 32) (e2 : s = Pl.dsum d 32) : ((((l ++ List.replicate (35 - 32) 0).map i64).set 34 (.int .i64 ((s % 16 : Nat) : Int))).set (34 - 1) (.int .i64 ((s / 16 % 16 : Nat) : Int))).set (34 - 1 - 1) (.int .i64 ((s / 16 / 16 % 16 : Nat) : Int)) = (Pl.digits d).map i64 := by
  have h := Pl.ck_le d
  rw [digs_fin' l (by rw [e1, Pl.dgs_len]), Pl.digits_eq, List.map_append, e1]
  unfold Pl.ck at h ⊢
  rw [← e2] at h ⊢
  rw [show s / 256 = s / 16 / 16 % 16 from by omega]
  rfl
theorem digest_chunk (t : List UInt8) (ht : t.length = 560) (i : Nat) (hi : i < 35) : Pure Tryd.prog 36 #[str ((t.drop (16 * i)).take (t.length - 16 * i))] (.agg ((Pl.chunk t i).map b8).toArray) := by
  have e : ((t.drop (16 * i)).take (t.length - 16 * i)) = t.drop (16 * i) := List.take_of_length_le (by rw [List.length_drop]; exact Nat.le_refl _)
  have := digest_pure (t.drop (16 * i)) (by rw [List.length_drop, ht]; omega)
  rw [e]; exact this
theorem dgs0 (d : List UInt8) : Pl.dgs d 0 = [] := rfl
attribute [local irreducible] Pl.dgs
theorem digits_spec (d : List UInt8) (hd : d.length = 16) (w : World) :
    Calls Tryd.prog 13 #[.agg ((d).map b8).toArray] w fun e w' => ∃ v, e = .returned v ∧ NewRo w v 1 35 ((Pl.digits d).map i64) w' ∧ Below w.heap.size w w' := by
  
  refine enterA (vs := [_]) Tryd.func13 rfl 41 rfl [] (MemOk.start w) ?_
  refine JQ.seq ?_
  refine JQ.region ?_
  refine JQ.x (JO.box 1 rfl rfl) rfl ?_
  intro i0_0
  refine JQ.v (JV.assign rfl) rfl ?_
  refine JQ.nil ?_
  refine JQ.n_then ?_
  refine JQ.seq ?_
  refine JQ.region ?_
  refine JQ.x (JO.alloc 2 (zs := ((List.replicate 35 0).map i64)) Tryd.zeroValue47 rfl) rfl ?_
  intro i1_0
  refine JQ.nil ?_
  refine JQ.n_then ?_
  refine JQ.seq ?_
  refine JQ.region ?_
  refine JQ.v (JV.assign rfl) rfl ?_
  refine JQ.nil ?_
  refine JQ.n_then ?_
  refine JQ.seq ?_
  refine JQ.seq ?_
  refine JQ.region ?_
  refine JQ.v (JV.move rfl) rfl ?_
  refine JQ.nil ?_
  refine JQ.n_then ?_
  refine JQ.block ?_
  refine JQ.loopI (ι := Nat) (fun i => [(1, .pointer (some ⟨i0_0, 0, none⟩)), (3, .pointer (some ⟨i1_0, 0, none⟩)), (4, .int .i64 ((Pl.dsum d i : Nat) : Int)), (7, .int .i64 ((i : Nat) : Int))]) (fun i => [(1, .cells i0_0 (d.map b8) 23 (0, 0)), (2, .cells i1_0 ((Pl.dgs d i ++ List.replicate (35 - i) 0).map i64) 47 (0, 0))]) (fun i => i ≤ 32) (fun i => 32 - i) 0 (by omega) (subk_cons rfl (subk_cons rfl (subk_cons rfl (subk_cons rfl subk_nil)))) (subr_cons rfl (subr_cons (by rw [dgs0]; rfl) subr_nil)) ?_
  intro i hi
  have hds := Pl.dsum_le d i
  refine JQ.seq ?_
  refine JQ.region ?_
  refine JQ.v (JV.lssN (b := 32) rfl rfl) rfl ?_
  refine JQ.nil ?_
  refine JQ.n_then ?_
  refine JQ.seq ?_
  refine JQ.condP rfl (fun h8 => ?_) (fun h8 => ?_)
  · refine JQ.skip ?_
    refine JQ.n_then ?_
    refine JQ.seq ?_
    refine JQ.block ?_
    refine JQ.seq ?_
    refine JQ.region ?_
    refine JQ.v (JV.move rfl) rfl ?_
    refine JQ.v (JV.assign rfl) rfl ?_
    refine JQ.nil ?_
    refine JQ.n_then ?_
    refine JQ.seq ?_
    have hby := (d.getD (i / 2) 0).toNat_lt
    have hdv := Nat.div_le_self ((d.getD (i / 2) 0).toNat) (2 ^ (4 - 4 * (i % 2)))
    refine JQ.region ?_
    refine JQ.v (JV.move rfl) rfl ?_
    refine JQ.v (JV.move rfl) rfl ?_
    refine JQ.v (JV.quoN (b := 2) rfl rfl (by omega)) rfl ?_
    refine JQ.v (JV.idxArr0 rfl rfl Tryd.runUnderlying23 Tryd.sizeOf5 (by omega)) rfl ?_
    refine JQ.v (JV.load1 1 rfl rfl Tryd.isAgg5 (getB _ _ (by omega))) rfl ?_
    refine JQ.v (JV.move rfl) rfl ?_
    refine JQ.v (JV.remN (b := 2) rfl rfl (by omega)) rfl ?_
    refine JQ.v (JV.mulN (a := 4) rfl rfl (by omega)) rfl ?_
    refine JQ.v (JV.subN (a := 4) rfl rfl (by omega)) rfl ?_
    refine JQ.v (JV.shrU8 rfl rfl (by omega)) rfl ?_
    refine JQ.v (JV.convK Tryd.runUnderlying5 Tryd.runUnderlying3 rfl ((wrap_i64 (shr_fits (Nat.le_trans hdv (by omega)))))) rfl ?_
    refine JQ.v (JV.remN (b := 16) rfl rfl (by omega)) rfl ?_
    refine JQ.v (JV.idxArr0 rfl rfl Tryd.runUnderlying47 Tryd.sizeOf3 (by omega)) rfl ?_
    refine JQ.s (JO.store1 2 rfl rfl rfl rfl Tryd.sizeOf3 (by simp [Pl.dgs_len]; omega)) ?_
    rw [dgs_set d i (by omega)]
    refine JQ.nil ?_
    refine JQ.n_then ?_
    refine JQ.region ?_
    refine JQ.v (JV.move rfl) rfl ?_
    refine JQ.v (JV.move rfl) rfl ?_
    refine JQ.v (JV.idxArr0 rfl rfl Tryd.runUnderlying47 Tryd.sizeOf3 (by omega)) rfl ?_
    refine JQ.v (JV.load1 2 rfl rfl Tryd.isAgg3 (dgs_at d i (by omega))) rfl ?_
    refine JQ.v (JV.subN (a := 15) rfl rfl (by have := Pl.dg_le d i; omega)) rfl ?_
    refine JQ.v (JV.addN rfl rfl (by omega)) rfl ?_
    refine JQ.v (JV.assign rfl) rfl ?_
    refine JQ.nil ?_
    refine JQ.n_block ?_
    refine JQ.n_then ?_
    refine JQ.region ?_
    refine JQ.v (JV.addN (b := 1) rfl rfl (by omega)) rfl ?_
    refine JQ.v (JV.move rfl) rfl ?_
    refine JQ.nil ?_
    refine JQ.n_then ?_
    exact JQ.nextI (i + 1) (by omega) (by omega) (subk_cons rfl (subk_cons rfl (subk_cons rfl (subk_cons rfl subk_nil)))) (subr_cons rfl (subr_cons rfl subr_nil))
  · refine JQ.exit ?_
    refine JQ.e_then ?_
    refine JQ.e_then ?_
    refine JQ.e_here ?_
    refine JQ.n_then ?_
    refine JQ.seq ?_
    refine JQ.seq ?_
    refine JQ.region ?_
    refine JQ.v (JV.assign rfl) rfl ?_
    refine JQ.nil ?_
    refine JQ.n_then ?_
    refine JQ.block ?_
    obtain rfl : i = 32 := by omega
    refine JQ.rounds 4 ?_
    refine JQ.round ?_
    refine JQ.seq ?_
    refine JQ.seq ?_
    refine JQ.region ?_
    refine JQ.v (JV.move rfl) rfl ?_
    refine JQ.v (JV.geqN (a := 34) (b := 32) rfl rfl) rfl ?_
    refine JQ.nil ?_
    refine JQ.n_then ?_
    refine JQ.condT rfl ?_
    refine JQ.skip ?_
    refine JQ.n_then ?_
    refine JQ.seq ?_
    refine JQ.block ?_
    refine JQ.seq ?_
    refine JQ.region ?_
    refine JQ.v (JV.move rfl) rfl ?_
    refine JQ.v (JV.move rfl) rfl ?_
    refine JQ.v (JV.remN (b := 16) rfl rfl (by omega)) rfl ?_
    refine JQ.v (JV.idxArr0 (k := 34) rfl rfl Tryd.runUnderlying47 Tryd.sizeOf3 (by omega)) rfl ?_
    refine JQ.s (JO.store1 2 rfl rfl rfl rfl Tryd.sizeOf3 (by simp [Pl.dgs_len])) ?_
    refine JQ.nil ?_
    refine JQ.n_then ?_
    refine JQ.region ?_
    refine JQ.v (JV.move rfl) rfl ?_
    refine JQ.v (JV.quoN (b := 16) rfl rfl (by omega)) rfl ?_
    refine JQ.v (JV.assign rfl) rfl ?_
    refine JQ.nil ?_
    refine JQ.n_block ?_
    refine JQ.n_then ?_
    refine JQ.region ?_
    refine JQ.v (JV.move rfl) rfl ?_
    refine JQ.v (JV.subN (a := 34) (b := 1) rfl rfl (by omega)) rfl ?_
    refine JQ.v (JV.assign rfl) rfl ?_
    refine JQ.nil ?_
    refine JQ.n_then ?_
    refine JQ.round ?_
    refine JQ.seq ?_
    refine JQ.seq ?_
    refine JQ.region ?_
    refine JQ.v (JV.move rfl) rfl ?_
    refine JQ.v (JV.geqN (b := 32) rfl rfl) rfl ?_
    refine JQ.nil ?_
    refine JQ.n_then ?_
    refine JQ.condT rfl ?_
    refine JQ.skip ?_
    refine JQ.n_then ?_
    refine JQ.seq ?_
    refine JQ.block ?_
    refine JQ.seq ?_
    refine JQ.region ?_
    refine JQ.v (JV.move rfl) rfl ?_
    refine JQ.v (JV.move rfl) rfl ?_
    refine JQ.v (JV.remN (b := 16) rfl rfl (by omega)) rfl ?_
    refine JQ.v (JV.idxArr0 rfl rfl Tryd.runUnderlying47 Tryd.sizeOf3 (by omega)) rfl ?_
    refine JQ.s (JO.store1 2 rfl rfl rfl rfl Tryd.sizeOf3 (by simp [Pl.dgs_len])) ?_
    refine JQ.nil ?_
    refine JQ.n_then ?_
    refine JQ.region ?_
    refine JQ.v (JV.move rfl) rfl ?_
    refine JQ.v (JV.quoN (b := 16) rfl rfl (by omega)) rfl ?_
    refine JQ.v (JV.assign rfl) rfl ?_
    refine JQ.nil ?_
    refine JQ.n_block ?_
    refine JQ.n_then ?_
    refine JQ.region ?_
    refine JQ.v (JV.move rfl) rfl ?_
    refine JQ.v (JV.subN (b := 1) rfl rfl (by omega)) rfl ?_
    refine JQ.v (JV.assign rfl) rfl ?_
    refine JQ.nil ?_
    refine JQ.n_then ?_
    refine JQ.round ?_
    refine JQ.seq ?_
    refine JQ.seq ?_
    refine JQ.region ?_
    refine JQ.v (JV.move rfl) rfl ?_
    refine JQ.v (JV.geqN (b := 32) rfl rfl) rfl ?_
    refine JQ.nil ?_
    refine JQ.n_then ?_
    refine JQ.condT rfl ?_
    refine JQ.skip ?_
    refine JQ.n_then ?_
    refine JQ.seq ?_
    refine JQ.block ?_
    refine JQ.seq ?_
    refine JQ.region ?_
    refine JQ.v (JV.move rfl) rfl ?_
    refine JQ.v (JV.move rfl) rfl ?_
    refine JQ.v (JV.remN (b := 16) rfl rfl (by omega)) rfl ?_
    refine JQ.v (JV.idxArr0 rfl rfl Tryd.runUnderlying47 Tryd.sizeOf3 (by omega)) rfl ?_
    refine JQ.s (JO.store1 2 rfl rfl rfl rfl Tryd.sizeOf3 (by simp [Pl.dgs_len])) ?_
    refine JQ.nil ?_
    refine JQ.n_then ?_
    refine JQ.region ?_
    refine JQ.v (JV.move rfl) rfl ?_
    refine JQ.v (JV.quoN (b := 16) rfl rfl (by omega)) rfl ?_
    refine JQ.v (JV.assign rfl) rfl ?_
    refine JQ.nil ?_
    refine JQ.n_block ?_
    refine JQ.n_then ?_
    refine JQ.region ?_
    refine JQ.v (JV.move rfl) rfl ?_
    refine JQ.v (JV.subN (b := 1) rfl rfl (by omega)) rfl ?_
    refine JQ.v (JV.assign rfl) rfl ?_
    refine JQ.nil ?_
    refine JQ.n_then ?_
    refine JQ.round ?_
    refine JQ.seq ?_
    refine JQ.seq ?_
    refine JQ.region ?_
    refine JQ.v (JV.move rfl) rfl ?_
    refine JQ.v (JV.geqN (b := 32) rfl rfl) rfl ?_
    refine JQ.nil ?_
    refine JQ.n_then ?_
    refine JQ.condF rfl ?_
    refine JQ.exit ?_
    refine JQ.e_then ?_
    refine JQ.e_then ?_
    refine JQ.e_here ?_
    refine JQ.n_then ?_
    refine JQ.seq ?_
    refine JQ.region ?_
    refine JQ.v (JV.sliceArr rfl Tryd.runUnderlying47 Tryd.sizeOf3 rfl rfl (by omega) (by omega) (by omega)) rfl ?_
    refine JQ.v (JV.assign rfl) rfl ?_
    refine JQ.nil ?_
    refine JQ.n_then ?_
    refine JQ.ret ?_
    refine JQ.done1 Tryd.results13 rfl ?_
    exact fun w hw => ⟨_, rfl, newRo_cells hw (id := 2) (us := ((Pl.digits d).map i64)) (e := 47) (fz := (0, 0)) (by rw [← digs_fin d rfl rfl]; rfl) (by simp [Pl.digits_len]) (by decide), hw.below⟩

theorem same_spec (v1 v2 : Value) (xs ys : List Nat) (hl1 : xs.length ≤ 9223372036854775807) (hl2 : ys.length ≤ 9223372036854775807) (w : World) (h1 : Reads w v1 1 xs.length (xs.map i64)) (h2 : Reads w v2 1 ys.length (ys.map i64)) :
    Calls Tryd.prog 12 #[v1, v2] w fun e w' => e = .returned (.bool (decide (xs = ys))) ∧ Below w.heap.size w w' := by
  
  refine enterA (vs := [_, _]) Tryd.func12 rfl 26 rfl [(100, .ro v1 1 xs.length (xs.map i64)), (101, .ro v2 1 ys.length (ys.map i64))] ((MemOk.start1 101 h2).addRo 100 h1 (ro_cons ro_nil)) ?_
  refine JQ.seq ?_
  refine JQ.region ?_
  refine JQ.v (JV.assign rfl) rfl ?_
  refine JQ.nil ?_
  refine JQ.n_then ?_
  refine JQ.seq ?_
  refine JQ.seq ?_
  refine JQ.region ?_
  refine JQ.v (JV.move rfl) rfl ?_
  refine JQ.v (JV.lenRo 100 rfl rfl Tryd.runUnderlying29) rfl ?_
  refine JQ.v (JV.move rfl) rfl ?_
  refine JQ.v (JV.lenRo 101 rfl rfl Tryd.runUnderlying29) rfl ?_
  by_cases hs1_4 : xs.length ≠ ys.length
  · refine JQ.v (JV.tt (JV.neqN rfl rfl) hs1_4) rfl ?_
    refine JQ.nil ?_
    refine JQ.n_then ?_
    refine JQ.condT rfl ?_
    refine JQ.seq ?_
    refine JQ.region ?_
    refine JQ.v (JV.assign rfl) rfl ?_
    refine JQ.nil ?_
    refine JQ.n_then ?_
    refine JQ.ret ?_
    refine JQ.r_then ?_
    refine JQ.done1 Tryd.results12 rfl ?_
    exact fun w hw => ⟨by rw [decide_eq_false (fun h => hs1_4 (by rw [h]))], hw.below⟩
  · refine JQ.v (JV.ff (JV.neqN rfl rfl) hs1_4) rfl ?_
    refine JQ.nil ?_
    refine JQ.n_then ?_
    refine JQ.condF rfl ?_
    refine JQ.skip ?_
    refine JQ.n_then ?_
    refine JQ.seq ?_
    refine JQ.seq ?_
    refine JQ.region ?_
    refine JQ.v (JV.assign rfl) rfl ?_
    refine JQ.nil ?_
    refine JQ.n_then ?_
    refine JQ.block ?_
    refine JQ.loopI (ι := Nat) (fun i => [(0, v1), (1, v2), (5, .int .i64 ((i : Nat) : Int))]) (fun i => [(100, .ro v1 1 xs.length (xs.map i64)), (101, .ro v2 1 ys.length (ys.map i64))]) (fun i => i ≤ xs.length ∧ xs.take i = ys.take i) (fun i => xs.length - i) 0 ⟨Nat.zero_le _, by simp⟩ (subk_cons rfl (subk_cons rfl (subk_cons rfl subk_nil))) (subr_cons rfl (subr_cons rfl subr_nil)) ?_
    intro i hi
    have hi1 := hi.1
    refine JQ.seq ?_
    refine JQ.seq ?_
    refine JQ.region ?_
    refine JQ.v (JV.move rfl) rfl ?_
    refine JQ.v (JV.move rfl) rfl ?_
    refine JQ.v (JV.lenRo 100 rfl rfl Tryd.runUnderlying29) rfl ?_
    refine JQ.v (JV.lssN rfl rfl) rfl ?_
    refine JQ.nil ?_
    refine JQ.n_then ?_
    refine JQ.condP rfl (fun h14 => ?_) (fun h14 => ?_)
    · refine JQ.skip ?_
      refine JQ.n_then ?_
      refine JQ.seq ?_
      refine JQ.block ?_
      refine JQ.seq ?_
      refine JQ.any [_, _, _, _, _, _, _, _, _] [fun _ => [], fun _ => [], fun _ => [], fun _ => [], fun _ => [], fun _ => [], fun _ => [], fun _ => [], fun _ => []] [⟨[], [], [], []⟩, ⟨[], [], [], []⟩, ⟨[100], [], [], [0, 1]⟩, ⟨[100], [], [], [0, 1, 2]⟩, ⟨[], [], [], []⟩, ⟨[], [], [], []⟩, ⟨[101], [], [], [4, 5]⟩, ⟨[101], [], [], [4, 5, 6]⟩, ⟨[], [], [], [0, 1, 2, 3, 4, 5, 6, 7]⟩] Tryd.mixed rfl (by kernel_rfl) ⟨Ob.v rfl (fun _ _ h => by cases h) (fun _ _ _ => rfl) (fun e L' hL => JV.move rfl),
                Ob.v rfl (fun _ _ h => by cases h) (fun _ _ _ => rfl) (fun e L' hL => JV.move rfl),
                Ob.v rfl (fun _ _ h => by cases h) (fun _ _ _ => rfl) (fun e L' hL => JV.idxRo1 100 rfl rfl ((hL 100 (by decide)).trans rfl) Tryd.runUnderlying29 Tryd.sizeOf3 (by decide) (by omega)),
                Ob.v rfl (fun _ _ h => by cases h) (fun _ _ _ => rfl) (fun e L' hL => JV.loadR 100 rfl ((hL 100 (by decide)).trans rfl) Tryd.isAgg3 (getN _ _ (by omega))),
                Ob.v rfl (fun _ _ h => by cases h) (fun _ _ _ => rfl) (fun e L' hL => JV.move rfl),
                Ob.v rfl (fun _ _ h => by cases h) (fun _ _ _ => rfl) (fun e L' hL => JV.move rfl),
                Ob.v rfl (fun _ _ h => by cases h) (fun _ _ _ => rfl) (fun e L' hL => JV.idxRo1 101 rfl rfl ((hL 101 (by decide)).trans rfl) Tryd.runUnderlying29 Tryd.sizeOf3 (by decide) (by omega)),
                Ob.v rfl (fun _ _ h => by cases h) (fun _ _ _ => rfl) (fun e L' hL => JV.loadR 101 rfl ((hL 101 (by decide)).trans rfl) Tryd.isAgg3 (getN _ _ (by omega))),
                Ob.v rfl (fun _ _ h => by cases h) (fun _ _ _ => rfl) (fun e L' hL => JV.neqN rfl rfl), trivial⟩ (fun ev6 => ?_)
      simp only [endF, endL, putF, List.nil_append, List.cons_append]
      refine JQ.n_then ?_
      refine JQ.condP rfl (fun h25 => ?_) (fun h25 => ?_)
      · refine JQ.seq ?_
        refine JQ.region ?_
        refine JQ.v (JV.assign rfl) rfl ?_
        refine JQ.nil ?_
        refine JQ.n_then ?_
        refine JQ.ret ?_
        refine JQ.r_block ?_
        refine JQ.r_then ?_
        refine JQ.r_then ?_
        refine JQ.r_block ?_
        refine JQ.r_then ?_
        refine JQ.done1 Tryd.results12 rfl ?_
        exact fun w hw => ⟨by rw [decide_eq_false (fun h => h25 (by rw [h]))], hw.below⟩
      · refine JQ.skip ?_
        refine JQ.n_block ?_
        refine JQ.n_then ?_
        refine JQ.region ?_
        refine JQ.v (JV.move rfl) rfl ?_
        refine JQ.v (JV.addN (b := 1) rfl rfl (by omega)) rfl ?_
        refine JQ.v (JV.assign rfl) rfl ?_
        refine JQ.nil ?_
        refine JQ.n_then ?_
        exact JQ.nextI (i + 1) ⟨by omega, take_nextN (by omega) (by omega) hi.2 (by omega)⟩ (by omega) (subk_cons rfl (subk_cons rfl (subk_cons rfl subk_nil))) (subr_cons rfl (subr_cons rfl subr_nil))
    · refine JQ.exit ?_
      refine JQ.e_then ?_
      refine JQ.e_then ?_
      refine JQ.e_here ?_
      refine JQ.n_then ?_
      refine JQ.seq ?_
      refine JQ.region ?_
      refine JQ.v (JV.assign rfl) rfl ?_
      refine JQ.nil ?_
      refine JQ.n_then ?_
      refine JQ.ret ?_
      refine JQ.done1 Tryd.results12 rfl ?_
      exact fun w hw => ⟨by rw [decide_eq_true (by have h := hi.2; rwa [List.take_of_length_le (by omega), List.take_of_length_le (by omega)] at h)], hw.below⟩

theorem pub1_spec (b : Nat) (s : List UInt8) (hs : s.length ≤ 1048576) (k : Nat) (hk : k < 35) (w : World) (hG : Gl 1 (Pl.K.map u32) w) (hr : Reads w (gv b 1) 1 1 [str s]) :
    Calls Tryd.prog 28 #[.int .i64 (k : Int), .pointer (some ⟨b, 0, none⟩)] w fun e w' => e = .returned (.agg ((Pl.pubV s k).map b8).toArray) ∧ Below w.heap.size w w' := by
  
  refine enterA (vs := [_, _]) Tryd.func28 rfl 9 rfl [(901, .ro (gv 1 64) 1 64 (Pl.K.map u32)), (100, .ro (gv b 1) 1 1 [str s])] ((MemOk.start1 100 hr).addRo 901 hG (ro_cons ro_nil)) ?_
  refine JQ.seq ?_
  refine JQ.region ?_
  refine JQ.x (JO.alloc 1 (zs := ((List.replicate 16 0).map b8)) Tryd.zeroValue23 rfl) rfl ?_
  intro i0_0
  refine JQ.nil ?_
  refine JQ.n_then ?_
  refine JQ.seq ?_
  refine JQ.region ?_
  refine JQ.v (JV.move rfl) rfl ?_
  refine JQ.v (JV.loadG1 100 rfl rfl Tryd.isAgg9 (rfl)) rfl ?_
  refine JQ.v (JV.move rfl) rfl ?_
  refine JQ.v (JV.callM Tryd.call29 (evs_cons rfl (evs_cons rfl evs_nil)) (fun w hw => start_spec s hs k (by omega) w (hw.reads (id := 901) rfl))) rfl ?_
  refine JQ.v (JV.callM Tryd.call21 (evs_cons rfl (evs_cons rfl (evs_cons rfl (evs_cons rfl evs_nil)))) (fun w hw => adv_spec k 0 15 (Pl.start s k) (Pl.start_len s k) w (hw.reads (id := 901) rfl))) rfl ?_
  refine JQ.s (JO.storeV 1 rfl rfl rfl (us := (Pl.pubV s k).map b8) (allB _) Tryd.sizeOf23 (by simp [Pl.pubV_len]) rfl) ?_
  refine JQ.nil ?_
  refine JQ.n_then ?_
  refine JQ.ret ?_
  refine JQ.doneC 1 Tryd.results28 rfl rfl Tryd.isAgg23 Tryd.sizeOf23 (by simp [Pl.pubV_len]) ?_
  exact fun w hw => ⟨rfl, hw.below⟩

theorem sign1_spec (b1 b2 : Nat) (s : List UInt8) (hs : s.length ≤ 1048576) (d : List UInt8) (hv : Value) (k : Nat) (hk : k < 35) (w : World) (hG : Gl 1 (Pl.K.map u32) w) (h1 : Reads w (gv b1 1) 1 1 [hv]) (h2 : Reads w (gv b2 1) 1 1 [str s]) (h3 : Reads w hv 1 35 ((Pl.digits d).map i64)) :
    Calls Tryd.prog 32 #[.int .i64 (k : Int), .pointer (some ⟨b1, 0, none⟩), .pointer (some ⟨b2, 0, none⟩)] w fun e w' => e = .returned (.agg (((Pl.sigV s d k)).map b8).toArray) ∧ Below w.heap.size w w' := by
  
  refine enterA (vs := [_, _, _]) Tryd.func32 rfl 14 rfl [(901, .ro (gv 1 64) 1 64 (Pl.K.map u32)), (100, .ro (gv b1 1) 1 1 [hv]), (101, .ro (gv b2 1) 1 1 [str s]), (102, .ro hv 1 35 ((Pl.digits d).map i64))] ((((MemOk.start1 102 h3).addRo 101 h2 (ro_cons ro_nil)).addRo 100 h1 (ro_cons (ro_cons ro_nil))).addRo 901 hG (ro_cons (ro_cons (ro_cons ro_nil)))) ?_
  refine JQ.seq ?_
  refine JQ.region ?_
  refine JQ.x (JO.alloc 1 (zs := ((List.replicate 16 0).map b8)) Tryd.zeroValue23 rfl) rfl ?_
  intro i0_0
  refine JQ.nil ?_
  refine JQ.n_then ?_
  refine JQ.seq ?_
  refine JQ.any [_, _, _, _, _, _, _, _, _, _] [fun _ => [], fun _ => [], fun _ => [], fun _ => [], fun _ => [], fun _ => [], fun _ => [], fun _ => [], fun _ => [], _] [⟨[], [], [], []⟩, ⟨[100, 100], [], [], []⟩, ⟨[], [], [], []⟩, ⟨[102], [], [], [1, 2]⟩, ⟨[102], [], [], [1, 2, 3]⟩, ⟨[101, 101], [], [], []⟩, ⟨[], [], [], []⟩, ⟨[901], [], [], [5, 6]⟩, ⟨[901], [], [], [0, 1, 2, 3, 4, 5, 6, 7]⟩, ⟨[], [1], [], [0, 1, 2, 3, 4, 5, 6, 7, 8]⟩] Tryd.mixed rfl (by kernel_rfl) ⟨Ob.v rfl (fun _ _ h => by cases h) (fun _ _ _ => rfl) (fun e L' hL => JV.move rfl),
        Ob.v rfl (fun _ _ h => by cases h) (fun _ _ _ => rfl) (fun e L' hL => JV.loadG1 100 rfl ((hL 100 (by decide)).trans rfl) Tryd.isAgg29 (rfl)),
        Ob.v rfl (fun _ _ h => by cases h) (fun _ _ _ => rfl) (fun e L' hL => JV.move rfl),
        Ob.v rfl (fun _ _ h => by cases h) (fun _ _ _ => rfl) (fun e L' hL => JV.idxRo1 102 rfl rfl ((hL 102 (by decide)).trans rfl) Tryd.runUnderlying29 Tryd.sizeOf3 (by decide) (by omega)),
        Ob.v rfl (fun _ _ h => by cases h) (fun _ _ _ => rfl) (fun e L' hL => JV.loadR 102 rfl ((hL 102 (by decide)).trans rfl) Tryd.isAgg3 (getDig d (by omega))),
        Ob.v rfl (fun _ _ h => by cases h) (fun _ _ _ => rfl) (fun e L' hL => JV.loadG1 101 rfl ((hL 101 (by decide)).trans rfl) Tryd.isAgg9 (rfl)),
        Ob.v rfl (fun _ _ h => by cases h) (fun _ _ _ => rfl) (fun e L' hL => JV.move rfl),
        Ob.v rfl (fun _ _ h => by cases h) (fun _ _ _ => rfl) (fun e L' hL => JV.callM Tryd.call29 (evs_cons rfl (evs_cons rfl evs_nil)) (fun w hw => start_spec s hs k (by omega) w (hw.reads (id := 901) ((hL 901 (by decide)).trans rfl)))),
        Ob.v rfl (fun _ _ h => by cases h) (fun _ _ _ => rfl) (fun e L' hL => JV.callM Tryd.call21 (evs_cons rfl (evs_cons rfl (evs_cons rfl (evs_cons rfl evs_nil)))) (fun w hw => adv_spec k 0 (Pl.dig d k : Nat) (Pl.start s k) (Pl.start_len s k) w (hw.reads (id := 901) ((hL 901 (by decide)).trans rfl)))),
        Ob.s 1 rfl (fun _ _ h => by cases h) (fun _ _ _ => rfl) (fun e L' hL => JO.storeV 1 rfl ((hL 1 (by decide)).trans rfl) rfl (us := (Pl.sigV s d k).map b8) (allB _) Tryd.sizeOf23 (by simp [Pl.sigV_len]) rfl), trivial⟩ (fun ev1 => ?_)
  simp only [endF, endL, putF, List.nil_append, List.cons_append]
  refine JQ.n_then ?_
  refine JQ.ret ?_
  refine JQ.doneC 1 Tryd.results32 rfl rfl Tryd.isAgg23 Tryd.sizeOf23 (by simp [Pl.sigV_len]) ?_
  exact fun w hw => ⟨rfl, hw.below⟩

theorem rec1_spec (b1 b2 : Nat) (t d : List UInt8) (ht : t.length = 560) (hv : Value) (k : Nat) (hk : k < 35) (w : World) (hG : Gl 1 (Pl.K.map u32) w) (h1 : Reads w (gv b1 1) 1 1 [str t]) (h2 : Reads w (gv b2 1) 1 1 [hv]) (h3 : Reads w hv 1 35 ((Pl.digits d).map i64)) :
    Calls Tryd.prog 27 #[.int .i64 (k : Int), .pointer (some ⟨b1, 0, none⟩), .pointer (some ⟨b2, 0, none⟩)] w fun e w' => e = .returned (.agg (((Pl.endV d t k)).map b8).toArray) ∧ Below w.heap.size w w' := by
  
  refine enterA (vs := [_, _, _]) Tryd.func27 rfl 23 rfl [(901, .ro (gv 1 64) 1 64 (Pl.K.map u32)), (100, .ro (gv b1 1) 1 1 [str t]), (101, .ro (gv b2 1) 1 1 [hv]), (102, .ro hv 1 35 ((Pl.digits d).map i64))] ((((MemOk.start1 102 h3).addRo 101 h2 (ro_cons ro_nil)).addRo 100 h1 (ro_cons (ro_cons ro_nil))).addRo 901 hG (ro_cons (ro_cons (ro_cons ro_nil)))) ?_
  refine JQ.seq ?_
  refine JQ.region ?_
  refine JQ.x (JO.alloc 1 (zs := ((List.replicate 16 0).map b8)) Tryd.zeroValue23 rfl) rfl ?_
  intro i0_0
  refine JQ.nil ?_
  refine JQ.n_then ?_
  refine JQ.seq ?_
  refine JQ.region ?_
  refine JQ.v (JV.loadG1 100 rfl rfl Tryd.isAgg9 (rfl)) rfl ?_
  refine JQ.v (JV.move rfl) rfl ?_
  refine JQ.v (JV.mulN (b := 16) rfl rfl (by omega)) rfl ?_
  refine JQ.v (JV.move rfl) rfl ?_
  refine JQ.v (JV.addN (b := 1) rfl rfl (by omega)) rfl ?_
  refine JQ.v (JV.mulN (b := 16) rfl rfl (by omega)) rfl ?_
  refine JQ.v (JV.sliceStr (l := t) rfl Tryd.runUnderlying9 (bnd_some rfl) (bnd_some rfl) (by omega) (by omega)) rfl ?_
  rw [show ((t.drop (k * 16)).take ((k + 1) * 16 - k * 16)) = Pl.chunk t k from by rw [Pl.chunk, show (k + 1) * 16 - k * 16 = 16 from by omega, Nat.mul_comm k 16]]
  refine JQ.x (JO.strBytes 2 (l := (Pl.chunk t k)) Tryd.runUnderlying9 Tryd.runUnderlying45 Tryd.runUnderlying5 rfl (by rw [Pl.chunk_len ht hk]; decide)) rfl ?_
  intro i1_7
  refine JQ.v (JV.toArr rfl Tryd.runUnderlying23 (by rw [Pl.chunk_len ht hk]; exact Nat.le_refl _)) rfl ?_
  refine JQ.v (JV.loadRA 2 rfl rfl Tryd.isAgg23 Tryd.sizeOf23 (us := (Pl.chunk t k).map b8) (by rw [List.drop_zero]; exact List.take_of_length_le (by rw [List.length_map, Pl.chunk_len ht hk]; exact Nat.le_refl _)) (by rw [List.length_map, Pl.chunk_len ht hk]) (by decide)) rfl ?_
  refine JQ.x (JO.alloc 3 (zs := ((List.replicate 16 0).map b8)) Tryd.zeroValue23 rfl) rfl ?_
  intro i1_10
  refine JQ.s (JO.storeV 3 rfl rfl rfl (us := (Pl.chunk t k).map b8) (allB _) Tryd.sizeOf23 (by rw [List.length_map, Pl.chunk_len ht hk]) rfl) ?_
  refine JQ.nil ?_
  refine JQ.n_then ?_
  refine JQ.seq ?_
  refine JQ.any [_, _, _, _, _, _, _, _] [fun _ => [], fun _ => [], fun _ => [], fun _ => [], fun _ => [], fun _ => [], fun _ => [], _] [⟨[], [], [], []⟩, ⟨[101, 101], [], [], []⟩, ⟨[], [], [], []⟩, ⟨[102], [], [], [1, 2]⟩, ⟨[102], [], [], [1, 2, 3]⟩, ⟨[3], [], [], []⟩, ⟨[901], [], [], [0, 1, 2, 3, 4, 5]⟩, ⟨[], [1], [], [0, 1, 2, 3, 4, 5, 6]⟩] Tryd.mixed rfl (by kernel_rfl) ⟨Ob.v rfl (fun _ _ h => by cases h) (fun _ _ _ => rfl) (fun e L' hL => JV.move rfl),
        Ob.v rfl (fun _ _ h => by cases h) (fun _ _ _ => rfl) (fun e L' hL => JV.loadG1 101 rfl ((hL 101 (by decide)).trans rfl) Tryd.isAgg29 (rfl)),
        Ob.v rfl (fun _ _ h => by cases h) (fun _ _ _ => rfl) (fun e L' hL => JV.move rfl),
        Ob.v rfl (fun _ _ h => by cases h) (fun _ _ _ => rfl) (fun e L' hL => JV.idxRo1 102 rfl rfl ((hL 102 (by decide)).trans rfl) Tryd.runUnderlying29 Tryd.sizeOf3 (by decide) (by omega)),
        Ob.v rfl (fun _ _ h => by cases h) (fun _ _ _ => rfl) (fun e L' hL => JV.loadR 102 rfl ((hL 102 (by decide)).trans rfl) Tryd.isAgg3 (getDig d (by omega))),
        Ob.v rfl (fun _ _ h => by cases h) (fun _ _ _ => rfl) (fun e L' hL => JV.loadV 3 rfl ((hL 3 (by decide)).trans rfl) Tryd.isAgg23 Tryd.sizeOf23 (by rw [List.length_map, Pl.chunk_len ht hk])),
        Ob.v rfl (fun _ _ h => by cases h) (fun _ _ _ => rfl) (fun e L' hL => JV.callM Tryd.call21 (evs_cons rfl (evs_cons rfl (evs_cons rfl (evs_cons rfl evs_nil)))) (fun w hw => adv_spec k (Pl.dig d k : Nat) 15 (Pl.chunk t k) (Pl.chunk_len ht hk) w (hw.reads (id := 901) ((hL 901 (by decide)).trans rfl)))),
        Ob.s 1 rfl (fun _ _ h => by cases h) (fun _ _ _ => rfl) (fun e L' hL => JO.storeV 1 rfl ((hL 1 (by decide)).trans rfl) rfl (us := (Pl.adv (k : Int) ((Pl.dig d k : Nat) : Int) 15 (Pl.chunk t k)).map b8) (allB _) Tryd.sizeOf23 (by rw [List.length_map, Pl.adv_len _ _ _ (Pl.chunk_len ht hk)]) rfl), trivial⟩ (fun ev2 => ?_)
  simp only [endF, endL, putF, List.nil_append, List.cons_append]
  refine JQ.n_then ?_
  refine JQ.ret ?_
  refine JQ.doneC 1 Tryd.results27 rfl rfl Tryd.isAgg23 Tryd.sizeOf23 (by rw [List.length_map, Pl.adv_len _ _ _ (Pl.chunk_len ht hk)]) ?_
  exact fun w hw => ⟨by rw [Pl.endV, if_pos hk], hw.below⟩

theorem join_spec (f : FuncId) (us : List Value) (hb : HasBody Tryd.prog f) (V : Nat → List UInt8) (hV : ∀ k, (V k).length = 16) (w : World) (hf : ∀ k : Nat, k < 35 → ∀ w', Below w.heap.size w w' → Calls Tryd.prog f ([Value.int .i64 (k : Int)] ++ us).toArray w' fun e w'' => e = .returned (.agg ((V k).map b8).toArray) ∧ Below w'.heap.size w' w'') :
    Calls Tryd.prog 26 #[.func (.func f) #[] us.toArray] w fun e w' => e = .returned (str (Pl.catN V 35)) ∧ Below w.heap.size w w' := by
  
  refine enterA (vs := [_]) Tryd.func26 rfl 16 rfl [] (MemOk.start w) ?_
  refine JQ.seq ?_
  refine JQ.region ?_
  refine JQ.v (JV.assign rfl) rfl ?_
  refine JQ.nil ?_
  refine JQ.n_then ?_
  refine JQ.seq ?_
  refine JQ.region ?_
  refine JQ.x (JO.alloc 204 (zs := [.pointer none, .slice none 0 0]) Tryd.zeroValue67 rfl) rfl ?_
  intro i1_0
  refine JQ.nilRow 205 5 1 ?_
  refine JQ.nil ?_
  refine JQ.n_then ?_
  refine JQ.seq ?_
  refine JQ.seq ?_
  refine JQ.region ?_
  refine JQ.v (JV.move rfl) rfl ?_
  refine JQ.nil ?_
  refine JQ.n_then ?_
  refine JQ.block ?_
  refine JQ.loopI (ι := Nat × Value) (fun i => [(0, .func (.func f) #[] us.toArray), (3, .pointer (some ⟨i1_0, 0, none⟩)), (6, .int .i64 ((i.1 : Nat) : Int))]) (fun i => [(204, .cells i1_0 [selfP i1_0 i.1, i.2] 67 (0, 0)), (205, .row i.2 5 1 (Pl.catN V i.1).length ((Pl.catN V i.1).map b8))]) (fun i => i.1 ≤ 35) (fun i => 35 - i.1) (0, .slice none 0 0) (Nat.zero_le _) (subk_cons rfl (subk_cons rfl (subk_cons rfl subk_nil))) (subr_cons rfl (subr_cons rfl subr_nil)) ?_
  intro i hi
  refine JQ.seq ?_
  refine JQ.region ?_
  refine JQ.v (JV.lssN (b := 35) rfl rfl) rfl ?_
  refine JQ.nil ?_
  refine JQ.n_then ?_
  refine JQ.seq ?_
  refine JQ.condP rfl (fun h7 => ?_) (fun h7 => ?_)
  · refine JQ.skip ?_
    refine JQ.n_then ?_
    refine JQ.seq ?_
    refine JQ.block ?_
    refine JQ.seq ?_
    refine JQ.region ?_
    refine JQ.v (JV.move rfl) rfl ?_
    refine JQ.v (JV.assign rfl) rfl ?_
    refine JQ.nil ?_
    refine JQ.n_then ?_
    refine JQ.seq ?_
    refine JQ.region ?_
    refine JQ.v (JV.move rfl) rfl ?_
    refine JQ.v (JV.move rfl) rfl ?_
    refine JQ.v (JV.callvM (fs := []) rfl hb (evs_cons rfl evs_nil) (fun w hw => hf i.1 (by omega) w hw.below)) rfl ?_
    refine JQ.x (JO.alloc 206 (zs := ((List.replicate 16 0).map b8)) Tryd.zeroValue23 rfl) rfl ?_
    intro i5_3
    refine JQ.s (JO.storeV 206 rfl rfl rfl (us := (V i.1).map b8) (allB _) Tryd.sizeOf23 (by rw [List.length_map, hV]) rfl) ?_
    refine JQ.nil ?_
    refine JQ.n_then ?_
    refine JQ.region ?_
    refine JQ.v (JV.sliceArr rfl Tryd.runUnderlying23 Tryd.sizeOf5 rfl rfl (by omega) (by omega) (by omega)) rfl ?_
    refine JQ.roCells 206 (n := 16) rfl (by rw [List.length_map, hV]) (by decide) ?_
    refine JQ.x (JO.callC Tryd.call43 (evs_cons rfl (evs_cons rfl evs_nil)) (fun w hw => write_at i1_0 (selfP i1_0 i.1) _ (Pl.catN V i.1) (V i.1) (selfP_or _ _) (by rw [Pl.catN_len _ hV, hV]; omega) _ (by rw [hV]; rfl) rfl rfl w hw)) rfl ?_
    intro i6_1
    refine JQ.nil ?_
    refine JQ.n_block ?_
    refine JQ.n_then ?_
    refine JQ.region ?_
    refine JQ.v (JV.addN (b := 1) rfl rfl (by omega)) rfl ?_
    refine JQ.v (JV.move rfl) rfl ?_
    refine JQ.nil ?_
    refine JQ.n_then ?_
    exact JQ.nextI (i.1 + 1, i6_1) (by show i.1 + 1 ≤ 35; omega) (by show 35 - (i.1 + 1) < 35 - i.1; omega) (subk_cons rfl (subk_cons rfl (subk_cons rfl subk_nil))) (subr_cons rfl (subr_cons rfl subr_nil))
  · refine JQ.exit ?_
    refine JQ.e_then ?_
    refine JQ.e_then ?_
    refine JQ.e_here ?_
    refine JQ.n_then ?_
    refine JQ.seq ?_
    refine JQ.region ?_
    refine JQ.x (JO.callC Tryd.call44 (evs_cons rfl evs_nil) (fun w hw => string_at i1_0 _ _ (Pl.catN V i.1) (by rw [Pl.catN_len _ hV]; omega) rfl rfl w hw)) rfl ?_
    rintro ⟨⟩
    refine JQ.v (JV.assign rfl) rfl ?_
    refine JQ.nil ?_
    refine JQ.n_then ?_
    refine JQ.ret ?_
    refine JQ.done1 Tryd.results26 rfl ?_
    exact fun w hw => ⟨by rw [show i.1 = 35 from by omega], hw.below⟩

theorem public_spec (s : List UInt8) (hs : s.length ≤ 1048576) (w : World) (hG : Gl 1 (Pl.K.map u32) w) :
    Calls Tryd.prog 15 #[str s] w fun e w' => e = .returned (.agg ((Pl.pubK s).map b8).toArray) ∧ Below w.heap.size w w' := by
  
  refine enterA (vs := [_]) Tryd.func15 rfl 7 rfl [(901, .ro (gv 1 64) 1 64 (Pl.K.map u32))] (MemOk.start1 901 hG) ?_
  refine JQ.seq ?_
  refine JQ.region ?_
  refine JQ.x (JO.box 1 rfl rfl) rfl ?_
  intro i0_0
  refine JQ.x (JO.alloc 2 (zs := ((List.replicate 16 0).map b8)) Tryd.zeroValue23 rfl) rfl ?_
  intro i0_1
  refine JQ.nil ?_
  refine JQ.n_then ?_
  refine JQ.seq ?_
  refine JQ.region ?_
  refine JQ.v (JV.mkFunc evs_nil (evs_cons rfl evs_nil)) rfl ?_
  refine JQ.v (JV.callM Tryd.call26 (evs_cons rfl evs_nil) (fun w hw => join_spec 28 [_] Tryd.call28 (Pl.pubV s) (Pl.pubV_len s) w fun k hk w' hb => pub1_spec _ s hs k hk w' ((hw.grow hb).reads (id := 901) rfl) (reads_cells ((hw.grow hb).blk (id := 1) rfl) (us := [str s]) rfl rfl (by decide)))) rfl ?_
  refine JQ.x (JO.buildSlice 3 (us := [str (Pl.catN (Pl.pubV s) 35)]) (e := 9) (evp_cons rfl evp_nil) (fun w => by kernel_rfl)) rfl ?_
  intro i1_2
  refine JQ.v (JV.callM Tryd.call25 (evs_cons rfl (evs_cons rfl evs_nil)) (fun w hw => of_spec 5 5 (by decide) _ [Pl.catN (Pl.pubV s) 35] (Pl.few1 (by rw [Pl.catN_len _ (Pl.pubV_len s)]; decide)) w (hw.reads (id := 901) rfl) (reads_cells (hw.blk (id := 3) rfl) rfl rfl (by decide)))) rfl ?_
  refine JQ.s (JO.storeV 2 rfl rfl rfl (us := (Pl.pubK s).map b8) (allB _) Tryd.sizeOf23 (by simp [Pl.pubK_len]) rfl) ?_
  refine JQ.nil ?_
  refine JQ.n_then ?_
  refine JQ.ret ?_
  refine JQ.doneC 2 Tryd.results15 rfl rfl Tryd.isAgg23 Tryd.sizeOf23 (by simp [Pl.pubK_len]) ?_
  exact fun w hw => ⟨rfl, hw.below⟩

theorem sign_spec (s : List UInt8) (hs : s.length ≤ 1048576) (d : List UInt8) (hd : d.length = 16) (w : World) (hG : Gl 1 (Pl.K.map u32) w) :
    Calls Tryd.prog 17 #[str s, .agg ((d).map b8).toArray] w fun e w' => e = .returned (str (Pl.sign s d)) ∧ Below w.heap.size w w' := by
  
  refine enterA (vs := [_, _]) Tryd.func17 rfl 10 rfl [(901, .ro (gv 1 64) 1 64 (Pl.K.map u32))] (MemOk.start1 901 hG) ?_
  refine JQ.seq ?_
  refine JQ.region ?_
  refine JQ.x (JO.box 1 rfl rfl) rfl ?_
  intro i0_0
  refine JQ.x (JO.box 2 rfl rfl) rfl ?_
  intro i0_1
  refine JQ.v (JV.assign rfl) rfl ?_
  refine JQ.nil ?_
  refine JQ.n_then ?_
  refine JQ.seq ?_
  refine JQ.region ?_
  refine JQ.v (JV.loadV 2 rfl rfl Tryd.isAgg23 Tryd.sizeOf23 (by simp [hd])) rfl ?_
  refine JQ.x (JO.callRo 50 Tryd.call13 (evs_cons rfl evs_nil) (fun w hw => digits_spec d hd w)) rfl ?_
  intro i1_1
  refine JQ.x (JO.alloc 3 (zs := [.slice none 0 0]) Tryd.zeroValue29 rfl) rfl ?_
  intro i1_2
  refine JQ.s (JO.store1O 3 50 rfl rfl rfl rfl Tryd.sizeOf29 (Nat.le_of_ble_eq_true rfl)) ?_
  refine JQ.nil ?_
  refine JQ.n_then ?_
  refine JQ.seq ?_
  refine JQ.region ?_
  refine JQ.v (JV.mkFunc evs_nil (evs_cons rfl (evs_cons rfl evs_nil))) rfl ?_
  refine JQ.v (JV.callM Tryd.call26 (evs_cons rfl evs_nil) (fun w hw => join_spec 32 [_, _] Tryd.call32 (Pl.sigV s d) (Pl.sigV_len s d) w fun k hk w' hb => sign1_spec _ _ s hs d i1_1 k hk w' ((hw.grow hb).reads (id := 901) rfl) (reads_cells ((hw.grow hb).blk (id := 3) rfl) (us := [i1_1]) rfl rfl (by decide)) (reads_cells ((hw.grow hb).blk (id := 1) rfl) (us := [str s]) rfl rfl (by decide)) ((hw.grow hb).reads (id := 50) rfl))) rfl ?_
  refine JQ.v (JV.assign rfl) rfl ?_
  refine JQ.nil ?_
  refine JQ.n_then ?_
  refine JQ.ret ?_
  refine JQ.done1 Tryd.results17 rfl ?_
  exact fun w hw => ⟨rfl, hw.below⟩

theorem recover_spec (d : List UInt8) (hd : d.length = 16) (t : List UInt8) (w : World) (hG : Gl 1 (Pl.K.map u32) w) :
    Calls Tryd.prog 10 #[.agg ((d).map b8).toArray, str t] w fun e w' => e = .returned (.tuple #[.agg ((Pl.recK d t).map b8).toArray, .int .i64 ((Pl.recE t : Nat) : Int)]) ∧ Below w.heap.size w w' := by
  
  refine enterA (vs := [_, _]) Tryd.func10 rfl 17 rfl [(901, .ro (gv 1 64) 1 64 (Pl.K.map u32))] (MemOk.start1 901 hG) ?_
  refine JQ.seq ?_
  refine JQ.region ?_
  refine JQ.x (JO.box 1 rfl rfl) rfl ?_
  intro i0_0
  refine JQ.x (JO.box 2 rfl rfl) rfl ?_
  intro i0_1
  refine JQ.x (JO.alloc 3 (zs := ((List.replicate 16 0).map b8)) Tryd.zeroValue23 rfl) rfl ?_
  intro i0_2
  refine JQ.v (JV.assign rfl) rfl ?_
  refine JQ.nil ?_
  refine JQ.n_then ?_
  refine JQ.seq ?_
  refine JQ.seq ?_
  refine JQ.region ?_
  refine JQ.v (JV.load1 2 rfl rfl Tryd.isAgg9 (rfl)) rfl ?_
  refine JQ.v (JV.lenStr rfl Tryd.runUnderlying9) rfl ?_
  by_cases hs1_2 : t.length ≠ 560
  · refine JQ.v (JV.tt (JV.neqN (b := 560) rfl rfl) hs1_2) rfl ?_
    refine JQ.nil ?_
    refine JQ.n_then ?_
    refine JQ.condT rfl ?_
    refine JQ.seq ?_
    refine JQ.region ?_
    refine JQ.v (JV.build (v := .agg ((List.replicate 16 0).map b8).toArray) evp_nil (fun w => by kernel_rfl)) rfl ?_
    refine JQ.s (JO.storeV 3 rfl rfl rfl (us := ((List.replicate 16 0).map b8)) (allB _) Tryd.sizeOf23 rfl rfl) ?_
    refine JQ.v (JV.assign rfl) rfl ?_
    refine JQ.nil ?_
    refine JQ.n_then ?_
    refine JQ.ret ?_
    refine JQ.r_then ?_
    refine JQ.doneCT 3 Tryd.results10 rfl rfl rfl Tryd.isAgg23 Tryd.sizeOf23 (by simp [Pl.ofH_len]) ?_
    exact fun w hw => ⟨by rw [Pl.recK, Pl.recE, if_neg hs1_2, if_neg hs1_2]; rfl, hw.below⟩
  · refine JQ.v (JV.ff (JV.neqN (b := 560) rfl rfl) hs1_2) rfl ?_
    refine JQ.nil ?_
    refine JQ.n_then ?_
    refine JQ.condF rfl ?_
    refine JQ.skip ?_
    refine JQ.n_then ?_
    refine JQ.seq ?_
    have ht : t.length = 560 := Decidable.not_not.1 hs1_2
    refine JQ.region ?_
    refine JQ.v (JV.loadV 1 rfl rfl Tryd.isAgg23 Tryd.sizeOf23 (by simp [hd])) rfl ?_
    refine JQ.x (JO.callRo 50 Tryd.call13 (evs_cons rfl evs_nil) (fun w hw => digits_spec d hd w)) rfl ?_
    intro i3_1
    refine JQ.x (JO.alloc 4 (zs := [.slice none 0 0]) Tryd.zeroValue29 rfl) rfl ?_
    intro i3_2
    refine JQ.s (JO.store1O 4 50 rfl rfl rfl rfl Tryd.sizeOf29 (Nat.le_of_ble_eq_true rfl)) ?_
    refine JQ.nil ?_
    refine JQ.n_then ?_
    refine JQ.seq ?_
    refine JQ.region ?_
    refine JQ.v (JV.mkFunc evs_nil (evs_cons rfl (evs_cons rfl evs_nil))) rfl ?_
    refine JQ.v (JV.callM Tryd.call26 (evs_cons rfl evs_nil) (fun w hw => join_spec 27 [_, _] Tryd.call27 (Pl.endV d t) (Pl.endV_len ht) w fun k hk w' hb => rec1_spec _ _ t d ht i3_1 k hk w' ((hw.grow hb).reads (id := 901) rfl) (reads_cells ((hw.grow hb).blk (id := 2) rfl) (us := [str t]) rfl rfl (by decide)) (reads_cells ((hw.grow hb).blk (id := 4) rfl) (us := [i3_1]) rfl rfl (by decide)) ((hw.grow hb).reads (id := 50) rfl))) rfl ?_
    refine JQ.x (JO.buildSlice 5 (us := [str (Pl.ends d t)]) (e := 9) (evp_cons rfl evp_nil) (fun w => by kernel_rfl)) rfl ?_
    intro i4_2
    refine JQ.v (JV.callM Tryd.call25 (evs_cons rfl (evs_cons rfl evs_nil)) (fun w hw => of_spec 5 5 (by decide) _ [Pl.ends d t] (Pl.few1 (by rw [Pl.ends_len ht]; decide)) w (hw.reads (id := 901) rfl) (reads_cells (hw.blk (id := 5) rfl) rfl rfl (by decide)))) rfl ?_
    refine JQ.s (JO.storeV 3 rfl rfl rfl (us := (Pl.ofH 5 [Pl.ends d t]).map b8) (allB _) Tryd.sizeOf23 (by simp [Pl.ofH_len]) rfl) ?_
    refine JQ.v (JV.assign rfl) rfl ?_
    refine JQ.nil ?_
    refine JQ.n_then ?_
    refine JQ.ret ?_
    refine JQ.doneCT 3 Tryd.results10 rfl rfl rfl Tryd.isAgg23 Tryd.sizeOf23 (by simp [Pl.ofH_len]) ?_
    exact fun w hw => ⟨by rw [Pl.recK, Pl.recE, if_pos ht, if_pos ht]; rfl, hw.below⟩

theorem verify_spec (p : List UInt8) (hp : p.length = 16) (d : List UInt8) (hd : d.length = 16) (t : List UInt8) (w : World) (hG : Gl 1 (Pl.K.map u32) w) :
    Calls Tryd.prog 19 #[.agg ((p).map b8).toArray, .agg ((d).map b8).toArray, str t] w fun e w' => e = .returned (.bool (Pl.verify p d t)) ∧ Below w.heap.size w w' := by
  
  refine enterA (vs := [_, _, _]) Tryd.func19 rfl 22 rfl [(901, .ro (gv 1 64) 1 64 (Pl.K.map u32))] (MemOk.start1 901 hG) ?_
  refine JQ.seq ?_
  refine JQ.region ?_
  refine JQ.x (JO.box 1 rfl rfl) rfl ?_
  intro i0_0
  refine JQ.x (JO.box 2 rfl rfl) rfl ?_
  intro i0_1
  refine JQ.v (JV.assign rfl) rfl ?_
  refine JQ.nil ?_
  refine JQ.n_then ?_
  refine JQ.seq ?_
  refine JQ.region ?_
  refine JQ.v (JV.loadV 2 rfl rfl Tryd.isAgg23 Tryd.sizeOf23 (by simp [hd])) rfl ?_
  refine JQ.v (JV.move rfl) rfl ?_
  refine JQ.v (JV.callM Tryd.call10 (evs_cons rfl (evs_cons rfl evs_nil)) (fun w hw => recover_spec d hd t w (hw.reads (id := 901) rfl))) rfl ?_
  refine JQ.v (JV.move rfl) rfl ?_
  refine JQ.v (JV.extract rfl rfl) rfl ?_
  refine JQ.v (JV.extract rfl rfl) rfl ?_
  refine JQ.x (JO.alloc 3 (zs := ((List.replicate 16 0).map b8)) Tryd.zeroValue23 rfl) rfl ?_
  intro i1_6
  refine JQ.s (JO.storeV 3 rfl rfl rfl (us := (Pl.recK d t).map b8) (allB _) Tryd.sizeOf23 (by simp [Pl.recK_len]) rfl) ?_
  refine JQ.v (JV.assign rfl) rfl ?_
  refine JQ.nil ?_
  refine JQ.n_then ?_
  refine JQ.seq ?_
  refine JQ.region ?_
  refine JQ.v (JV.move rfl) rfl ?_
  by_cases hs2_1 : Pl.recE t = 0
  · refine JQ.v (JV.tt (JV.eqlN (b := 0) rfl rfl) hs2_1) rfl ?_
    refine JQ.v (JV.move rfl) rfl ?_
    refine JQ.vg rfl rfl (JV.loadV 3 rfl rfl Tryd.isAgg23 Tryd.sizeOf23 (by simp [Pl.recK_len])) rfl ?_
    refine JQ.vg rfl rfl (JV.loadV 1 rfl rfl Tryd.isAgg23 Tryd.sizeOf23 (by simp [hp])) rfl ?_
    refine JQ.vg rfl rfl (JV.eqlBytes (xs := Pl.recK d t) (ys := p) rfl rfl Tryd.runUnderlying23 Tryd.underlying5 Tryd.sizeOf5 Tryd.isAgg5 Tryd.eqGuardType23 (Pl.recK_len _ _) hp) rfl ?_
    refine JQ.v (JV.pickT rfl rfl) rfl ?_
    refine JQ.v (JV.assign rfl) rfl ?_
    refine JQ.nil ?_
    refine JQ.n_then ?_
    refine JQ.ret ?_
    refine JQ.done1 Tryd.results19 rfl ?_
    exact fun w hw => ⟨by rw [Pl.verify_ok hs2_1], hw.below⟩
  · refine JQ.v (JV.ff (JV.eqlN (b := 0) rfl rfl) hs2_1) rfl ?_
    refine JQ.v (JV.move rfl) rfl ?_
    refine JQ.g0 rfl rfl rfl rfl ?_
    refine JQ.g0 rfl rfl rfl rfl ?_
    refine JQ.g0 rfl rfl rfl rfl ?_
    refine JQ.v (JV.pickF rfl rfl) rfl ?_
    refine JQ.v (JV.assign rfl) rfl ?_
    refine JQ.nil ?_
    refine JQ.n_then ?_
    refine JQ.ret ?_
    refine JQ.done1 Tryd.results19 rfl ?_
    exact fun w hw => ⟨by rw [Pl.verify_no hs2_1], hw.below⟩

theorem rsign_spec (s : List UInt8) (hs : s.length ≤ 1048576) (d : List UInt8) (hd : d.length = 16) (w : World) (hR : Gl 0 (Pl.K.map u32) w) :
    Calls Tryd.prog 18 #[str s, .agg ((d).map b8).toArray] w fun e w' => e = .returned (str (Pl.sign s d)) ∧ Below w.heap.size w w' := by
  
  refine enterA (vs := [_, _]) Tryd.func18 rfl 27 rfl [(900, .ro (gv 0 64) 1 64 (Pl.K.map u32))] (MemOk.start1 900 hR) ?_
  refine JQ.seq ?_
  refine JQ.region ?_
  refine JQ.x (JO.box 1 rfl rfl) rfl ?_
  intro i0_0
  refine JQ.v (JV.assign rfl) rfl ?_
  refine JQ.nil ?_
  refine JQ.n_then ?_
  refine JQ.seq ?_
  refine JQ.region ?_
  refine JQ.v (JV.loadV 1 rfl rfl Tryd.isAgg23 Tryd.sizeOf23 (by simp [hd])) rfl ?_
  refine JQ.x (JO.callRo 50 Tryd.call14 (evs_cons rfl evs_nil) (fun w hw => (rdigits_spec d hd w).mono fun e w' ⟨v, he, ho, hB⟩ => ⟨v, he, newRo_row ho, hB⟩)) rfl ?_
  intro i1_1
  refine JQ.v (JV.assign rfl) rfl ?_
  refine JQ.nil ?_
  refine JQ.n_then ?_
  refine JQ.seq ?_
  refine JQ.region ?_
  refine JQ.v (JV.assign rfl) rfl ?_
  refine JQ.nil ?_
  refine JQ.n_then ?_
  refine JQ.seq ?_
  refine JQ.seq ?_
  refine JQ.region ?_
  refine JQ.v (JV.assign rfl) rfl ?_
  refine JQ.nil ?_
  refine JQ.n_then ?_
  refine JQ.block ?_
  refine JQ.loopI (ι := Nat) (fun i => [(0, str s), (5, i1_1), (6, str (Pl.catN (Pl.sigV s d) i)), (7, .int .i64 ((i : Nat) : Int))]) (fun i => [(50, .ro i1_1 1 35 ((Pl.digits d).map i64)), (900, .ro (gv 0 64) 1 64 (Pl.K.map u32))]) (fun i => i ≤ 35) (fun i => 35 - i) 0 (Nat.zero_le _) (subk_cons rfl (subk_cons rfl (subk_cons rfl (subk_cons rfl subk_nil)))) (subr_cons rfl (subr_cons rfl subr_nil)) ?_
  intro i hi
  have hcl := Pl.catN_len _ (Pl.sigV_len s d) i
  refine JQ.seq ?_
  refine JQ.seq ?_
  refine JQ.region ?_
  refine JQ.v (JV.move rfl) rfl ?_
  refine JQ.v (JV.lssN (b := 35) rfl rfl) rfl ?_
  refine JQ.nil ?_
  refine JQ.n_then ?_
  refine JQ.condP rfl (fun h11 => ?_) (fun h11 => ?_)
  · refine JQ.skip ?_
    refine JQ.n_then ?_
    refine JQ.seq ?_
    refine JQ.block ?_
    refine JQ.any [_, _, _, _, _, _, _, _, _, _, _, _, _] [fun _ => [], fun _ => [], fun _ => [], fun _ => [], fun _ => [], fun _ => [], fun _ => [], fun _ => [], fun _ => [], fun _ => [], fun _ => [], fun _ => [], fun _ => []] [⟨[], [], [], []⟩, ⟨[], [], [], []⟩, ⟨[], [], [], []⟩, ⟨[], [], [], []⟩, ⟨[50], [], [], [2, 3]⟩, ⟨[50], [], [], [2, 3, 4]⟩, ⟨[], [], [], []⟩, ⟨[], [], [], []⟩, ⟨[900], [], [], [6, 7]⟩, ⟨[900], [], [], [1, 2, 3, 4, 5, 6, 7, 8]⟩, ⟨[], [], [], [1, 2, 3, 4, 5, 6, 7, 8, 9]⟩, ⟨[], [], [], [0, 1, 2, 3, 4, 5, 6, 7, 8, 9, 10]⟩, ⟨[], [], [], [0, 1, 2, 3, 4, 5, 6, 7, 8, 9, 10, 11]⟩] Tryd.mixed rfl (by kernel_rfl) ⟨Ob.v rfl (fun _ _ h => by cases h) (fun _ _ _ => rfl) (fun e L' hL => JV.move rfl),
            Ob.v rfl (fun _ _ h => by cases h) (fun _ _ _ => rfl) (fun e L' hL => JV.move rfl),
            Ob.v rfl (fun _ _ h => by cases h) (fun _ _ _ => rfl) (fun e L' hL => JV.move rfl),
            Ob.v rfl (fun _ _ h => by cases h) (fun _ _ _ => rfl) (fun e L' hL => JV.move rfl),
            Ob.v rfl (fun _ _ h => by cases h) (fun _ _ _ => rfl) (fun e L' hL => JV.idxRo1 50 rfl rfl ((hL 50 (by decide)).trans rfl) Tryd.runUnderlying29 Tryd.sizeOf3 (by decide) (by omega)),
            Ob.v rfl (fun _ _ h => by cases h) (fun _ _ _ => rfl) (fun e L' hL => JV.loadR 50 rfl ((hL 50 (by decide)).trans rfl) Tryd.isAgg3 (getDig d (by omega))),
            Ob.v rfl (fun _ _ h => by cases h) (fun _ _ _ => rfl) (fun e L' hL => JV.move rfl),
            Ob.v rfl (fun _ _ h => by cases h) (fun _ _ _ => rfl) (fun e L' hL => JV.move rfl),
            Ob.v rfl (fun _ _ h => by cases h) (fun _ _ _ => rfl) (fun e L' hL => JV.callM Tryd.call31 (evs_cons rfl (evs_cons rfl evs_nil)) (fun w hw => rstart_spec s hs i (by omega) w (hw.reads (id := 900) ((hL 900 (by decide)).trans rfl)))),
            Ob.v rfl (fun _ _ h => by cases h) (fun _ _ _ => rfl) (fun e L' hL => JV.callM Tryd.call22 (evs_cons rfl (evs_cons rfl (evs_cons rfl (evs_cons rfl evs_nil)))) (fun w hw => radv_spec i 0 (Pl.dig d i : Nat) (Pl.start s i) (Pl.start_len s i) w (hw.reads (id := 900) ((hL 900 (by decide)).trans rfl)))),
            Ob.v rfl (fun _ _ h => by cases h) (fun _ _ _ => rfl) (fun e L' hL => JV.call Tryd.call30 (evs_cons rfl evs_nil) (text_pure _ (Pl.sigV_len s d i))),
            Ob.v rfl (fun _ _ h => by cases h) (fun _ _ _ => rfl) (fun e L' hL => JV.addS (l' := Pl.sigV s d i) rfl rfl (by rw [Pl.sigV_len]; omega)),
            Ob.v rfl (fun _ _ h => by cases h) (fun _ _ _ => rfl) (fun e L' hL => JV.assign rfl), trivial⟩ (fun ev6 => ?_)
    simp only [endF, endL, putF, List.nil_append, List.cons_append]
    refine JQ.n_block ?_
    refine JQ.n_then ?_
    refine JQ.region ?_
    refine JQ.v (JV.move rfl) rfl ?_
    refine JQ.v (JV.addN (b := 1) rfl rfl (by omega)) rfl ?_
    refine JQ.v (JV.assign rfl) rfl ?_
    refine JQ.nil ?_
    refine JQ.n_then ?_
    exact JQ.nextI (i + 1) (by omega) (by omega) (subk_cons rfl (subk_cons rfl (subk_cons rfl (subk_cons rfl subk_nil)))) (subr_cons rfl (subr_cons rfl subr_nil))
  · refine JQ.exit ?_
    refine JQ.e_then ?_
    refine JQ.e_then ?_
    refine JQ.e_here ?_
    refine JQ.n_then ?_
    refine JQ.seq ?_
    refine JQ.region ?_
    refine JQ.v (JV.move rfl) rfl ?_
    refine JQ.v (JV.assign rfl) rfl ?_
    refine JQ.nil ?_
    refine JQ.n_then ?_
    refine JQ.ret ?_
    refine JQ.done1 Tryd.results18 rfl ?_
    exact fun w hw => ⟨by rw [show i = 35 from by omega]; rfl, hw.below⟩

theorem rends_spec (d : List UInt8) (hd : d.length = 16) (t : List UInt8) (ht : t.length = 560) (w : World) (hR : Gl 0 (Pl.K.map u32) w) :
    Calls Tryd.prog 23 #[.agg ((d).map b8).toArray, str t] w fun e w' => e = .returned (str (Pl.ends d t)) ∧ Below w.heap.size w w' := by
  
  refine enterA (vs := [_, _]) Tryd.func23 rfl 29 rfl [(900, .ro (gv 0 64) 1 64 (Pl.K.map u32))] (MemOk.start1 900 hR) ?_
  refine JQ.seq ?_
  refine JQ.region ?_
  refine JQ.x (JO.box 1 rfl rfl) rfl ?_
  intro i0_0
  refine JQ.v (JV.assign rfl) rfl ?_
  refine JQ.nil ?_
  refine JQ.n_then ?_
  refine JQ.seq ?_
  refine JQ.region ?_
  refine JQ.v (JV.loadV 1 rfl rfl Tryd.isAgg23 Tryd.sizeOf23 (by simp [hd])) rfl ?_
  refine JQ.x (JO.callRo 50 Tryd.call14 (evs_cons rfl evs_nil) (fun w hw => (rdigits_spec d hd w).mono fun e w' ⟨v, he, ho, hB⟩ => ⟨v, he, newRo_row ho, hB⟩)) rfl ?_
  intro i1_1
  refine JQ.v (JV.assign rfl) rfl ?_
  refine JQ.nil ?_
  refine JQ.n_then ?_
  refine JQ.seq ?_
  refine JQ.region ?_
  refine JQ.v (JV.assign rfl) rfl ?_
  refine JQ.nil ?_
  refine JQ.n_then ?_
  refine JQ.seq ?_
  refine JQ.seq ?_
  refine JQ.region ?_
  refine JQ.v (JV.assign rfl) rfl ?_
  refine JQ.nil ?_
  refine JQ.n_then ?_
  refine JQ.block ?_
  refine JQ.loopI (ι := Nat) (fun i => [(1, str t), (5, i1_1), (6, str (Pl.catN (Pl.endV d t) i)), (7, .int .i64 ((i : Nat) : Int))]) (fun i => [(50, .ro i1_1 1 35 ((Pl.digits d).map i64)), (900, .ro (gv 0 64) 1 64 (Pl.K.map u32))]) (fun i => i ≤ 35) (fun i => 35 - i) 0 (Nat.zero_le _) (subk_cons rfl (subk_cons rfl (subk_cons rfl (subk_cons rfl subk_nil)))) (subr_cons rfl (subr_cons rfl subr_nil)) ?_
  intro i hi
  have hcl := Pl.catN_len _ (Pl.endV_len (d := d) ht) i
  refine JQ.seq ?_
  refine JQ.seq ?_
  refine JQ.region ?_
  refine JQ.v (JV.move rfl) rfl ?_
  refine JQ.v (JV.lssN (b := 35) rfl rfl) rfl ?_
  refine JQ.nil ?_
  refine JQ.n_then ?_
  refine JQ.condP rfl (fun h11 => ?_) (fun h11 => ?_)
  · refine JQ.skip ?_
    refine JQ.n_then ?_
    refine JQ.seq ?_
    refine JQ.block ?_
    refine JQ.any [_, _, _, _, _, _, _, _, _, _, _, _, _, _, _] [fun _ => [], fun _ => [], fun _ => [], fun _ => [], fun _ => [], fun _ => [], fun _ => [], fun _ => [], fun _ => [], fun _ => [], fun _ => [], fun _ => [], fun _ => [], fun _ => [], fun _ => []] [⟨[], [], [], []⟩, ⟨[], [], [], []⟩, ⟨[], [], [], []⟩, ⟨[], [], [], []⟩, ⟨[50], [], [], [2, 3]⟩, ⟨[50], [], [], [2, 3, 4]⟩, ⟨[], [], [], []⟩, ⟨[], [], [], []⟩, ⟨[], [], [], [7]⟩, ⟨[], [], [], [6, 7, 8]⟩, ⟨[], [], [], [6, 7, 8, 9]⟩, ⟨[900], [], [], [1, 2, 3, 4, 5, 6, 7, 8, 9, 10]⟩, ⟨[], [], [], [1, 2, 3, 4, 5, 6, 7, 8, 9, 10, 11]⟩, ⟨[], [], [], [0, 1, 2, 3, 4, 5, 6, 7, 8, 9, 10, 11, 12]⟩, ⟨[], [], [], [0, 1, 2, 3, 4, 5, 6, 7, 8, 9, 10, 11, 12, 13]⟩] Tryd.mixed rfl (by kernel_rfl) ⟨Ob.v rfl (fun _ _ h => by cases h) (fun _ _ _ => rfl) (fun e L' hL => JV.move rfl),
            Ob.v rfl (fun _ _ h => by cases h) (fun _ _ _ => rfl) (fun e L' hL => JV.move rfl),
            Ob.v rfl (fun _ _ h => by cases h) (fun _ _ _ => rfl) (fun e L' hL => JV.move rfl),
            Ob.v rfl (fun _ _ h => by cases h) (fun _ _ _ => rfl) (fun e L' hL => JV.move rfl),
            Ob.v rfl (fun _ _ h => by cases h) (fun _ _ _ => rfl) (fun e L' hL => JV.idxRo1 50 rfl rfl ((hL 50 (by decide)).trans rfl) Tryd.runUnderlying29 Tryd.sizeOf3 (by decide) (by omega)),
            Ob.v rfl (fun _ _ h => by cases h) (fun _ _ _ => rfl) (fun e L' hL => JV.loadR 50 rfl ((hL 50 (by decide)).trans rfl) Tryd.isAgg3 (getDig d (by omega))),
            Ob.v rfl (fun _ _ h => by cases h) (fun _ _ _ => rfl) (fun e L' hL => JV.move rfl),
            Ob.v rfl (fun _ _ h => by cases h) (fun _ _ _ => rfl) (fun e L' hL => JV.move rfl),
            Ob.v rfl (fun _ _ h => by cases h) (fun _ _ _ => rfl) (fun e L' hL => JV.mulN (a := 16) rfl rfl (by omega)),
            Ob.v rfl (fun _ _ h => by cases h) (fun _ _ _ => rfl) (fun e L' hL => JV.sliceStr (l := t) rfl Tryd.runUnderlying9 (bnd_some rfl) rfl (by omega) (by omega)),
            Ob.v rfl (fun _ _ h => by cases h) (fun _ _ _ => rfl) (fun e L' hL => JV.call Tryd.call36 (evs_cons rfl evs_nil) (digest_chunk t ht i (by omega))),
            Ob.v rfl (fun _ _ h => by cases h) (fun _ _ _ => rfl) (fun e L' hL => JV.callM Tryd.call22 (evs_cons rfl (evs_cons rfl (evs_cons rfl (evs_cons rfl evs_nil)))) (fun w hw => radv_spec i (Pl.dig d i : Nat) 15 (Pl.chunk t i) (Pl.chunk_len ht (by omega)) w (hw.reads (id := 900) ((hL 900 (by decide)).trans rfl)))),
            Ob.v rfl (fun _ _ h => by cases h) (fun _ _ _ => rfl) (fun e L' hL => JV.call Tryd.call30 (evs_cons rfl evs_nil) (text_pure _ (Pl.adv_len _ _ _ (Pl.chunk_len ht (by omega))))),
            Ob.v rfl (fun _ _ h => by cases h) (fun _ _ _ => rfl) (fun e L' hL => JV.addS (l' := Pl.adv (i : Int) ((Pl.dig d i : Nat) : Int) 15 (Pl.chunk t i)) rfl rfl (by rw [Pl.adv_len _ _ _ (Pl.chunk_len ht (by omega))]; omega)),
            Ob.v rfl (fun _ _ h => by cases h) (fun _ _ _ => rfl) (fun e L' hL => JV.assign rfl), trivial⟩ (fun ev6 => ?_)
    simp only [endF, endL, putF, List.nil_append, List.cons_append]
    rw [show Pl.catN (Pl.endV d t) i ++ Pl.adv (i : Int) ((Pl.dig d i : Nat) : Int) 15 (Pl.chunk t i) = Pl.catN (Pl.endV d t) (i + 1) from by rw [Pl.catN, Pl.endV, if_pos (show i < 35 by omega)]]
    refine JQ.n_block ?_
    refine JQ.n_then ?_
    refine JQ.region ?_
    refine JQ.v (JV.move rfl) rfl ?_
    refine JQ.v (JV.addN (b := 1) rfl rfl (by omega)) rfl ?_
    refine JQ.v (JV.assign rfl) rfl ?_
    refine JQ.nil ?_
    refine JQ.n_then ?_
    exact JQ.nextI (i + 1) (by omega) (by omega) (subk_cons rfl (subk_cons rfl (subk_cons rfl (subk_cons rfl subk_nil)))) (subr_cons rfl (subr_cons rfl subr_nil))
  · refine JQ.exit ?_
    refine JQ.e_then ?_
    refine JQ.e_then ?_
    refine JQ.e_here ?_
    refine JQ.n_then ?_
    refine JQ.seq ?_
    refine JQ.region ?_
    refine JQ.v (JV.move rfl) rfl ?_
    refine JQ.v (JV.assign rfl) rfl ?_
    refine JQ.nil ?_
    refine JQ.n_then ?_
    refine JQ.ret ?_
    refine JQ.done1 Tryd.results23 rfl ?_
    exact fun w hw => ⟨by rw [show i = 35 from by omega]; rfl, hw.below⟩

theorem rrecover_spec (d : List UInt8) (hd : d.length = 16) (t : List UInt8) (w : World) (hR : Gl 0 (Pl.K.map u32) w) :
    Calls Tryd.prog 11 #[.agg ((d).map b8).toArray, str t] w fun e w' => e = .returned (.tuple #[.agg ((Pl.recK d t).map b8).toArray, .int .i64 ((Pl.recE t : Nat) : Int)]) ∧ Below w.heap.size w w' := by
  
  refine enterA (vs := [_, _]) Tryd.func11 rfl 15 rfl [(900, .ro (gv 0 64) 1 64 (Pl.K.map u32))] (MemOk.start1 900 hR) ?_
  refine JQ.seq ?_
  refine JQ.region ?_
  refine JQ.x (JO.box 1 rfl rfl) rfl ?_
  intro i0_0
  refine JQ.x (JO.alloc 2 (zs := ((List.replicate 16 0).map b8)) Tryd.zeroValue23 rfl) rfl ?_
  intro i0_1
  refine JQ.v (JV.assign rfl) rfl ?_
  refine JQ.nil ?_
  refine JQ.n_then ?_
  refine JQ.seq ?_
  refine JQ.seq ?_
  refine JQ.region ?_
  refine JQ.v (JV.move rfl) rfl ?_
  refine JQ.v (JV.lenStr rfl Tryd.runUnderlying9) rfl ?_
  by_cases hs1_2 : t.length ≠ 560
  · refine JQ.v (JV.tt (JV.neqN (b := 560) rfl rfl) hs1_2) rfl ?_
    refine JQ.nil ?_
    refine JQ.n_then ?_
    refine JQ.condT rfl ?_
    refine JQ.seq ?_
    refine JQ.region ?_
    refine JQ.v (JV.build (v := .agg ((List.replicate 16 0).map b8).toArray) evp_nil (fun w => by kernel_rfl)) rfl ?_
    refine JQ.s (JO.storeV 2 rfl rfl rfl (us := ((List.replicate 16 0).map b8)) (allB _) Tryd.sizeOf23 rfl rfl) ?_
    refine JQ.v (JV.assign rfl) rfl ?_
    refine JQ.nil ?_
    refine JQ.n_then ?_
    refine JQ.ret ?_
    refine JQ.r_then ?_
    refine JQ.doneCT 2 Tryd.results11 rfl rfl rfl Tryd.isAgg23 Tryd.sizeOf23 (by simp [Pl.ofH_len]) ?_
    exact fun w hw => ⟨by rw [Pl.recK, Pl.recE, if_neg hs1_2, if_neg hs1_2]; rfl, hw.below⟩
  · refine JQ.v (JV.ff (JV.neqN (b := 560) rfl rfl) hs1_2) rfl ?_
    refine JQ.nil ?_
    refine JQ.n_then ?_
    refine JQ.condF rfl ?_
    refine JQ.skip ?_
    refine JQ.n_then ?_
    refine JQ.seq ?_
    have ht : t.length = 560 := Decidable.not_not.1 hs1_2
    refine JQ.region ?_
    refine JQ.v (JV.loadV 1 rfl rfl Tryd.isAgg23 Tryd.sizeOf23 (by simp [hd])) rfl ?_
    refine JQ.v (JV.move rfl) rfl ?_
    refine JQ.v (JV.callM Tryd.call23 (evs_cons rfl (evs_cons rfl evs_nil)) (fun w hw => rends_spec d hd t ht w (hw.reads (id := 900) rfl))) rfl ?_
    refine JQ.x (JO.buildSlice 3 (us := [str (Pl.ends d t)]) (e := 9) (evp_cons rfl evp_nil) (fun w => by kernel_rfl)) rfl ?_
    intro i3_3
    refine JQ.v (JV.callM Tryd.call24 (evs_cons rfl (evs_cons rfl evs_nil)) (fun w hw => rof_spec 5 5 (by decide) _ [Pl.ends d t] (Pl.few1 (by rw [Pl.ends_len ht]; decide)) w (hw.reads (id := 900) rfl) (reads_cells (hw.blk (id := 3) rfl) rfl rfl (by decide)))) rfl ?_
    refine JQ.s (JO.storeV 2 rfl rfl rfl (us := (Pl.ofH 5 [Pl.ends d t]).map b8) (allB _) Tryd.sizeOf23 (by simp [Pl.ofH_len]) rfl) ?_
    refine JQ.v (JV.assign rfl) rfl ?_
    refine JQ.nil ?_
    refine JQ.n_then ?_
    refine JQ.ret ?_
    refine JQ.doneCT 2 Tryd.results11 rfl rfl rfl Tryd.isAgg23 Tryd.sizeOf23 (by simp [Pl.ofH_len]) ?_
    exact fun w hw => ⟨by rw [Pl.recK, Pl.recE, if_pos ht, if_pos ht]; rfl, hw.below⟩

theorem rverify_spec (p : List UInt8) (hp : p.length = 16) (d : List UInt8) (hd : d.length = 16) (t : List UInt8) (w : World) (hR : Gl 0 (Pl.K.map u32) w) :
    Calls Tryd.prog 20 #[.agg ((p).map b8).toArray, .agg ((d).map b8).toArray, str t] w fun e w' => e = .returned (.bool (Pl.verify p d t)) ∧ Below w.heap.size w w' := by
  
  refine enterA (vs := [_, _, _]) Tryd.func20 rfl 22 rfl [(900, .ro (gv 0 64) 1 64 (Pl.K.map u32))] (MemOk.start1 900 hR) ?_
  refine JQ.seq ?_
  refine JQ.region ?_
  refine JQ.x (JO.box 1 rfl rfl) rfl ?_
  intro i0_0
  refine JQ.x (JO.box 2 rfl rfl) rfl ?_
  intro i0_1
  refine JQ.v (JV.assign rfl) rfl ?_
  refine JQ.nil ?_
  refine JQ.n_then ?_
  refine JQ.seq ?_
  refine JQ.region ?_
  refine JQ.v (JV.loadV 2 rfl rfl Tryd.isAgg23 Tryd.sizeOf23 (by simp [hd])) rfl ?_
  refine JQ.v (JV.move rfl) rfl ?_
  refine JQ.v (JV.callM Tryd.call11 (evs_cons rfl (evs_cons rfl evs_nil)) (fun w hw => rrecover_spec d hd t w (hw.reads (id := 900) rfl))) rfl ?_
  refine JQ.v (JV.move rfl) rfl ?_
  refine JQ.v (JV.extract rfl rfl) rfl ?_
  refine JQ.v (JV.extract rfl rfl) rfl ?_
  refine JQ.x (JO.alloc 3 (zs := ((List.replicate 16 0).map b8)) Tryd.zeroValue23 rfl) rfl ?_
  intro i1_6
  refine JQ.s (JO.storeV 3 rfl rfl rfl (us := (Pl.recK d t).map b8) (allB _) Tryd.sizeOf23 (by simp [Pl.recK_len]) rfl) ?_
  refine JQ.v (JV.assign rfl) rfl ?_
  refine JQ.nil ?_
  refine JQ.n_then ?_
  refine JQ.seq ?_
  refine JQ.region ?_
  refine JQ.v (JV.move rfl) rfl ?_
  by_cases hs2_1 : Pl.recE t = 0
  · refine JQ.v (JV.tt (JV.eqlN (b := 0) rfl rfl) hs2_1) rfl ?_
    refine JQ.v (JV.move rfl) rfl ?_
    refine JQ.vg rfl rfl (JV.loadV 3 rfl rfl Tryd.isAgg23 Tryd.sizeOf23 (by simp [Pl.recK_len])) rfl ?_
    refine JQ.vg rfl rfl (JV.loadV 1 rfl rfl Tryd.isAgg23 Tryd.sizeOf23 (by simp [hp])) rfl ?_
    refine JQ.vg rfl rfl (JV.eqlBytes (xs := Pl.recK d t) (ys := p) rfl rfl Tryd.runUnderlying23 Tryd.underlying5 Tryd.sizeOf5 Tryd.isAgg5 Tryd.eqGuardType23 (Pl.recK_len _ _) hp) rfl ?_
    refine JQ.v (JV.pickT rfl rfl) rfl ?_
    refine JQ.v (JV.assign rfl) rfl ?_
    refine JQ.nil ?_
    refine JQ.n_then ?_
    refine JQ.ret ?_
    refine JQ.done1 Tryd.results20 rfl ?_
    exact fun w hw => ⟨by rw [Pl.verify_ok hs2_1], hw.below⟩
  · refine JQ.v (JV.ff (JV.eqlN (b := 0) rfl rfl) hs2_1) rfl ?_
    refine JQ.v (JV.move rfl) rfl ?_
    refine JQ.g0 rfl rfl rfl rfl ?_
    refine JQ.g0 rfl rfl rfl rfl ?_
    refine JQ.g0 rfl rfl rfl rfl ?_
    refine JQ.v (JV.pickF rfl rfl) rfl ?_
    refine JQ.v (JV.assign rfl) rfl ?_
    refine JQ.nil ?_
    refine JQ.n_then ?_
    refine JQ.ret ?_
    refine JQ.done1 Tryd.results20 rfl ?_
    exact fun w hw => ⟨by rw [Pl.verify_no hs2_1], hw.below⟩
end Go.Fw
end
