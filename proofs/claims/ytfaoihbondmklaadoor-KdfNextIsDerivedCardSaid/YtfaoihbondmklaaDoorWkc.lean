/- What the functions of the derivation of keys compute, walked; the condition is that the tables read as they are laid. -/
import Derived.Test.YtfaoihbondmklaaDoorWka
import Derived.Test.YtfaoihbondmklaaDoorWkb
import Derived.Test.YtfaoihbondmklaaDoorFwb
import Derived.Test.YtfaoihbondmklaaDoorPla
import Derived.Test.YtfaoihbondmklaaDoorProg
import Derived.Test.YtfaoihbondmklaaDoorFwc
section
open Go.RowKit
set_option maxRecDepth 100000
set_option linter.unusedVariables false
set_option linter.unusedSimpArgs false
namespace Go.Fw
open Go.Proofs
theorem ro_nil : ∀ j s, lr [] j = some s → s.wr = false := fun _ _ h => by cases h
theorem ro_cons {L : ML} {i : Nat} {v : Value} {sz n : Nat} {xs : List Value} (h : ∀ j s, lr L j = some s → s.wr = false) : ∀ j s, lr ((i, .ro v sz n xs) :: L) j = some s → s.wr = false := by
  intro j s hj
  rw [lr_cons] at hj
  split at hj
  · cases hj; rfl
  · exact h j s hj
theorem derive_spec (k l : List UInt8) (hk : k.length ≤ 1048576) (hl : l.length ≤ 1048576) (v : Value) (ms : List (List UInt8)) (hms : Pl.few ms) (w : World) (hG : Gl 1 (Pl.K.map u32) w) (hr : Reads w v 1 ms.length (ms.map str)) :
    Calls Tryd.prog 11 #[str k, str l, v] w fun e w' => e = .returned (str (Pl.derive k l ms)) ∧ Below w.heap.size w w' := by
  
  refine enterA (vs := [_, _, _]) Tryd.func11 rfl 27 rfl [(901, .ro (gv 1 64) 1 64 (Pl.K.map u32)), (100, .ro v 1 ms.length (ms.map str))] ((MemOk.start1 100 hr).addRo 901 hG (ro_cons ro_nil)) ?_
  refine JQ.seq ?_
  refine JQ.region ?_
  refine JQ.v (JV.assign rfl) rfl ?_
  refine JQ.nil ?_
  refine JQ.n_then ?_
  refine JQ.seq ?_
  refine JQ.region ?_
  refine JQ.v (JV.move rfl) rfl ?_
  refine JQ.x (JO.callRow 1 Tryd.call21 (evs_cons rfl evs_nil) (fun w hw => bytes_spec l (by omega) w)) rfl ?_
  intro i1_1
  refine JQ.v (JV.assign rfl) rfl ?_
  refine JQ.nil ?_
  refine JQ.n_then ?_
  refine JQ.seq ?_
  refine JQ.seq ?_
  refine JQ.region ?_
  refine JQ.v (JV.move rfl) rfl ?_
  refine JQ.v (JV.lenRo 100 rfl rfl Tryd.runUnderlying22) rfl ?_
  refine JQ.v (JV.move rfl) rfl ?_
  refine JQ.nil ?_
  refine JQ.n_then ?_
  refine JQ.block ?_
  refine JQ.loopI (ι := Nat × Value) (fun i => [(0, str k), (7, i.2), (12, v), (13, .int .i64 ((ms.length : Nat) : Int)), (14, .int .i64 ((i.1 : Nat) : Int))]) (fun i => [(1, .row i.2 5 1 (Pl.kin l (ms.take i.1)).length ((Pl.kin l (ms.take i.1)).map b8)), (100, .ro v 1 ms.length (ms.map str)), (901, .ro (gv 1 64) 1 64 (Pl.K.map u32))]) (fun i => i.1 ≤ ms.length) (fun i => ms.length - i.1) (0, _) (Nat.zero_le _) (subk_cons rfl (subk_cons rfl (subk_cons rfl (subk_cons rfl (subk_cons rfl subk_nil))))) (subr_cons (by rw [show Pl.kin l (ms.take 0) = Pl.encB l from Pl.kin_nil l]; rfl) (subr_cons rfl (subr_cons rfl subr_nil))) ?_
  intro i hi
  have h1 := Pl.kin_few hl (hms.take i.1)
  have h2 := Pl.encB_few hms i.1
  have h3 := hms.1
  refine JQ.seq ?_
  refine JQ.region ?_
  refine JQ.v (JV.lssN rfl rfl) rfl ?_
  refine JQ.nil ?_
  refine JQ.n_then ?_
  refine JQ.seq ?_
  refine JQ.condP rfl (fun h15 => ?_) (fun h15 => ?_)
  · refine JQ.skip ?_
    refine JQ.n_then ?_
    refine JQ.seq ?_
    refine JQ.block ?_
    refine JQ.seq ?_
    refine JQ.region ?_
    refine JQ.v (JV.idxRo1 100 rfl rfl rfl Tryd.runUnderlying22 Tryd.sizeOf9 (by decide) (by omega)) rfl ?_
    refine JQ.v (JV.loadR 100 rfl rfl Tryd.isAgg9 (getS _ _ (by omega))) rfl ?_
    refine JQ.v (JV.assign rfl) rfl ?_
    refine JQ.nil ?_
    refine JQ.n_then ?_
    refine JQ.region ?_
    refine JQ.v (JV.move rfl) rfl ?_
    refine JQ.v (JV.move rfl) rfl ?_
    refine JQ.x (JO.callRow 2 Tryd.call21 (evs_cons rfl evs_nil) (fun w hw => bytes_spec _ (Nat.le_trans (hms.get i.1) (by decide)) w)) rfl ?_
    intro i5_2
    refine JQ.x (JO.append 1 elem5 rfl rfl rfl (fun w hw => Src.rd Tryd.underlying44 (hw.readsRow (id := 2) rfl)) (allB _) (by omega) (by omega)) rfl ?_
    intro i5_3
    rw [← List.map_append, ← List.length_append, ← Pl.kin_succ l ms i.1 (by omega)]
    refine JQ.v (JV.assign rfl) rfl ?_
    refine JQ.nil ?_
    refine JQ.n_block ?_
    refine JQ.n_then ?_
    refine JQ.region ?_
    refine JQ.v (JV.addN (b := 1) rfl rfl (by omega)) rfl ?_
    refine JQ.v (JV.move rfl) rfl ?_
    refine JQ.nil ?_
    refine JQ.n_then ?_
    exact JQ.nextI (i.1 + 1, i5_3) (by show i.1 + 1 ≤ ms.length; omega) (by show ms.length - (i.1 + 1) < ms.length - i.1; omega) (subk_cons rfl (subk_cons rfl (subk_cons rfl (subk_cons rfl (subk_cons rfl subk_nil))))) (subr_cons rfl (subr_cons rfl (subr_cons rfl subr_nil)))
  · refine JQ.exit ?_
    refine JQ.e_then ?_
    refine JQ.e_then ?_
    refine JQ.e_here ?_
    refine JQ.n_then ?_
    refine JQ.seq ?_
    rw [show i.1 = ms.length from by omega, List.take_of_length_le (Nat.le_refl _)]
    refine JQ.region ?_
    refine JQ.v (JV.move rfl) rfl ?_
    refine JQ.v (JV.move rfl) rfl ?_
    refine JQ.v (JV.bytesStrW 1 (l := Pl.kin l ms) Tryd.runUnderlying44 Tryd.runUnderlying5 Tryd.runUnderlying9 rfl rfl) rfl ?_
    refine JQ.v (JV.callM Tryd.call22 (evs_cons rfl (evs_cons rfl evs_nil)) (fun w hw => mac_spec k (Pl.kin l ms) (by omega) (by have := Pl.kin_few hl hms; omega) w (hw.reads (id := 901) rfl))) rfl ?_
    refine JQ.v (JV.assign rfl) rfl ?_
    refine JQ.nil ?_
    refine JQ.n_then ?_
    refine JQ.ret ?_
    refine JQ.done1 Tryd.results11 rfl ?_
    exact fun w hw => ⟨rfl, hw.below⟩

theorem path_spec (k : List UInt8) (hk : k.length ≤ 1048576) (v : Value) (ms : List (List UInt8)) (hms : Pl.few ms) (w : World) (hG : Gl 1 (Pl.K.map u32) w) (hr : Reads w v 1 ms.length (ms.map str)) :
    Calls Tryd.prog 13 #[str k, v] w fun e w' => e = .returned (str (Pl.path k ms)) ∧ Below w.heap.size w w' := by
  
  refine enterA (vs := [_, _]) Tryd.func13 rfl 18 rfl [(901, .ro (gv 1 64) 1 64 (Pl.K.map u32)), (100, .ro v 1 ms.length (ms.map str))] ((MemOk.start1 100 hr).addRo 901 hG (ro_cons ro_nil)) ?_
  refine JQ.seq ?_
  refine JQ.region ?_
  refine JQ.v (JV.assign rfl) rfl ?_
  refine JQ.nil ?_
  refine JQ.n_then ?_
  refine JQ.seq ?_
  refine JQ.seq ?_
  refine JQ.region ?_
  refine JQ.v (JV.move rfl) rfl ?_
  refine JQ.v (JV.lenRo 100 rfl rfl Tryd.runUnderlying22) rfl ?_
  refine JQ.v (JV.move rfl) rfl ?_
  refine JQ.nil ?_
  refine JQ.n_then ?_
  refine JQ.block ?_
  refine JQ.loopI (ι := Nat) (fun i => [(0, str (Pl.path k (ms.take i))), (7, v), (8, .int .i64 ((ms.length : Nat) : Int)), (9, .int .i64 ((i : Nat) : Int))]) (fun i => [(100, .ro v 1 ms.length (ms.map str)), (901, .ro (gv 1 64) 1 64 (Pl.K.map u32))]) (fun i => i ≤ ms.length) (fun i => ms.length - i) 0 (Nat.zero_le _) (subk_cons rfl (subk_cons rfl (subk_cons rfl (subk_cons rfl subk_nil)))) (subr_cons rfl (subr_cons rfl subr_nil)) ?_
  intro i hi
  have h3 := hms.1
  refine JQ.seq ?_
  refine JQ.region ?_
  refine JQ.v (JV.lssN rfl rfl) rfl ?_
  refine JQ.nil ?_
  refine JQ.n_then ?_
  refine JQ.seq ?_
  refine JQ.condP rfl (fun h10 => ?_) (fun h10 => ?_)
  · refine JQ.skip ?_
    refine JQ.n_then ?_
    refine JQ.seq ?_
    refine JQ.block ?_
    refine JQ.seq ?_
    refine JQ.region ?_
    refine JQ.v (JV.idxRo1 100 rfl rfl rfl Tryd.runUnderlying22 Tryd.sizeOf9 (by decide) (by omega)) rfl ?_
    refine JQ.v (JV.loadR 100 rfl rfl Tryd.isAgg9 (getS _ _ (by omega))) rfl ?_
    refine JQ.v (JV.assign rfl) rfl ?_
    refine JQ.nil ?_
    refine JQ.n_then ?_
    refine JQ.region ?_
    refine JQ.v (JV.move rfl) rfl ?_
    refine JQ.v (JV.move rfl) rfl ?_
    refine JQ.v (JV.callM Tryd.call11 (evs_cons rfl (evs_cons rfl (evs_cons rfl evs_nil))) (fun w hw => derive_spec (Pl.path k (ms.take i)) (ms.getD i []) (by have := Pl.path_len k (ms.take i); omega) (hms.get i) _ [] Pl.few_nil w (hw.reads (id := 901) rfl) (reads_nil w _ _ rfl rfl))) rfl ?_
    rw [← Pl.path_succ k ms i (by omega)]
    refine JQ.v (JV.assign rfl) rfl ?_
    refine JQ.nil ?_
    refine JQ.n_block ?_
    refine JQ.n_then ?_
    refine JQ.region ?_
    refine JQ.v (JV.addN (b := 1) rfl rfl (by omega)) rfl ?_
    refine JQ.v (JV.move rfl) rfl ?_
    refine JQ.nil ?_
    refine JQ.n_then ?_
    exact JQ.nextI (i + 1) (by omega) (by omega) (subk_cons rfl (subk_cons rfl (subk_cons rfl (subk_cons rfl subk_nil)))) (subr_cons rfl (subr_cons rfl subr_nil))
  · refine JQ.exit ?_
    refine JQ.e_then ?_
    refine JQ.e_then ?_
    refine JQ.e_here ?_
    refine JQ.n_then ?_
    refine JQ.seq ?_
    refine JQ.region ?_
    refine JQ.v (JV.move rfl) rfl ?_
    refine JQ.v (JV.assign rfl) rfl ?_
    refine JQ.nil ?_
    refine JQ.n_then ?_
    refine JQ.ret ?_
    refine JQ.done1 Tryd.results13 rfl ?_
    exact fun w hw => ⟨by rw [show i = ms.length from by omega, List.take_of_length_le (Nat.le_refl _)], hw.below⟩

theorem rkin_spec (l : List UInt8) (hl : l.length ≤ 1048576) (v : Value) (ms : List (List UInt8)) (hms : Pl.few ms) (w : World) (hr : Reads w v 1 ms.length (ms.map str)) :
    Calls Tryd.prog 15 #[str l, v] w fun e w' => e = .returned (str (Pl.kin l ms)) ∧ Below w.heap.size w w' := by
  
  refine enterA (vs := [_, _]) Tryd.func15 rfl 26 rfl [(100, .ro v 1 ms.length (ms.map str))] (MemOk.start1 100 hr) ?_
  refine JQ.seq ?_
  refine JQ.region ?_
  refine JQ.v (JV.assign rfl) rfl ?_
  refine JQ.nil ?_
  refine JQ.n_then ?_
  refine JQ.seq ?_
  refine JQ.region ?_
  refine JQ.x (JO.buildSlice 1 (us := []) (e := 5) evp_nil (fun w => by kernel_rfl)) rfl ?_
  intro i1_0
  refine JQ.rowOf (n := 0) (esz := 1) 1 rfl rfl (by omega) ?_
  refine JQ.v (JV.move rfl) rfl ?_
  refine JQ.x (JO.callRow 2 Tryd.call23 (evs_cons rfl evs_nil) (fun w hw => rbytes_spec l (by omega) w)) rfl ?_
  intro i1_2
  refine JQ.x (JO.append 1 elem5 rfl rfl rfl (fun w hw => Src.rd Tryd.underlying44 (hw.readsRow (id := 2) rfl)) (allB _) (by have := Pl.encB_len l; have := Pl.nb_le l.length; omega) (by have := Pl.encB_len l; have := Pl.nb_le l.length; omega)) rfl ?_
  intro i1_3
  rw [List.nil_append, Nat.zero_add]
  refine JQ.v (JV.assign rfl) rfl ?_
  refine JQ.nil ?_
  refine JQ.n_then ?_
  refine JQ.seq ?_
  refine JQ.seq ?_
  refine JQ.region ?_
  refine JQ.v (JV.assign rfl) rfl ?_
  refine JQ.nil ?_
  refine JQ.n_then ?_
  refine JQ.block ?_
  refine JQ.loopI (ι := Nat × Value) (fun i => [(1, v), (5, i.2), (6, .int .i64 ((i.1 : Nat) : Int))]) (fun i => [(1, .row i.2 5 1 (Pl.kin l (ms.take i.1)).length ((Pl.kin l (ms.take i.1)).map b8)), (100, .ro v 1 ms.length (ms.map str))]) (fun i => i.1 ≤ ms.length) (fun i => ms.length - i.1) (0, _) (Nat.zero_le _) (subk_cons rfl (subk_cons rfl (subk_cons rfl subk_nil))) (subr_cons (by rw [show Pl.kin l (ms.take 0) = Pl.encB l from Pl.kin_nil l]; rfl) (subr_cons rfl subr_nil)) ?_
  intro i hi
  have h1 := Pl.kin_few hl (hms.take i.1)
  have h2 := Pl.encB_few hms i.1
  have h3 := hms.1
  refine JQ.seq ?_
  refine JQ.seq ?_
  refine JQ.region ?_
  refine JQ.v (JV.move rfl) rfl ?_
  refine JQ.v (JV.move rfl) rfl ?_
  refine JQ.v (JV.lenRo 100 rfl rfl Tryd.runUnderlying22) rfl ?_
  refine JQ.v (JV.lssN rfl rfl) rfl ?_
  refine JQ.nil ?_
  refine JQ.n_then ?_
  refine JQ.condP rfl (fun h14 => ?_) (fun h14 => ?_)
  · refine JQ.skip ?_
    refine JQ.n_then ?_
    refine JQ.seq ?_
    refine JQ.block ?_
    refine JQ.region ?_
    refine JQ.v (JV.move rfl) rfl ?_
    refine JQ.v (JV.move rfl) rfl ?_
    refine JQ.v (JV.move rfl) rfl ?_
    refine JQ.v (JV.idxRo1 100 rfl rfl rfl Tryd.runUnderlying22 Tryd.sizeOf9 (by decide) (by omega)) rfl ?_
    refine JQ.v (JV.loadR 100 rfl rfl Tryd.isAgg9 (getS _ _ (by omega))) rfl ?_
    refine JQ.x (JO.callRow 3 Tryd.call23 (evs_cons rfl evs_nil) (fun w hw => rbytes_spec _ (Nat.le_trans (hms.get i.1) (by decide)) w)) rfl ?_
    intro i5_5
    refine JQ.x (JO.append 1 elem5 rfl rfl rfl (fun w hw => Src.rd Tryd.underlying44 (hw.readsRow (id := 3) rfl)) (allB _) (by omega) (by omega)) rfl ?_
    intro i5_6
    rw [← List.map_append, ← List.length_append, ← Pl.kin_succ l ms i.1 (by omega)]
    refine JQ.v (JV.assign rfl) rfl ?_
    refine JQ.nil ?_
    refine JQ.n_block ?_
    refine JQ.n_then ?_
    refine JQ.region ?_
    refine JQ.v (JV.move rfl) rfl ?_
    refine JQ.v (JV.addN (b := 1) rfl rfl (by omega)) rfl ?_
    refine JQ.v (JV.assign rfl) rfl ?_
    refine JQ.nil ?_
    refine JQ.n_then ?_
    exact JQ.nextI (i.1 + 1, i5_6) (by show i.1 + 1 ≤ ms.length; omega) (by show ms.length - (i.1 + 1) < ms.length - i.1; omega) (subk_cons rfl (subk_cons rfl (subk_cons rfl subk_nil))) (subr_cons rfl (subr_cons rfl subr_nil))
  · refine JQ.exit ?_
    refine JQ.e_then ?_
    refine JQ.e_then ?_
    refine JQ.e_here ?_
    refine JQ.n_then ?_
    refine JQ.seq ?_
    rw [show i.1 = ms.length from by omega, List.take_of_length_le (Nat.le_refl _)]
    refine JQ.region ?_
    refine JQ.v (JV.move rfl) rfl ?_
    refine JQ.v (JV.bytesStrW 1 (l := Pl.kin l ms) Tryd.runUnderlying44 Tryd.runUnderlying5 Tryd.runUnderlying9 rfl rfl) rfl ?_
    refine JQ.v (JV.assign rfl) rfl ?_
    refine JQ.nil ?_
    refine JQ.n_then ?_
    refine JQ.ret ?_
    refine JQ.done1 Tryd.results15 rfl ?_
    exact fun w hw => ⟨rfl, hw.below⟩

theorem rderive_spec (k l : List UInt8) (hk : k.length ≤ 1048576) (hl : l.length ≤ 1048576) (v : Value) (ms : List (List UInt8)) (hms : Pl.few ms) (w : World) (hR : Gl 0 (Pl.K.map u32) w) (hr : Reads w v 1 ms.length (ms.map str)) :
    Calls Tryd.prog 12 #[str k, str l, v] w fun e w' => e = .returned (str (Pl.derive k l ms)) ∧ Below w.heap.size w w' := by
  
  refine enterA (vs := [_, _, _]) Tryd.func12 rfl 12 rfl [(900, .ro (gv 0 64) 1 64 (Pl.K.map u32)), (100, .ro v 1 ms.length (ms.map str))] ((MemOk.start1 100 hr).addRo 900 hR (ro_cons ro_nil)) ?_
  refine JQ.seq ?_
  refine JQ.region ?_
  refine JQ.v (JV.assign rfl) rfl ?_
  refine JQ.nil ?_
  refine JQ.n_then ?_
  refine JQ.seq ?_
  refine JQ.region ?_
  refine JQ.v (JV.move rfl) rfl ?_
  refine JQ.v (JV.move rfl) rfl ?_
  refine JQ.v (JV.move rfl) rfl ?_
  refine JQ.v (JV.callM Tryd.call15 (evs_cons rfl (evs_cons rfl evs_nil)) (fun w hw => rkin_spec l hl v ms hms w (hw.reads (id := 100) rfl))) rfl ?_
  refine JQ.v (JV.callM Tryd.call16 (evs_cons rfl (evs_cons rfl evs_nil)) (fun w hw => rmac_spec k (Pl.kin l ms) (by omega) (by have := Pl.kin_few hl hms; omega) w (hw.reads (id := 900) rfl))) rfl ?_
  refine JQ.v (JV.assign rfl) rfl ?_
  refine JQ.nil ?_
  refine JQ.n_then ?_
  refine JQ.ret ?_
  refine JQ.done1 Tryd.results12 rfl ?_
  exact fun w hw => ⟨rfl, hw.below⟩

theorem rpath_spec (k : List UInt8) (hk : k.length ≤ 1048576) (v : Value) (ms : List (List UInt8)) (hms : Pl.few ms) (w : World) (hR : Gl 0 (Pl.K.map u32) w) (hr : Reads w v 1 ms.length (ms.map str)) :
    Calls Tryd.prog 14 #[str k, v] w fun e w' => e = .returned (str (Pl.path k ms)) ∧ Below w.heap.size w w' := by
  
  refine enterA (vs := [_, _]) Tryd.func14 rfl 21 rfl [(900, .ro (gv 0 64) 1 64 (Pl.K.map u32)), (100, .ro v 1 ms.length (ms.map str))] ((MemOk.start1 100 hr).addRo 900 hR (ro_cons ro_nil)) ?_
  refine JQ.seq ?_
  refine JQ.region ?_
  refine JQ.v (JV.assign rfl) rfl ?_
  refine JQ.nil ?_
  refine JQ.n_then ?_
  refine JQ.seq ?_
  refine JQ.region ?_
  refine JQ.v (JV.move rfl) rfl ?_
  refine JQ.v (JV.assign rfl) rfl ?_
  refine JQ.nil ?_
  refine JQ.n_then ?_
  refine JQ.seq ?_
  refine JQ.seq ?_
  refine JQ.region ?_
  refine JQ.v (JV.assign rfl) rfl ?_
  refine JQ.nil ?_
  refine JQ.n_then ?_
  refine JQ.block ?_
  refine JQ.loopI (ι := Nat) (fun i => [(1, v), (5, str (Pl.path k (ms.take i))), (6, .int .i64 ((i : Nat) : Int))]) (fun i => [(100, .ro v 1 ms.length (ms.map str)), (900, .ro (gv 0 64) 1 64 (Pl.K.map u32))]) (fun i => i ≤ ms.length) (fun i => ms.length - i) 0 (Nat.zero_le _) (subk_cons rfl (subk_cons rfl (subk_cons rfl subk_nil))) (subr_cons rfl (subr_cons rfl subr_nil)) ?_
  intro i hi
  have h3 := hms.1
  refine JQ.seq ?_
  refine JQ.seq ?_
  refine JQ.region ?_
  refine JQ.v (JV.move rfl) rfl ?_
  refine JQ.v (JV.move rfl) rfl ?_
  refine JQ.v (JV.lenRo 100 rfl rfl Tryd.runUnderlying22) rfl ?_
  refine JQ.v (JV.lssN rfl rfl) rfl ?_
  refine JQ.nil ?_
  refine JQ.n_then ?_
  refine JQ.condP rfl (fun h11 => ?_) (fun h11 => ?_)
  · refine JQ.skip ?_
    refine JQ.n_then ?_
    refine JQ.seq ?_
    refine JQ.block ?_
    refine JQ.region ?_
    refine JQ.v (JV.move rfl) rfl ?_
    refine JQ.v (JV.move rfl) rfl ?_
    refine JQ.v (JV.move rfl) rfl ?_
    refine JQ.v (JV.idxRo1 100 rfl rfl rfl Tryd.runUnderlying22 Tryd.sizeOf9 (by decide) (by omega)) rfl ?_
    refine JQ.v (JV.loadR 100 rfl rfl Tryd.isAgg9 (getS _ _ (by omega))) rfl ?_
    refine JQ.v (JV.callM Tryd.call12 (evs_cons rfl (evs_cons rfl (evs_cons rfl evs_nil))) (fun w hw => rderive_spec (Pl.path k (ms.take i)) (ms.getD i []) (by have := Pl.path_len k (ms.take i); omega) (hms.get i) _ [] Pl.few_nil w (hw.reads (id := 900) rfl) (reads_nil w _ _ rfl rfl))) rfl ?_
    rw [← Pl.path_succ k ms i (by omega)]
    refine JQ.v (JV.assign rfl) rfl ?_
    refine JQ.nil ?_
    refine JQ.n_block ?_
    refine JQ.n_then ?_
    refine JQ.region ?_
    refine JQ.v (JV.move rfl) rfl ?_
    refine JQ.v (JV.addN (b := 1) rfl rfl (by omega)) rfl ?_
    refine JQ.v (JV.assign rfl) rfl ?_
    refine JQ.nil ?_
    refine JQ.n_then ?_
    exact JQ.nextI (i + 1) (by omega) (by omega) (subk_cons rfl (subk_cons rfl (subk_cons rfl subk_nil))) (subr_cons rfl (subr_cons rfl subr_nil))
  · refine JQ.exit ?_
    refine JQ.e_then ?_
    refine JQ.e_then ?_
    refine JQ.e_here ?_
    refine JQ.n_then ?_
    refine JQ.seq ?_
    refine JQ.region ?_
    refine JQ.v (JV.move rfl) rfl ?_
    refine JQ.v (JV.assign rfl) rfl ?_
    refine JQ.nil ?_
    refine JQ.n_then ?_
    refine JQ.ret ?_
    refine JQ.done1 Tryd.results14 rfl ?_
    exact fun w hw => ⟨by rw [show i = ms.length from by omega, List.take_of_length_le (Nat.le_refl _)], hw.below⟩
end Go.Fw
end
section
open Go.RowKit
set_option maxRecDepth 100000
set_option linter.unusedVariables false
set_option linter.unusedSimpArgs false
namespace Go.Fw
open Go.Proofs
theorem next_spec (s : List UInt8) (hs : s.length ≤ 1048576) (w : World) (hG : Gl 1 (Pl.K.map u32) w) :
    Calls Tryd.prog 17 #[.agg [str s].toArray] w fun e w' => e = .returned (.tuple #[str (Pl.val s), .agg [str (Pl.seed s)].toArray]) ∧ Below w.heap.size w w' := by
  
  refine enterA (vs := [_]) Tryd.func17 rfl 11 rfl [(901, .ro (gv 1 64) 1 64 (Pl.K.map u32))] (MemOk.start1 901 hG) ?_
  refine JQ.seq ?_
  refine JQ.region ?_
  refine JQ.x (JO.box 1 rfl rfl) rfl ?_
  intro i0_0
  refine JQ.v (JV.assign rfl) rfl ?_
  refine JQ.x (JO.alloc 2 (zs := [str []]) Tryd.zeroValue33 rfl) rfl ?_
  intro i0_2
  refine JQ.nil ?_
  refine JQ.n_then ?_
  refine JQ.seq ?_
  refine JQ.any [_, _, _, _, _, _, _, _, _] [fun _ => [], fun _ => [], fun _ => [], fun _ => [], fun _ => [], fun _ => [], fun _ => [], fun _ => [], _] [⟨[], [], [], []⟩, ⟨[1], [], [], [0]⟩, ⟨[901], [], [], [0, 1]⟩, ⟨[], [], [], []⟩, ⟨[1], [], [], [3]⟩, ⟨[901], [], [], [0, 1, 2, 3, 4]⟩, ⟨[], [], [], [0, 1, 2, 3, 4, 5]⟩, ⟨[], [], [], [0, 1, 2, 3, 4, 5]⟩, ⟨[], [2], [], [0, 1, 2, 3, 4, 5, 6, 7]⟩] Tryd.mixed rfl (by kernel_rfl) ⟨Ob.v rfl (fun _ _ h => by cases h) (fun _ _ _ => rfl) (fun e L' hL => JV.fieldAddrK (o := 0) rfl Tryd.runUnderlying33 rfl Tryd.sizeOf9 rfl rfl),
        Ob.v rfl (fun _ _ h => by cases h) (fun _ _ _ => rfl) (fun e L' hL => JV.load1 1 rfl ((hL 1 (by decide)).trans rfl) Tryd.isAgg9 (rfl)),
        Ob.v rfl (fun _ _ h => by cases h) (fun _ _ _ => rfl) (fun e L' hL => JV.callM Tryd.call11 (evs_cons rfl (evs_cons rfl (evs_cons rfl evs_nil))) (fun w hw => derive_spec s Pl.lvalue hs (by decide) _ [] Pl.few_nil w (hw.reads (id := 901) ((hL 901 (by decide)).trans rfl)) (reads_nil w _ _ rfl rfl))),
        Ob.v rfl (fun _ _ h => by cases h) (fun _ _ _ => rfl) (fun e L' hL => JV.fieldAddrK (o := 0) rfl Tryd.runUnderlying33 rfl Tryd.sizeOf9 rfl rfl),
        Ob.v rfl (fun _ _ h => by cases h) (fun _ _ _ => rfl) (fun e L' hL => JV.load1 1 rfl ((hL 1 (by decide)).trans rfl) Tryd.isAgg9 (rfl)),
        Ob.v rfl (fun _ _ h => by cases h) (fun _ _ _ => rfl) (fun e L' hL => JV.callM Tryd.call11 (evs_cons rfl (evs_cons rfl (evs_cons rfl evs_nil))) (fun w hw => derive_spec s Pl.lseed hs (by decide) _ [] Pl.few_nil w (hw.reads (id := 901) ((hL 901 (by decide)).trans rfl)) (reads_nil w _ _ rfl rfl))),
        Ob.v rfl (fun _ _ h => by cases h) (fun _ _ _ => rfl) (fun e L' hL => JV.build (v := .agg [str (Pl.seed s)].toArray) (evp_cons rfl evp_nil) (fun w => by kernel_rfl)),
        Ob.v rfl (fun _ _ h => by cases h) (fun _ _ _ => rfl) (fun e L' hL => JV.assign rfl),
        Ob.s 2 rfl (fun _ _ h => by cases h) (fun _ _ _ => rfl) (fun e L' hL => JO.storeV 2 rfl ((hL 2 (by decide)).trans rfl) rfl (us := [str (Pl.seed s)]) rfl Tryd.sizeOf33 rfl rfl), trivial⟩ (fun ev1 => ?_)
  simp only [endF, endL, putF, List.nil_append, List.cons_append]
  refine JQ.n_then ?_
  refine JQ.ret ?_
  refine JQ.doneTC 2 Tryd.results17 rfl rfl rfl Tryd.isAgg33 Tryd.sizeOf33 rfl ?_
  exact fun w hw => ⟨rfl, hw.below⟩

theorem rnext_spec (s : List UInt8) (hs : s.length ≤ 1048576) (w : World) (hR : Gl 0 (Pl.K.map u32) w) :
    Calls Tryd.prog 18 #[.agg [str s].toArray] w fun e w' => e = .returned (.tuple #[str (Pl.val s), .agg [str (Pl.seed s)].toArray]) ∧ Below w.heap.size w w' := by
  
  refine enterA (vs := [_]) Tryd.func18 rfl 11 rfl [(900, .ro (gv 0 64) 1 64 (Pl.K.map u32))] (MemOk.start1 900 hR) ?_
  refine JQ.seq ?_
  refine JQ.region ?_
  refine JQ.x (JO.box 1 rfl rfl) rfl ?_
  intro i0_0
  refine JQ.v (JV.assign rfl) rfl ?_
  refine JQ.x (JO.alloc 2 (zs := [str []]) Tryd.zeroValue36 rfl) rfl ?_
  intro i0_2
  refine JQ.nil ?_
  refine JQ.n_then ?_
  refine JQ.seq ?_
  refine JQ.any [_, _, _, _, _, _, _, _, _] [fun _ => [], fun _ => [], fun _ => [], fun _ => [], fun _ => [], fun _ => [], fun _ => [], fun _ => [], _] [⟨[], [], [], []⟩, ⟨[1], [], [], [0]⟩, ⟨[900], [], [], [0, 1]⟩, ⟨[], [], [], []⟩, ⟨[1], [], [], [3]⟩, ⟨[900], [], [], [0, 1, 2, 3, 4]⟩, ⟨[], [], [], [0, 1, 2, 3, 4, 5]⟩, ⟨[], [], [], [0, 1, 2, 3, 4, 5]⟩, ⟨[], [2], [], [0, 1, 2, 3, 4, 5, 6, 7]⟩] Tryd.mixed rfl (by kernel_rfl) ⟨Ob.v rfl (fun _ _ h => by cases h) (fun _ _ _ => rfl) (fun e L' hL => JV.fieldAddrK (o := 0) rfl Tryd.runUnderlying36 rfl Tryd.sizeOf9 rfl rfl),
        Ob.v rfl (fun _ _ h => by cases h) (fun _ _ _ => rfl) (fun e L' hL => JV.load1 1 rfl ((hL 1 (by decide)).trans rfl) Tryd.isAgg9 (rfl)),
        Ob.v rfl (fun _ _ h => by cases h) (fun _ _ _ => rfl) (fun e L' hL => JV.callM Tryd.call12 (evs_cons rfl (evs_cons rfl (evs_cons rfl evs_nil))) (fun w hw => rderive_spec s Pl.lvalue hs (by decide) _ [] Pl.few_nil w (hw.reads (id := 900) ((hL 900 (by decide)).trans rfl)) (reads_nil w _ _ rfl rfl))),
        Ob.v rfl (fun _ _ h => by cases h) (fun _ _ _ => rfl) (fun e L' hL => JV.fieldAddrK (o := 0) rfl Tryd.runUnderlying36 rfl Tryd.sizeOf9 rfl rfl),
        Ob.v rfl (fun _ _ h => by cases h) (fun _ _ _ => rfl) (fun e L' hL => JV.load1 1 rfl ((hL 1 (by decide)).trans rfl) Tryd.isAgg9 (rfl)),
        Ob.v rfl (fun _ _ h => by cases h) (fun _ _ _ => rfl) (fun e L' hL => JV.callM Tryd.call12 (evs_cons rfl (evs_cons rfl (evs_cons rfl evs_nil))) (fun w hw => rderive_spec s Pl.lseed hs (by decide) _ [] Pl.few_nil w (hw.reads (id := 900) ((hL 900 (by decide)).trans rfl)) (reads_nil w _ _ rfl rfl))),
        Ob.v rfl (fun _ _ h => by cases h) (fun _ _ _ => rfl) (fun e L' hL => JV.build (v := .agg [str (Pl.seed s)].toArray) (evp_cons rfl evp_nil) (fun w => by kernel_rfl)),
        Ob.v rfl (fun _ _ h => by cases h) (fun _ _ _ => rfl) (fun e L' hL => JV.assign rfl),
        Ob.s 2 rfl (fun _ _ h => by cases h) (fun _ _ _ => rfl) (fun e L' hL => JO.storeV 2 rfl ((hL 2 (by decide)).trans rfl) rfl (us := [str (Pl.seed s)]) rfl Tryd.sizeOf36 rfl rfl), trivial⟩ (fun ev1 => ?_)
  simp only [endF, endL, putF, List.nil_append, List.cons_append]
  refine JQ.n_then ?_
  refine JQ.ret ?_
  refine JQ.doneTC 2 Tryd.results18 rfl rfl rfl Tryd.isAgg36 Tryd.sizeOf36 rfl ?_
  exact fun w hw => ⟨rfl, hw.below⟩

theorem rbytesN_spec (s : List UInt8) (hs : s.length ≤ 1048576) (n : Int) (w : World) (hR : Gl 0 (Pl.K.map u32) w) :
    Calls Tryd.prog 20 #[.agg [str s].toArray, .int .i64 n] w fun e w' => e = .returned (.tuple #[str (Pl.rbS s n), .agg [str (Pl.rbR s n)].toArray]) ∧ Below w.heap.size w w' := by
  
  refine enterA (vs := [_, _]) Tryd.func20 rfl 35 rfl [(900, .ro (gv 0 64) 1 64 (Pl.K.map u32))] (MemOk.start1 900 hR) ?_
  refine JQ.seq ?_
  refine JQ.region ?_
  refine JQ.x (JO.box 1 rfl rfl) rfl ?_
  intro i0_0
  refine JQ.v (JV.assign rfl) rfl ?_
  refine JQ.x (JO.alloc 2 (zs := [str []]) Tryd.zeroValue36 rfl) rfl ?_
  intro i0_2
  refine JQ.nil ?_
  refine JQ.n_then ?_
  refine JQ.seq ?_
  refine JQ.seq ?_
  refine JQ.region ?_
  refine JQ.v (JV.move rfl) rfl ?_
  by_cases hs1_1 : n < 0
  · refine JQ.v (JV.tt (JV.lss rfl rfl) hs1_1) rfl ?_
    refine JQ.v (JV.move rfl) rfl ?_
    refine JQ.g0 rfl rfl rfl rfl ?_
    refine JQ.g0 rfl rfl rfl rfl ?_
    refine JQ.v (JV.pickT rfl rfl) rfl ?_
    refine JQ.nil ?_
    refine JQ.n_then ?_
    refine JQ.condT rfl ?_
    refine JQ.seq ?_
    refine JQ.any [_, _, _] [fun _ => [], fun _ => [], _] [⟨[1], [], [], []⟩, ⟨[], [], [], []⟩, ⟨[], [2], [], [0, 1]⟩] Tryd.mixed rfl (by kernel_rfl) ⟨Ob.v rfl (fun _ _ h => by cases h) (fun _ _ _ => rfl) (fun e L' hL => JV.loadV 1 rfl ((hL 1 (by decide)).trans rfl) Tryd.isAgg36 Tryd.sizeOf36 rfl),
            Ob.v rfl (fun _ _ h => by cases h) (fun _ _ _ => rfl) (fun e L' hL => JV.assign rfl),
            Ob.s 2 rfl (fun _ _ h => by cases h) (fun _ _ _ => rfl) (fun e L' hL => JO.storeV 2 rfl ((hL 2 (by decide)).trans rfl) rfl (us := [str s]) rfl Tryd.sizeOf36 rfl rfl), trivial⟩ (fun ev2 => ?_)
    simp only [endF, endL, putF, List.nil_append, List.cons_append]
    refine JQ.n_then ?_
    refine JQ.ret ?_
    refine JQ.r_then ?_
    refine JQ.doneTC 2 Tryd.results20 rfl rfl rfl Tryd.isAgg36 Tryd.sizeOf36 rfl ?_
    exact fun w hw => ⟨by rw [Pl.rbS_out (.inl hs1_1), Pl.rbR_out (.inl hs1_1)]; rfl, hw.below⟩
  · refine JQ.v (JV.ff (JV.lss rfl rfl) hs1_1) rfl ?_
    refine JQ.v (JV.move rfl) rfl ?_
    refine JQ.vg rfl rfl (JV.move rfl) rfl ?_
    refine JQ.vg rfl rfl (JV.gtr rfl rfl) rfl ?_
    refine JQ.v (JV.pickF rfl rfl) rfl ?_
    refine JQ.nil ?_
    refine JQ.n_then ?_
    refine JQ.condP rfl (fun h15 => ?_) (fun h15 => ?_)
    · refine JQ.seq ?_
      refine JQ.any [_, _, _] [fun _ => [], fun _ => [], _] [⟨[1], [], [], []⟩, ⟨[], [], [], []⟩, ⟨[], [2], [], [0, 1]⟩] Tryd.mixed rfl (by kernel_rfl) ⟨Ob.v rfl (fun _ _ h => by cases h) (fun _ _ _ => rfl) (fun e L' hL => JV.loadV 1 rfl ((hL 1 (by decide)).trans rfl) Tryd.isAgg36 Tryd.sizeOf36 rfl),
                Ob.v rfl (fun _ _ h => by cases h) (fun _ _ _ => rfl) (fun e L' hL => JV.assign rfl),
                Ob.s 2 rfl (fun _ _ h => by cases h) (fun _ _ _ => rfl) (fun e L' hL => JO.storeV 2 rfl ((hL 2 (by decide)).trans rfl) rfl (us := [str s]) rfl Tryd.sizeOf36 rfl rfl), trivial⟩ (fun ev2 => ?_)
      simp only [endF, endL, putF, List.nil_append, List.cons_append]
      refine JQ.n_then ?_
      refine JQ.ret ?_
      refine JQ.r_then ?_
      refine JQ.doneTC 2 Tryd.results20 rfl rfl rfl Tryd.isAgg36 Tryd.sizeOf36 rfl ?_
      exact fun w hw => ⟨by rw [Pl.rbS_out (.inr h15), Pl.rbR_out (.inr h15)]; rfl, hw.below⟩
    · refine JQ.skip ?_
      refine JQ.n_then ?_
      refine JQ.seq ?_
      obtain ⟨m, rfl⟩ : ∃ m : Nat, n = (m : Int) := ⟨n.toNat, by omega⟩
      refine JQ.region ?_
      refine JQ.v (JV.assign rfl) rfl ?_
      refine JQ.nil ?_
      refine JQ.n_then ?_
      refine JQ.seq ?_
      refine JQ.region ?_
      refine JQ.v (JV.loadV 1 rfl rfl Tryd.isAgg36 Tryd.sizeOf36 rfl) rfl ?_
      refine JQ.x (JO.alloc 3 (zs := [str []]) Tryd.zeroValue36 rfl) rfl ?_
      intro i4_1
      refine JQ.s (JO.storeV 3 rfl rfl rfl (us := [str s]) rfl Tryd.sizeOf36 rfl rfl) ?_
      refine JQ.nil ?_
      refine JQ.n_then ?_
      refine JQ.seq ?_
      refine JQ.block ?_
      refine JQ.loopI (ι := Nat) (fun i => [(1, .int .i64 ((m : Nat) : Int)), (2, .pointer (some ⟨i0_0, 0, none⟩)), (5, .pointer (some ⟨i0_2, 0, none⟩)), (6, str (Pl.outN s i)), (7, .pointer (some ⟨i4_1, 0, none⟩))]) (fun i => [(1, .cells i0_0 [str s] 36 (0, 0)), (2, .cells i0_2 [str []] 36 (0, 0)), (3, .cells i4_1 [str (Pl.seedN s i)] 36 (0, 0)), (900, .ro (gv 0 64) 1 64 (Pl.K.map u32))]) (fun i => i ≤ Pl.steps m) (fun i => Pl.steps m - i) 0 (Nat.zero_le _) (subk_cons rfl (subk_cons rfl (subk_cons rfl (subk_cons rfl (subk_cons rfl subk_nil))))) (subr_cons rfl (subr_cons rfl (subr_cons rfl (subr_cons rfl subr_nil)))) ?_
      intro i hi
      have hl := Pl.outN_len s i
      unfold Pl.steps at hi
      refine JQ.seq ?_
      refine JQ.seq ?_
      refine JQ.region ?_
      refine JQ.v (JV.move rfl) rfl ?_
      refine JQ.v (JV.lenStr rfl Tryd.runUnderlying9) rfl ?_
      refine JQ.v (JV.move rfl) rfl ?_
      refine JQ.v (JV.lssN rfl rfl) rfl ?_
      refine JQ.nil ?_
      refine JQ.n_then ?_
      refine JQ.condP rfl (fun h21 => ?_) (fun h21 => ?_)
      · refine JQ.skip ?_
        refine JQ.n_then ?_
        refine JQ.block ?_
        refine JQ.seq ?_
        refine JQ.region ?_
        refine JQ.v (JV.loadV 3 rfl rfl Tryd.isAgg36 Tryd.sizeOf36 rfl) rfl ?_
        refine JQ.v (JV.callM Tryd.call18 (evs_cons rfl evs_nil) (fun w hw => rnext_spec (Pl.seedN s i) (Pl.seedN_len hs i) w (hw.reads (id := 900) rfl))) rfl ?_
        refine JQ.v (JV.move rfl) rfl ?_
        refine JQ.v (JV.extract rfl rfl) rfl ?_
        refine JQ.v (JV.extract rfl rfl) rfl ?_
        refine JQ.x (JO.alloc 4 (zs := [str []]) Tryd.zeroValue36 rfl) rfl ?_
        intro i6_5
        refine JQ.v (JV.assign rfl) rfl ?_
        refine JQ.s (JO.storeV 4 rfl rfl rfl (us := [str (Pl.seed (Pl.seedN s i))]) rfl Tryd.sizeOf36 rfl rfl) ?_
        refine JQ.nil ?_
        refine JQ.n_then ?_
        refine JQ.seq ?_
        refine JQ.region ?_
        refine JQ.v (JV.move rfl) rfl ?_
        refine JQ.v (JV.move rfl) rfl ?_
        refine JQ.v (JV.addS rfl rfl (by rw [Pl.val_len]; omega)) rfl ?_
        refine JQ.v (JV.assign rfl) rfl ?_
        refine JQ.nil ?_
        refine JQ.n_then ?_
        refine JQ.region ?_
        refine JQ.v (JV.loadV 4 rfl rfl Tryd.isAgg36 Tryd.sizeOf36 rfl) rfl ?_
        refine JQ.s (JO.storeV 3 rfl rfl rfl (us := [str (Pl.seed (Pl.seedN s i))]) rfl Tryd.sizeOf36 rfl rfl) ?_
        refine JQ.nil ?_
        refine JQ.n_block ?_
        refine JQ.n_then ?_
        exact JQ.nextI (i + 1) (by show i + 1 ≤ Pl.steps m; unfold Pl.steps; omega) (by show Pl.steps m - (i + 1) < Pl.steps m - i; unfold Pl.steps; omega) (subk_cons rfl (subk_cons rfl (subk_cons rfl (subk_cons rfl (subk_cons rfl subk_nil))))) (subr_cons rfl (subr_cons rfl (subr_cons rfl (subr_cons rfl subr_nil))))
      · refine JQ.exit ?_
        refine JQ.e_then ?_
        refine JQ.e_then ?_
        refine JQ.e_here ?_
        refine JQ.n_then ?_
        refine JQ.seq ?_
        refine JQ.any [_, _, _, _, _, _] [fun _ => [], fun _ => [], fun _ => [], fun _ => [], fun _ => [], _] [⟨[], [], [], []⟩, ⟨[], [], [], []⟩, ⟨[], [], [], [0, 1]⟩, ⟨[3], [], [], []⟩, ⟨[], [], [], [0, 1, 2]⟩, ⟨[], [2], [], [0, 1, 2, 3, 4]⟩] Tryd.mixed rfl (by kernel_rfl) ⟨Ob.v rfl (fun _ _ h => by cases h) (fun _ _ _ => rfl) (fun e L' hL => JV.move rfl),
                    Ob.v rfl (fun _ _ h => by cases h) (fun _ _ _ => rfl) (fun e L' hL => JV.move rfl),
                    Ob.v rfl (fun _ _ h => by cases h) (fun _ _ _ => rfl) (fun e L' hL => JV.sliceStr rfl Tryd.runUnderlying9 rfl (bnd_some rfl) (by omega) (by omega)),
                    Ob.v rfl (fun _ _ h => by cases h) (fun _ _ _ => rfl) (fun e L' hL => JV.loadV 3 rfl ((hL 3 (by decide)).trans rfl) Tryd.isAgg36 Tryd.sizeOf36 rfl),
                    Ob.v rfl (fun _ _ h => by cases h) (fun _ _ _ => rfl) (fun e L' hL => JV.assign rfl),
                    Ob.s 2 rfl (fun _ _ h => by cases h) (fun _ _ _ => rfl) (fun e L' hL => JO.storeV 2 rfl ((hL 2 (by decide)).trans rfl) rfl (us := [str (Pl.seedN s i)]) rfl Tryd.sizeOf36 rfl rfl), trivial⟩ (fun ev9 => ?_)
        simp only [endF, endL, putF, List.nil_append, List.cons_append]
        refine JQ.n_then ?_
        refine JQ.ret ?_
        refine JQ.doneTC 2 Tryd.results20 rfl rfl rfl Tryd.isAgg36 Tryd.sizeOf36 rfl ?_
        exact fun w hw => ⟨by rw [Pl.rbS_in (by omega), Pl.rbR_in (by omega), show i = Pl.steps m from by unfold Pl.steps; omega, List.drop_zero, Nat.sub_zero], hw.below⟩
end Go.Fw
end
section
open Go.RowKit
set_option maxRecDepth 100000
set_option linter.unusedVariables false
set_option linter.unusedSimpArgs false
namespace Go.Fw
open Go.Proofs
section
variable {L : ML} {a b c d e f : Res} {i j k : Nat}
theorem sub_over1 : ∀ x r, lr ((i, a) :: L) x = some r → lr ((i, a) :: (i, b) :: L) x = some r := by
  intro x r h; simp only [lr_cons] at h ⊢; split at h <;> simp_all
theorem sub_over2 : ∀ x r, lr ((i, a) :: (j, b) :: L) x = some r → lr ((i, a) :: (j, b) :: (i, c) :: (j, d) :: L) x = some r := by
  intro x r h; simp only [lr_cons] at h ⊢; split at h
  · simp_all
  · split at h <;> simp_all
theorem sub_over3 : ∀ x r, lr ((i, a) :: (j, b) :: (k, c) :: L) x = some r → lr ((i, a) :: (j, b) :: (i, d) :: (j, e) :: (k, c) :: L) x = some r := by
  intro x r h; simp only [lr_cons] at h ⊢; split at h
  · simp_all
  · split at h
    · simp_all
    · split at h <;> simp_all
theorem dup_sub {r : Res} (hr : lr L i = some r) : ∀ x s, lr L x = some s → lr ((i, r) :: L) x = some s := by
  intro x s h; rw [lr_cons]; split
  · rename_i e; subst e; rw [← hr]; exact h
  · exact h
theorem undup {r : Res} (hr : lr L i = some r) : ∀ x s, lr ((i, r) :: L) x = some s → lr L x = some s := by
  intro x s h; rw [lr_cons] at h; split at h
  · rename_i e; subst e; rw [hr]; exact h
  · exact h
end
theorem copyCheck_new {w0 : World} {L : ML} (b : Nat) (v : Value) (w : World) (hw : MemOk w0 ((204, .cells b [.pointer none, v] 52 (0, 0)) :: L) w) :
    Calls Tryd.prog 41 #[.pointer (some ⟨b, 0, none⟩)] w fun e w' => ∃ _ : Unit, e = .returned (.tuple #[]) ∧ MemOk w0 ((204, .cells b [.pointer (some ⟨b, 0, none⟩), v] 52 (0, 0)) :: L) w' := by
  
  refine enterB (vs := [_]) Tryd.func41 rfl 20 rfl ((204, .cells b [.pointer none, v] 52 (0, 0)) :: L) hw ?_
  refine JQ.seq ?_
  refine JQ.region ?_
  refine JQ.v (JV.move rfl) rfl ?_
  refine JQ.v (JV.nilPtr rfl) rfl ?_
  refine JQ.v (JV.fieldAddrK (o := 0) rfl Tryd.runUnderlying52 rfl Tryd.sizeOf50 rfl rfl) rfl ?_
  refine JQ.v (JV.load1 204 rfl rfl Tryd.isAgg50 (rfl)) rfl ?_
  refine JQ.v (JV.eqlPN rfl rfl Tryd.underlying50) rfl ?_
  refine JQ.nil ?_
  refine JQ.n_then ?_
  refine JQ.condT rfl ?_
  refine JQ.region ?_
  refine JQ.v (JV.move rfl) rfl ?_
  refine JQ.v (JV.move rfl) rfl ?_
  refine JQ.v (JV.toUnsafe 204 (j := Tryd.t52) rfl rfl Tryd.underlying50 Tryd.underlying79 (by kernel_rfl) (by decide) (Nat.succ_pos _)) rfl ?_
  refine JQ.v (JV.ext (evs_cons rfl evs_nil) (fun w => by rw [run_callFunc_extern Tryd.func43 (by kernel_rfl) (by kernel_rfl) (by kernel_rfl) (e := Extern.AbiNoEscape.same) (by kernel_rfl)]; rfl)) rfl ?_
  refine JQ.v (JV.fromUnsafe 204 (j := Tryd.t52) rfl rfl Tryd.underlying79 Tryd.underlying50 (by kernel_rfl) (by kernel_rfl)) rfl ?_
  refine JQ.v (JV.nilPtr rfl) rfl ?_
  refine JQ.v (JV.fieldAddrK (o := 0) rfl Tryd.runUnderlying52 rfl Tryd.sizeOf50 rfl rfl) rfl ?_
  refine JQ.s (JO.store1 204 rfl rfl rfl rfl Tryd.sizeOf50 (Nat.le_of_ble_eq_true rfl)) ?_
  refine JQ.nil ?_
  refine JQ.to_ret ?_
  refine JQ.doneN Tryd.results41 ?_
  exact fun w hw => ⟨(), rfl, hw.sub sub_over1⟩

theorem copyCheck_used {w0 : World} {L : ML} (b : Nat) (v : Value) (w : World) (hw : MemOk w0 ((204, .cells b [.pointer (some ⟨b, 0, none⟩), v] 52 (0, 0)) :: L) w) :
    Calls Tryd.prog 41 #[.pointer (some ⟨b, 0, none⟩)] w fun e w' => ∃ _ : Unit, e = .returned (.tuple #[]) ∧ MemOk w0 ((204, .cells b [.pointer (some ⟨b, 0, none⟩), v] 52 (0, 0)) :: L) w' := by
  
  refine enterB (vs := [_]) Tryd.func41 rfl 20 rfl ((204, .cells b [.pointer (some ⟨b, 0, none⟩), v] 52 (0, 0)) :: L) hw ?_
  refine JQ.seq ?_
  refine JQ.region ?_
  refine JQ.v (JV.move rfl) rfl ?_
  refine JQ.v (JV.nilPtr rfl) rfl ?_
  refine JQ.v (JV.fieldAddrK (o := 0) rfl Tryd.runUnderlying52 rfl Tryd.sizeOf50 rfl rfl) rfl ?_
  refine JQ.v (JV.load1 204 rfl rfl Tryd.isAgg50 (rfl)) rfl ?_
  refine JQ.v (JV.eqlPS rfl rfl Tryd.underlying50) rfl ?_
  refine JQ.nil ?_
  refine JQ.n_then ?_
  refine JQ.condF rfl ?_
  refine JQ.seq ?_
  refine JQ.region ?_
  refine JQ.v (JV.move rfl) rfl ?_
  refine JQ.v (JV.nilPtr rfl) rfl ?_
  refine JQ.v (JV.fieldAddrK (o := 0) rfl Tryd.runUnderlying52 rfl Tryd.sizeOf50 rfl rfl) rfl ?_
  refine JQ.v (JV.load1 204 rfl rfl Tryd.isAgg50 (rfl)) rfl ?_
  refine JQ.v (JV.move rfl) rfl ?_
  refine JQ.v (JV.neqPP (j := Tryd.t52) rfl rfl Tryd.underlying50 (by kernel_rfl)) rfl ?_
  refine JQ.nil ?_
  refine JQ.n_then ?_
  refine JQ.condF rfl ?_
  refine JQ.skip ?_
  refine JQ.to_ret ?_
  refine JQ.doneN Tryd.results41 ?_
  exact fun w hw => ⟨(), rfl, hw.sub (fun _ _ h => h)⟩

theorem copyCheck_spec {w0 : World} {L : ML} (b : Nat) (p v : Value) (hp : p = .pointer none ∨ p = .pointer (some ⟨b, 0, none⟩)) (w : World) (hw : MemOk w0 ((204, .cells b [p, v] 52 (0, 0)) :: L) w) :
    Calls Tryd.prog 41 #[.pointer (some ⟨b, 0, none⟩)] w fun e w' => ∃ _ : Unit, e = .returned (.tuple #[]) ∧ MemOk w0 ((204, .cells b [.pointer (some ⟨b, 0, none⟩), v] 52 (0, 0)) :: L) w' := by
  rcases hp with rfl | rfl
  · exact copyCheck_new b v w hw
  · exact copyCheck_used b v w hw

theorem writeString_spec {w0 : World} {L : ML} (b : Nat) (p v : Value) (m l : List UInt8) (hp : p = .pointer none ∨ p = .pointer (some ⟨b, 0, none⟩)) (hm : m.length + l.length ≤ 140737488355328) (w : World) (hw : MemOk w0 ((204, .cells b [p, v] 52 (0, 0)) :: (205, .row v 5 1 (m).length ((m).map b8)) :: L) w) :
    Calls Tryd.prog 28 #[.pointer (some ⟨b, 0, none⟩), str l] w fun e w' => ∃ v' : Value, e = .returned (.tuple #[.int .i64 (l.length : Int), .nilIface]) ∧ MemOk w0 ((204, .cells b [.pointer (some ⟨b, 0, none⟩), v'] 52 (0, 0)) :: (205, .row v' 5 1 (m ++ l).length ((m ++ l).map b8)) :: L) w' := by
  
  refine enterB (vs := [_, _]) Tryd.func28 rfl 19 rfl ((204, .cells b [p, v] 52 (0, 0)) :: (205, .row v 5 1 (m).length ((m).map b8)) :: L) hw ?_
  refine JQ.seq ?_
  refine JQ.region ?_
  refine JQ.v (JV.assign rfl) rfl ?_
  refine JQ.v (JV.assign rfl) rfl ?_
  refine JQ.nil ?_
  refine JQ.n_then ?_
  refine JQ.seq ?_
  refine JQ.region ?_
  refine JQ.v (JV.move rfl) rfl ?_
  refine JQ.x (JO.callC Tryd.call41 (evs_cons rfl evs_nil) (fun w hw => copyCheck_spec b p v hp w hw)) rfl ?_
  rintro ⟨⟩
  refine JQ.nil ?_
  refine JQ.n_then ?_
  refine JQ.seq ?_
  refine JQ.region ?_
  refine JQ.v (JV.move rfl) rfl ?_
  refine JQ.v (JV.move rfl) rfl ?_
  refine JQ.v (JV.nilPtr rfl) rfl ?_
  refine JQ.v (JV.fieldAddrK (o := 1) rfl Tryd.runUnderlying52 rfl Tryd.sizeOf44 rfl rfl) rfl ?_
  refine JQ.v (JV.load1 204 rfl rfl Tryd.isAgg44 (rfl)) rfl ?_
  refine JQ.v (JV.move rfl) rfl ?_
  refine JQ.x (JO.append 205 elem5 rfl rfl rfl (fun w hw => Src.str Tryd.underlying9) (allB _) (by omega) (by omega)) rfl ?_
  intro i2_6
  rw [← List.map_append, ← List.length_append]
  refine JQ.v (JV.nilPtr rfl) rfl ?_
  refine JQ.v (JV.fieldAddrK (o := 1) rfl Tryd.runUnderlying52 rfl Tryd.sizeOf44 rfl rfl) rfl ?_
  refine JQ.s (JO.store1R 204 205 rfl rfl rfl rfl Tryd.sizeOf44 (Nat.le_of_ble_eq_true rfl)) ?_
  refine JQ.nil ?_
  refine JQ.n_then ?_
  refine JQ.seq ?_
  refine JQ.region ?_
  refine JQ.v (JV.move rfl) rfl ?_
  refine JQ.v (JV.lenStr rfl Tryd.runUnderlying9) rfl ?_
  refine JQ.v (JV.assign rfl) rfl ?_
  refine JQ.v (JV.assign rfl) rfl ?_
  refine JQ.nil ?_
  refine JQ.n_then ?_
  refine JQ.ret ?_
  refine JQ.doneTT Tryd.results28 rfl rfl ?_
  exact fun w hw => ⟨_, rfl, hw.sub sub_over2⟩

theorem len_spec {w0 : World} {L : ML} (b : Nat) (p v : Value) (m : List UInt8) (w : World) (hw : MemOk w0 ((204, .cells b [p, v] 52 (0, 0)) :: (205, .row v 5 1 (m).length ((m).map b8)) :: L) w) :
    Calls Tryd.prog 29 #[.pointer (some ⟨b, 0, none⟩)] w fun e w' => e = .returned (.int .i64 (m.length : Int)) ∧ MemOk w0 ((204, .cells b [p, v] 52 (0, 0)) :: (205, .row v 5 1 (m).length ((m).map b8)) :: L) w' := by
  
  refine enterB (vs := [_]) Tryd.func29 rfl 8 rfl ((204, .cells b [p, v] 52 (0, 0)) :: (205, .row v 5 1 (m).length ((m).map b8)) :: L) hw ?_
  refine JQ.seq ?_
  refine JQ.region ?_
  refine JQ.v (JV.assign rfl) rfl ?_
  refine JQ.nil ?_
  refine JQ.n_then ?_
  refine JQ.seq ?_
  refine JQ.region ?_
  refine JQ.v (JV.move rfl) rfl ?_
  refine JQ.v (JV.nilPtr rfl) rfl ?_
  refine JQ.v (JV.fieldAddrK (o := 1) rfl Tryd.runUnderlying52 rfl Tryd.sizeOf44 rfl rfl) rfl ?_
  refine JQ.v (JV.load1 204 rfl rfl Tryd.isAgg44 (rfl)) rfl ?_
  refine JQ.v (JV.lenRow 205 rfl rfl Tryd.runUnderlying44) rfl ?_
  refine JQ.v (JV.assign rfl) rfl ?_
  refine JQ.nil ?_
  refine JQ.n_then ?_
  refine JQ.ret ?_
  refine JQ.done1 Tryd.results29 rfl ?_
  exact fun w hw => ⟨rfl, hw⟩

theorem string_spec {w0 : World} {L : ML} (b : Nat) (p v : Value) (m : List UInt8) (h0 : 0 < m.length) (w : World) (hw : MemOk w0 ((204, .cells b [p, v] 52 (0, 0)) :: (205, .row v 5 1 (m).length ((m).map b8)) :: L) w) :
    Calls Tryd.prog 30 #[.pointer (some ⟨b, 0, none⟩)] w fun e w' => ∃ _ : Unit, e = .returned (str m) ∧ MemOk w0 ((205, .ro v 1 m.length (m.map b8)) :: (204, .cells b [p, v] 52 (0, 0)) :: (205, .row v 5 1 (m).length ((m).map b8)) :: L) w' := by
  
  refine enterB (vs := [_]) Tryd.func30 rfl 14 rfl ((204, .cells b [p, v] 52 (0, 0)) :: (205, .row v 5 1 (m).length ((m).map b8)) :: L) hw ?_
  refine JQ.seq ?_
  refine JQ.region ?_
  refine JQ.v (JV.assign rfl) rfl ?_
  refine JQ.nil ?_
  refine JQ.n_then ?_
  refine JQ.seq ?_
  refine JQ.any [_, _, _, _, _, _, _, _, _, _, _, _] [fun _ => [], fun _ => [], fun _ => [], fun _ => [], fun _ => [], fun _ => [], fun _ => [], fun _ => [], fun _ => [], fun _ => [], _, fun _ => []] [⟨[], [], [], []⟩, ⟨[], [], [], [0]⟩, ⟨[], [], [], [0, 1]⟩, ⟨[204], [], [], [0, 1, 2]⟩, ⟨[205], [], [], [0, 1, 2, 3]⟩, ⟨[], [], [], []⟩, ⟨[], [], [], [5]⟩, ⟨[], [], [], [5, 6]⟩, ⟨[204], [], [], [5, 6, 7]⟩, ⟨[205], [], [], [5, 6, 7, 8]⟩, ⟨[], [205], [], [0, 1, 2, 3, 4, 5, 6, 7, 8, 9]⟩, ⟨[], [], [], [0, 1, 2, 3, 4, 5, 6, 7, 8, 9, 10]⟩] Tryd.mixed rfl (by kernel_rfl) ⟨Ob.v rfl (fun _ _ h => by cases h) (fun _ _ _ => rfl) (fun e L' hL => JV.move rfl),
        Ob.v rfl (fun _ _ h => by cases h) (fun _ _ _ => rfl) (fun e L' hL => JV.nilPtr rfl),
        Ob.v rfl (fun _ _ h => by cases h) (fun _ _ _ => rfl) (fun e L' hL => JV.fieldAddrK (o := 1) rfl Tryd.runUnderlying52 rfl Tryd.sizeOf44 rfl rfl),
        Ob.v rfl (fun _ _ h => by cases h) (fun _ _ _ => rfl) (fun e L' hL => JV.load1 204 rfl ((hL 204 (by decide)).trans rfl) Tryd.isAgg44 (rfl)),
        Ob.v rfl (fun _ _ h => by cases h) (fun _ _ _ => rfl) (fun e L' hL => JV.sliceData 205 rfl ((hL 205 (by decide)).trans rfl) (h0)),
        Ob.v rfl (fun _ _ h => by cases h) (fun _ _ _ => rfl) (fun e L' hL => JV.move rfl),
        Ob.v rfl (fun _ _ h => by cases h) (fun _ _ _ => rfl) (fun e L' hL => JV.nilPtr rfl),
        Ob.v rfl (fun _ _ h => by cases h) (fun _ _ _ => rfl) (fun e L' hL => JV.fieldAddrK (o := 1) rfl Tryd.runUnderlying52 rfl Tryd.sizeOf44 rfl rfl),
        Ob.v rfl (fun _ _ h => by cases h) (fun _ _ _ => rfl) (fun e L' hL => JV.load1 204 rfl ((hL 204 (by decide)).trans rfl) Tryd.isAgg44 (rfl)),
        Ob.v rfl (fun _ _ h => by cases h) (fun _ _ _ => rfl) (fun e L' hL => JV.lenRow 205 rfl ((hL 205 (by decide)).trans rfl) Tryd.runUnderlying44),
        Ob.u 205 rfl (fun _ _ h => by cases h) (fun _ _ _ => ⟨rfl, rfl⟩) (by decide) (fun e L' hL => JO.unsafeStr 205 rfl rfl ((hL 205 (by decide)).trans rfl) (h0) Tryd.underlying76 (by kernel_rfl)),
        Ob.v rfl (fun _ _ h => by cases h) (fun _ _ _ => rfl) (fun e L' hL => JV.assign rfl), trivial⟩ (fun ev1 => ?_)
  simp only [endF, endL, putF, List.nil_append, List.cons_append]
  refine JQ.n_then ?_
  refine JQ.ret ?_
  refine JQ.done1 Tryd.results30 rfl ?_
  exact fun w hw => ⟨(), rfl, hw⟩

theorem len_at {w0 : World} {L : ML} (b : Nat) (p v : Value) (m : List UInt8) (h4 : lr L 204 = some (.cells b [p, v] 52 (0, 0))) (h5 : lr L 205 = some (.row v 5 1 m.length (m.map b8))) (w : World) (hw : MemOk w0 L w) :
    Calls Tryd.prog 29 #[.pointer (some ⟨b, 0, none⟩)] w fun e w' => e = .returned (.int .i64 (m.length : Int)) ∧ MemOk w0 L w' :=
  (len_spec b p v m w ((hw.dup h5).dup (id := 204) ((dup_sub h5 _ _ h4)))).mono fun e w' ⟨he, hM⟩ => ⟨he, hM.sub fun x s hx => dup_sub (dup_sub h5 _ _ h4) _ _ (dup_sub h5 _ _ hx)⟩

theorem string_at {w0 : World} {L : ML} (b : Nat) (p v : Value) (m : List UInt8) (h0 : 0 < m.length) (h4 : lr L 204 = some (.cells b [p, v] 52 (0, 0))) (h5 : lr L 205 = some (.row v 5 1 m.length (m.map b8))) (w : World) (hw : MemOk w0 L w) :
    Calls Tryd.prog 30 #[.pointer (some ⟨b, 0, none⟩)] w fun e w' => ∃ _ : Unit, e = .returned (str m) ∧ MemOk w0 ((205, .ro v 1 m.length (m.map b8)) :: L) w' :=
  (string_spec b p v m h0 w ((hw.dup h5).dup (id := 204) ((dup_sub h5 _ _ h4)))).mono fun e w' ⟨i, he, hM⟩ => ⟨i, he, hM.sub fun x s hx => by
    rw [lr_cons] at hx ⊢
    split at hx
    · rename_i e; rw [if_pos e]; exact hx
    · rename_i e; rw [if_neg e]; exact dup_sub (dup_sub h5 _ _ h4) _ _ (dup_sub h5 _ _ hx)⟩

theorem writeString_at {w0 : World} {L : ML} (b : Nat) (p v : Value) (m : List UInt8) (l : List UInt8) (hp : p = .pointer none ∨ p = .pointer (some ⟨b, 0, none⟩)) (hm : m.length + l.length ≤ 140737488355328) (h4 : lr L 204 = some (.cells b [p, v] 52 (0, 0))) (h5 : lr L 205 = some (.row v 5 1 m.length (m.map b8))) (w : World) (hw : MemOk w0 L w) :
    Calls Tryd.prog 28 #[.pointer (some ⟨b, 0, none⟩), str l] w fun e w' => ∃ v' : Value, e = .returned (.tuple #[.int .i64 (l.length : Int), .nilIface]) ∧ MemOk w0 ((204, .cells b [.pointer (some ⟨b, 0, none⟩), v'] 52 (0, 0)) :: (205, .row v' 5 1 (m ++ l).length ((m ++ l).map b8)) :: L) w' :=
  (writeString_spec b p v m l hp hm w ((hw.dup h5).dup (id := 204) ((dup_sub h5 _ _ h4)))).mono fun e w' h => h
end Go.Fw
end
section
open Go.RowKit
set_option maxRecDepth 100000
set_option linter.unusedVariables false
set_option linter.unusedSimpArgs false
namespace Go.Fw
open Go.Proofs
def stB (b : Bool) : LoopState := match b with | true => .ready | false => .done
def peB (b : Bool) : Option Code := match b with | true => none | false => some (.exit 0)
def selfP (b i : Nat) : Value := match i with | 0 => .pointer none | _ + 1 => .pointer (some ⟨b, 0, none⟩)
theorem selfP_or (b i : Nat) : selfP b i = .pointer none ∨ selfP b i = .pointer (some ⟨b, 0, none⟩) := by cases i <;> simp [selfP]
theorem selfP_pos (b : Nat) {i : Nat} (h : 0 < i) : selfP b i = .pointer (some ⟨b, 0, none⟩) := by cases i <;> simp_all [selfP]
theorem bytesN_spec (s : List UInt8) (hs : s.length ≤ 1048576) (n : Int) (w : World) (hG : Gl 1 (Pl.K.map u32) w) :
    Calls Tryd.prog 19 #[.agg [str s].toArray, .int .i64 n] w fun e w' => e = .returned (.tuple #[str (Pl.kbS s n), .agg [str (Pl.kbR s n)].toArray]) ∧ Below w.heap.size w w' := by
  
  refine enterM (vs := [_, _]) Tryd.func19 rfl 37 rfl [(901, .ro (gv 1 64) 1 64 (Pl.K.map u32))] (MemOk.start1 901 hG) ?_
  refine JI.seq ?_
  refine JI.region ?_
  refine JI.x (JO.box 1 rfl rfl) rfl ?_
  intro i0_0
  refine JI.x (JO.box 2 rfl rfl) rfl ?_
  intro i0_1
  refine JI.v (JV.assign rfl) rfl ?_
  refine JI.x (JO.alloc 3 (zs := [str []]) Tryd.zeroValue33 rfl) rfl ?_
  intro i0_3
  refine JI.nil ?_
  refine JI.n_then ?_
  refine JI.seq ?_
  refine JI.seq ?_
  refine JI.region ?_
  refine JI.v (JV.load1 2 rfl rfl Tryd.isAgg3 (rfl)) rfl ?_
  by_cases hs1_1 : n ≤ 0
  · refine JI.v (JV.tt (JV.leq rfl rfl) hs1_1) rfl ?_
    refine JI.v (JV.move rfl) rfl ?_
    refine JI.g0 rfl rfl rfl rfl ?_
    refine JI.g0 rfl rfl rfl rfl ?_
    refine JI.v (JV.pickT rfl rfl) rfl ?_
    refine JI.nil ?_
    refine JI.n_then ?_
    refine JI.condT rfl ?_
    refine JI.seq ?_
    refine JI.any [_, _, _] [fun _ => [], fun _ => [], _] [⟨[1], [], [], []⟩, ⟨[], [], [], []⟩, ⟨[], [3], [], [0, 1]⟩] Tryd.mixed rfl (by kernel_rfl) ⟨Ob.v rfl (fun _ _ h => by cases h) (fun _ _ _ => rfl) (fun e L' hL => JV.loadV 1 rfl ((hL 1 (by decide)).trans rfl) Tryd.isAgg33 Tryd.sizeOf33 rfl),
            Ob.v rfl (fun _ _ h => by cases h) (fun _ _ _ => rfl) (fun e L' hL => JV.assign rfl),
            Ob.s 3 rfl (fun _ _ h => by cases h) (fun _ _ _ => rfl) (fun e L' hL => JO.storeV 3 rfl ((hL 3 (by decide)).trans rfl) rfl (us := [str s]) rfl Tryd.sizeOf33 rfl rfl), trivial⟩ (fun ev2 => ?_)
    simp only [endF, endL, putF, List.nil_append, List.cons_append]
    refine JI.n_then ?_
    refine JI.ret ?_
    refine JI.r_then ?_
    refine JI.ends ?_
    refine JQ.doneTC 3 Tryd.results19 rfl rfl rfl Tryd.isAgg33 Tryd.sizeOf33 rfl ?_
    exact fun w hw => ⟨by rw [show Pl.kbS s n = [] from if_pos (by omega), show Pl.kbR s n = s from if_pos (by omega)]; rfl, hw.below⟩
  · refine JI.v (JV.ff (JV.leq rfl rfl) hs1_1) rfl ?_
    refine JI.v (JV.move rfl) rfl ?_
    refine JI.vg rfl rfl (JV.load1 2 rfl rfl Tryd.isAgg3 (rfl)) rfl ?_
    by_cases hs1_4 : 8000 < n
    · refine JI.vg rfl rfl (JV.tt (JV.gtr rfl rfl) hs1_4) rfl ?_
      refine JI.v (JV.pickF rfl rfl) rfl ?_
      refine JI.nil ?_
      refine JI.n_then ?_
      refine JI.condT rfl ?_
      refine JI.seq ?_
      refine JI.any [_, _, _] [fun _ => [], fun _ => [], _] [⟨[1], [], [], []⟩, ⟨[], [], [], []⟩, ⟨[], [3], [], [0, 1]⟩] Tryd.mixed rfl (by kernel_rfl) ⟨Ob.v rfl (fun _ _ h => by cases h) (fun _ _ _ => rfl) (fun e L' hL => JV.loadV 1 rfl ((hL 1 (by decide)).trans rfl) Tryd.isAgg33 Tryd.sizeOf33 rfl),
                Ob.v rfl (fun _ _ h => by cases h) (fun _ _ _ => rfl) (fun e L' hL => JV.assign rfl),
                Ob.s 3 rfl (fun _ _ h => by cases h) (fun _ _ _ => rfl) (fun e L' hL => JO.storeV 3 rfl ((hL 3 (by decide)).trans rfl) rfl (us := [str s]) rfl Tryd.sizeOf33 rfl rfl), trivial⟩ (fun ev2 => ?_)
      simp only [endF, endL, putF, List.nil_append, List.cons_append]
      refine JI.n_then ?_
      refine JI.ret ?_
      refine JI.r_then ?_
      refine JI.ends ?_
      refine JQ.doneTC 3 Tryd.results19 rfl rfl rfl Tryd.isAgg33 Tryd.sizeOf33 rfl ?_
      exact fun w hw => ⟨by rw [show Pl.kbS s n = [] from if_pos (by omega), show Pl.kbR s n = s from if_pos (by omega)]; rfl, hw.below⟩
    · refine JI.vg rfl rfl (JV.ff (JV.gtr rfl rfl) hs1_4) rfl ?_
      refine JI.v (JV.pickF rfl rfl) rfl ?_
      refine JI.nil ?_
      refine JI.n_then ?_
      refine JI.condF rfl ?_
      refine JI.skip ?_
      refine JI.n_then ?_
      refine JI.seq ?_
      obtain ⟨m, rfl⟩ : ∃ m : Nat, n = (m : Int) := ⟨n.toNat, by omega⟩
      have hm0 : 0 < m := by omega
      have hm8 : m ≤ 8000 := by omega
      refine JI.region ?_
      refine JI.x (JO.alloc 204 (zs := [.pointer none, .slice none 0 0]) Tryd.zeroValue52 rfl) rfl ?_
      intro i3_0
      refine JI.nil ?_
      refine JI.n_then ?_
      refine JI.seq ?_
      refine JI.region ?_
      refine JI.v (JV.loadV 1 rfl rfl Tryd.isAgg33 Tryd.sizeOf33 rfl) rfl ?_
      refine JI.x (JO.alloc 5 (zs := [str []]) Tryd.zeroValue33 rfl) rfl ?_
      intro i4_1
      refine JI.s (JO.storeV 5 rfl rfl rfl (us := [str s]) rfl Tryd.sizeOf33 rfl rfl) ?_
      refine JI.nilRow 205 5 1 ?_
      refine JI.nil ?_
      refine JI.n_then ?_
      refine JI.seq ?_
      refine JI.seq ?_
      refine JI.region ?_
      refine JI.v (JV.loadV 1 rfl rfl Tryd.isAgg33 Tryd.sizeOf33 rfl) rfl ?_
      refine JI.v (JV.mkFunc (evs_cons rfl evs_nil) evs_nil) rfl ?_
      refine JI.nil ?_
      refine JI.n_then ?_
      refine JI.block ?_
      refine JI.range 207 208 rfl Tryd.call27 (ι := Value) (fun vb => [(2, .cells i0_1 [.int .i64 (m : Int)] 3 (0, 0)), (3, .cells i0_3 [str []] 33 (0, 0)), (204, .cells i3_0 [.pointer (some ⟨i3_0, 0, none⟩), vb] 52 (0, 0)), (5, .cells i4_1 [str (Pl.seedN s (Pl.steps m))] 33 (0, 0)), (205, .row vb 5 1 (Pl.outT s m (Pl.steps m)).length ((Pl.outT s m (Pl.steps m)).map b8)), (901, .ro (gv 1 64) 1 64 (Pl.K.map u32))]) (fun _ => .done) (fun _ => some (.exit 0)) (fun _ h => by cases h) ?_ ?_ ?_
      · intro fn l D T rc hrc hT hFT w1 hw1
        refine enterM (vs := [.agg [str s].toArray, yv l]) Tryd.func27 rfl 18 rfl _ hw1 ?_
        refine JI.seq ?_
        refine JI.region ?_
        refine JI.x (JO.box 11 rfl rfl) rfl ?_
        intro i0_0
        refine JI.nil ?_
        refine JI.n_then ?_
        refine JI.seq ?_
        refine JI.region ?_
        refine JI.v (JV.assign rfl) rfl ?_
        refine JI.nil ?_
        refine JI.n_then ?_
        refine JI.block ?_
        refine JI.loopI (ι := Nat × Value × Bool) (fun i => [(1, yv l), (2, .pointer (some ⟨i0_0, 0, none⟩)), (4, .bool i.2.2)]) (fun i => [(207, .obj l (.loop (rc (stB i.2.2) (peB i.2.2)))), (208, .obj D (.deferred (some []))), (11, .cells i0_0 [str (Pl.seedN s i.1)] 33 (0, 0)), (2, .cells i0_1 [.int .i64 (m : Int)] 3 (0, 0)), (3, .cells i0_3 [str []] 33 (0, 0)), (204, .cells i3_0 [selfP i3_0 i.1, i.2.1] 52 (0, 0)), (5, .cells i4_1 [str (Pl.seedN s (i.1))] 33 (0, 0)), (205, .row i.2.1 5 1 (Pl.outT s m (i.1)).length ((Pl.outT s m (i.1)).map b8)), (901, .ro (gv 1 64) 1 64 (Pl.K.map u32))]) (fun i => i.2.2 = decide (32 * i.1 < m) ∧ i.1 ≤ Pl.steps m) (fun i => Pl.steps m - i.1) (0, .slice none 0 0, true) ⟨(by rw [eq_comm, decide_eq_true_eq]; omega), Nat.zero_le _⟩ (subk_cons rfl (subk_cons rfl (subk_cons rfl subk_nil))) (subr_cons rfl (subr_cons rfl (subr_cons rfl (subr_cons rfl (subr_cons rfl (subr_cons rfl (subr_cons rfl (subr_cons (by show lr _ 205 = some (.row (.slice none 0 0) 5 1 (Pl.outT s m 0).length ((Pl.outT s m 0).map b8)); rw [Pl.outT_zero]; rfl) (subr_cons rfl subr_nil))))))))) ?_
        rintro ⟨i, vb, more⟩ ⟨hmo, hi⟩
        dsimp only at hmo hi
        show JI _ _ _ [(1, yv l), (2, .pointer (some ⟨i0_0, 0, none⟩)), (4, .bool more)] [(207, .obj l (.loop (rc (stB more) (peB more)))), (208, .obj D (.deferred (some []))), (11, .cells i0_0 [str (Pl.seedN s i)] 33 (0, 0)), (2, .cells i0_1 [.int .i64 (m : Int)] 3 (0, 0)), (3, .cells i0_3 [str []] 33 (0, 0)), (204, .cells i3_0 [selfP i3_0 i, vb] 52 (0, 0)), (5, .cells i4_1 [str (Pl.seedN s (i))] 33 (0, 0)), (205, .row vb 5 1 (Pl.outT s m (i)).length ((Pl.outT s m (i)).map b8)), (901, .ro (gv 1 64) 1 64 (Pl.K.map u32))] _
        refine JI.seq ?_
        refine JI.seq ?_
        refine JI.region ?_
        refine JI.v (JV.move rfl) rfl ?_
        refine JI.nil ?_
        refine JI.n_then ?_
        refine JI.cond rfl (fun h7 => ?_) (fun h7 => ?_)
        · subst h7
          have him : 32 * i < m := of_decide_eq_true hmo.symm
          refine JI.skip ?_
          refine JI.n_then ?_
          refine JI.block ?_
          refine JI.seq ?_
          refine JI.region ?_
          refine JI.v (JV.loadV 11 rfl rfl Tryd.isAgg33 Tryd.sizeOf33 rfl) rfl ?_
          refine JI.v (JV.callM Tryd.call17 (evs_cons rfl evs_nil) (fun w hw => next_spec (Pl.seedN s i) (Pl.seedN_len hs i) w (hw.reads (id := 901) rfl))) rfl ?_
          refine JI.v (JV.move rfl) rfl ?_
          refine JI.v (JV.extract rfl rfl) rfl ?_
          refine JI.v (JV.extract rfl rfl) rfl ?_
          refine JI.x (JO.alloc 12 (zs := [str []]) Tryd.zeroValue33 rfl) rfl ?_
          intro i3_5
          refine JI.v (JV.assign rfl) rfl ?_
          refine JI.s (JO.storeV 12 rfl rfl rfl (us := [str (Pl.seedN s (i + 1))]) rfl Tryd.sizeOf33 rfl rfl) ?_
          refine JI.nil ?_
          refine JI.n_then ?_
          refine JI.seq ?_
          refine JI.region ?_
          refine JI.v (JV.move rfl) rfl ?_
          refine JI.v (JV.move rfl) rfl ?_
          refine JI.v (JV.loadV 12 rfl rfl Tryd.isAgg33 Tryd.sizeOf33 rfl) rfl ?_
          refine JI.yield 207 hrc rfl (evs_cons rfl (evs_cons rfl evs_nil)) rfl rfl (ι := Value) (vr := fun _ => .bool (decide (32 * (i + 1) < m))) (L' := fun vb' => [(207, .obj l (.loop (rc (stB (decide (32 * (i + 1) < m))) (peB (decide (32 * (i + 1) < m)))))), (208, .obj D (.deferred (some []))), (11, .cells i0_0 [str (Pl.seedN s i)] 33 (0, 0)), (12, .cells i3_5 [str (Pl.seedN s (i + 1))] 33 (0, 0)), (2, .cells i0_1 [.int .i64 (m : Int)] 3 (0, 0)), (3, .cells i0_3 [str []] 33 (0, 0)), (204, .cells i3_0 [.pointer (some ⟨i3_0, 0, none⟩), vb'] 52 (0, 0)), (5, .cells i4_1 [str (Pl.seedN s (i + 1))] 33 (0, 0)), (205, .row vb' 5 1 (Pl.outT s m (i + 1)).length ((Pl.outT s m (i + 1)).map b8)), (901, .ro (gv 1 64) 1 64 (Pl.K.map u32))]) (fun w2 hw2 => ?_) rfl ?_
          · refine roundI (sz := 37) (by rw [zipT_size]; exact hT) (frOk_zip2 hFT (by rw [hT]; decide) (by rw [hT]; decide)) hw2 ?_
            refine JI.seq ?_
            refine JI.region ?_
            refine JI.v (JV.assign rfl) rfl ?_
            refine JI.nil ?_
            refine JI.n_then ?_
            refine JI.region ?_
            refine JI.x (JO.alloc 31 (zs := [str []]) Tryd.zeroValue33 rfl) rfl ?_
            intro i7_0
            refine JI.s (JO.storeV 31 rfl rfl rfl (us := [str (Pl.seedN s (i + 1))]) rfl Tryd.sizeOf33 rfl rfl) ?_
            refine JI.nil ?_
            refine JI.n_then ?_
            refine JI.begin 207 hrc rfl ?_
            refine JI.block ?_
            refine JI.seq ?_
            have hol := Pl.outT_len s m i
            have hvl := Pl.val_len (Pl.seedN s i)
            refine JI.any [_, _, _, _, _, _, _, _, _] [fun _ => [], fun _ => [], fun _ => [], fun _ => [], fun _ => [], fun _ => [], fun _ => [], fun _ => [], _] [⟨[], [], [], []⟩, ⟨[], [], [], []⟩, ⟨[], [], [], [1]⟩, ⟨[2], [], [], []⟩, ⟨[204, 205], [], [], []⟩, ⟨[], [], [], [3, 4]⟩, ⟨[], [], [], [1, 2, 3, 4, 5]⟩, ⟨[], [], [], [0, 1, 2, 3, 4, 5, 6]⟩, ⟨[], [204, 205], [], [0, 1, 2, 3, 4, 5, 6, 7]⟩] Tryd.mixed rfl (by kernel_rfl) ⟨Ob.v rfl (fun _ _ h => by cases h) (fun _ _ _ => rfl) (fun e L' hL => JV.move rfl),
                            Ob.v rfl (fun _ _ h => by cases h) (fun _ _ _ => rfl) (fun e L' hL => JV.move rfl),
                            Ob.v rfl (fun _ _ h => by cases h) (fun _ _ _ => rfl) (fun e L' hL => JV.lenStr (l := Pl.val (Pl.seedN s i)) rfl Tryd.runUnderlying9),
                            Ob.v rfl (fun _ _ h => by cases h) (fun _ _ _ => rfl) (fun e L' hL => JV.load1 2 rfl ((hL 2 (by decide)).trans rfl) Tryd.isAgg3 (rfl)),
                            Ob.v rfl (fun _ _ h => by cases h) (fun _ _ _ => rfl) (fun e L' hL => JV.callK Tryd.call29 (evs_cons rfl evs_nil) (fun w hw => len_at i3_0 _ _ (Pl.outT s m i) ((hL 204 (by decide)).trans rfl) ((hL 205 (by decide)).trans rfl) w hw)),
                            Ob.v rfl (fun _ _ h => by cases h) (fun _ _ _ => rfl) (fun e L' hL => JV.subN rfl rfl (by rw [Pl.outT_len]; omega)),
                            Ob.v rfl (fun _ _ h => by cases h) (fun _ _ _ => rfl) (fun e L' hL => JV.minN rfl rfl),
                            Ob.v rfl (fun _ _ h => by cases h) (fun _ _ _ => rfl) (fun e L' hL => JV.sliceStr rfl Tryd.runUnderlying9 rfl (bnd_some rfl) (by omega) (by rw [Pl.val_len]; omega)),
                            Ob.mem2 204 205 rfl (fun _ _ h => by cases h) (fun _ _ _ => ⟨rfl, rfl, rfl⟩) (by decide) (fun e L' hL => JO.callC Tryd.call28 (evs_cons rfl (evs_cons rfl evs_nil)) (fun w hw => writeString_at i3_0 (selfP i3_0 i) _ (Pl.outT s m i) _ (selfP_or _ _) (by simp only [List.length_take, List.length_drop]; omega) ((hL 204 (by decide)).trans rfl) ((hL 205 (by decide)).trans rfl) w hw)), trivial⟩ (fun ev8 => ?_)
            simp only [endF, endL, putF, List.nil_append, List.cons_append]
            rw [Pl.outT_succ' s him]
            refine JI.n_then ?_
            refine JI.seq ?_
            refine JI.region ?_
            refine JI.v (JV.loadV 31 rfl rfl Tryd.isAgg33 Tryd.sizeOf33 rfl) rfl ?_
            refine JI.s (JO.storeV 5 rfl rfl rfl (us := [str (Pl.seedN s (i + 1))]) rfl Tryd.sizeOf33 rfl rfl) ?_
            refine JI.nil ?_
            refine JI.n_then ?_
            refine JI.seq ?_
            refine JI.any [_, _, _] [fun _ => [], fun _ => [], fun _ => []] [⟨[204, 205], [], [], []⟩, ⟨[2], [], [], []⟩, ⟨[], [], [], [0, 1]⟩] Tryd.mixed rfl (by kernel_rfl) ⟨Ob.v rfl (fun _ _ h => by cases h) (fun _ _ _ => rfl) (fun e L' hL => JV.callK Tryd.call29 (evs_cons rfl evs_nil) (fun w hw => len_at i3_0 _ _ (Pl.outT s m (i + 1)) ((hL 204 (by decide)).trans rfl) ((hL 205 (by decide)).trans rfl) w hw)),
                            Ob.v rfl (fun _ _ h => by cases h) (fun _ _ _ => rfl) (fun e L' hL => JV.load1 2 rfl ((hL 2 (by decide)).trans rfl) Tryd.isAgg3 (rfl)),
                            Ob.v rfl (fun _ _ h => by cases h) (fun _ _ _ => rfl) (fun e L' hL => JV.eqlN rfl rfl), trivial⟩ (fun ev10 => ?_)
            simp only [endF, endL, putF, List.nil_append, List.cons_append]
            refine JI.n_then ?_
            refine JI.condP rfl (fun h34 => ?_) (fun h34 => ?_)
            · rw [Pl.outT_len] at h34
              refine JI.exit ?_
              refine JI.e_block rfl ?_
              refine JI.endE 207 hrc rfl (fun w3 hw3 => ⟨_, rfl, (ev8 8).2.2, ?_, hw3.sub ?_⟩)
              · rw [show decide (32 * (i + 1) < m) = false from by rw [decide_eq_false_iff_not]; omega]
              · rw [show decide (32 * (i + 1) < m) = false from by rw [decide_eq_false_iff_not]; omega]
                exact (subr_cons rfl (subr_cons rfl (subr_cons rfl (subr_cons rfl (subr_cons rfl (subr_cons rfl (subr_cons rfl (subr_cons rfl (subr_cons rfl (subr_cons rfl subr_nil))))))))))
            · rw [Pl.outT_len] at h34
              refine JI.skip ?_
              refine JI.n_block ?_
              refine JI.endN 207 hrc rfl (fun w3 hw3 => ⟨_, rfl, (ev8 8).2.2, ?_, hw3.sub ?_⟩)
              · rw [show decide (32 * (i + 1) < m) = true from by rw [decide_eq_true_eq]; omega]
              · rw [show decide (32 * (i + 1) < m) = true from by rw [decide_eq_true_eq]; omega]
                exact (subr_cons rfl (subr_cons rfl (subr_cons rfl (subr_cons rfl (subr_cons rfl (subr_cons rfl (subr_cons rfl (subr_cons rfl (subr_cons rfl (subr_cons rfl subr_nil))))))))))
          intro vb'
          refine JI.v (JV.assign rfl) rfl ?_
          refine JI.nil ?_
          refine JI.n_then ?_
          refine JI.region ?_
          refine JI.v (JV.loadV 12 rfl rfl Tryd.isAgg33 Tryd.sizeOf33 rfl) rfl ?_
          refine JI.s (JO.storeV 11 rfl rfl rfl (us := [str (Pl.seedN s (i + 1))]) rfl Tryd.sizeOf33 rfl rfl) ?_
          refine JI.nil ?_
          refine JI.n_block ?_
          refine JI.n_then ?_
          exact JI.nextI (i + 1, vb', decide (32 * (i + 1) < m)) ⟨rfl, by show i + 1 ≤ Pl.steps m; unfold Pl.steps; omega⟩ (by show Pl.steps m - (i + 1) < Pl.steps m - i; unfold Pl.steps; omega) (subk_cons rfl (subk_cons rfl (subk_cons rfl subk_nil))) (subr_cons rfl (subr_cons rfl (subr_cons rfl (subr_cons rfl (subr_cons rfl (subr_cons rfl (subr_cons rfl (subr_cons rfl (subr_cons rfl subr_nil)))))))))
        · subst h7
          have him : ¬ 32 * i < m := of_decide_eq_false hmo.symm
          have hst : i = Pl.steps m := by unfold Pl.steps at hi ⊢; omega
          subst hst
          refine JI.exit ?_
          refine JI.e_then ?_
          refine JI.e_then ?_
          refine JI.e_here ?_
          refine JI.to_ret ?_
          refine JI.ends ?_
          refine JQ.doneN Tryd.results27 ?_
          exact fun w hw => ⟨_, rfl, vb, hw.sub (subr_cons rfl (subr_cons rfl (subr_cons rfl (subr_cons rfl (subr_cons (by rw [show selfP i3_0 (Pl.steps m) = _ from selfP_pos _ (by unfold Pl.steps; omega)]; rfl) (subr_cons rfl (subr_cons rfl (subr_cons rfl subr_nil))))))))⟩
      · intro _ _ _ _ h; cases h
      · intro vb D l o c hc
        cases hc
        refine JI.exit ?_
        refine JI.e_here ?_
        refine JI.n_then ?_
        refine JI.seq ?_
        refine JI.any [_, _, _, _] [_, fun _ => [], fun _ => [], _] [⟨[204], [205], [], []⟩, ⟨[5], [], [], []⟩, ⟨[], [], [], [0]⟩, ⟨[], [3], [], [0, 1, 2]⟩] Tryd.mixed rfl (by kernel_rfl) ⟨Ob.u 205 rfl (fun _ _ h => by cases h) (fun _ _ _ => ⟨rfl, rfl⟩) (by decide) (fun e L' hL => JO.callC Tryd.call30 (evs_cons rfl evs_nil) (fun w hw => string_at i3_0 _ _ (Pl.outT s m (Pl.steps m)) (by rw [Pl.outT_len]; unfold Pl.steps; omega) ((hL 204 (by decide)).trans rfl) ((hL 205 (by decide)).trans rfl) w hw)),
                    Ob.v rfl (fun _ _ h => by cases h) (fun _ _ _ => rfl) (fun e L' hL => JV.loadV 5 rfl ((hL 5 (by decide)).trans rfl) Tryd.isAgg33 Tryd.sizeOf33 rfl),
                    Ob.v rfl (fun _ _ h => by cases h) (fun _ _ _ => rfl) (fun e L' hL => JV.assign rfl),
                    Ob.s 3 rfl (fun _ _ h => by cases h) (fun _ _ _ => rfl) (fun e L' hL => JO.storeV 3 rfl ((hL 3 (by decide)).trans rfl) rfl (us := [str (Pl.seedN s (Pl.steps m))]) rfl Tryd.sizeOf33 rfl rfl), trivial⟩ (fun ev11 => ?_)
        simp only [endF, endL, putF, List.nil_append, List.cons_append]
        refine JI.n_then ?_
        refine JI.ret ?_
        refine JI.endsM 208 rfl ?_
        refine JQ.doneTC 3 Tryd.results19 rfl rfl rfl Tryd.isAgg33 Tryd.sizeOf33 rfl ?_
        exact fun w hw => ⟨by rw [show Pl.kbS s (m : Int) = Pl.outT s m (Pl.steps m) from by unfold Pl.kbS; rw [if_neg (by omega)]; simp, show Pl.kbR s (m : Int) = Pl.seedN s (Pl.steps m) from by unfold Pl.kbR; rw [if_neg (by omega)]; simp], hw.below⟩
end Go.Fw
end
