/- What the functions that look keys up and follow lines compute, walked; the condition is that the tables read as they are laid. -/
import Derived.Test.YtbacjffnojaibaaDoorWka
import Derived.Test.YtbacjffnojaibaaDoorWkb
import Derived.Test.YtbacjffnojaibaaDoorFwb
import Derived.Test.YtbacjffnojaibaaDoorPla
import Derived.Test.YtbacjffnojaibaaDoorProg
import Derived.Test.YtbacjffnojaibaaDoorFwc
section
open Go.RowKit
set_option maxRecDepth 100000
set_option linter.unusedVariables false
set_option linter.unusedSimpArgs false
namespace Go.Fw
open Go.Proofs
theorem ro_nil : ∀ j s, lr [] j = some s → s.wr = false := fun _ _ h => by cases h
theorem ro_cons {L : ML} {i : Nat} {v : Value} {sz n : Nat} {xs : List Value} (h : ∀ j s, lr L j = some s → s.wr = false) : ∀ j s, lr ((i, .ro v sz n xs) :: L) j = some s → s.wr = false := by
  intro j s hj
  rw [lr_cons] at hj
  split at hj
  · cases hj; rfl
  · exact h j s hj
theorem derive_spec (k l : List UInt8) (hk : k.length ≤ 1048576) (hl : l.length ≤ 1048576) (v : Value) (ms : List (List UInt8)) (hms : Pl.few ms) (w : World) (hG : Gl 2 (Pl.K.map u32) w) (hr : Reads w v 1 ms.length (ms.map str)) :
    Calls Tryd.prog 59 #[str k, str l, v] w fun e w' => e = .returned (str (Pl.derive k l ms)) ∧ Below w.heap.size w w' := by
  
  refine enterA (vs := [_, _, _]) Tryd.func59 rfl 27 rfl [(902, .ro (gv 2 64) 1 64 (Pl.K.map u32)), (100, .ro v 1 ms.length (ms.map str))] ((MemOk.start1 100 hr).addRo 902 hG (ro_cons ro_nil)) ?_
  refine JQ.seq ?_
  refine JQ.region ?_
  refine JQ.v (JV.assign rfl) rfl ?_
  refine JQ.nil ?_
  refine JQ.n_then ?_
  refine JQ.seq ?_
  refine JQ.region ?_
  refine JQ.v (JV.move rfl) rfl ?_
  refine JQ.x (JO.callRow 1 Tryd.call70 (evs_cons rfl evs_nil) (fun w hw => bytes_spec l (by omega) w)) rfl ?_
  intro i1_1
  refine JQ.v (JV.assign rfl) rfl ?_
  refine JQ.nil ?_
  refine JQ.n_then ?_
  refine JQ.seq ?_
  refine JQ.seq ?_
  refine JQ.region ?_
  refine JQ.v (JV.move rfl) rfl ?_
  refine JQ.v (JV.lenRo 100 rfl rfl Tryd.runUnderlying116) rfl ?_
  refine JQ.v (JV.move rfl) rfl ?_
  refine JQ.nil ?_
  refine JQ.n_then ?_
  refine JQ.block ?_
  refine JQ.loopI (ι := Nat × Value) (fun i => [(0, str k), (7, i.2), (12, v), (13, .int .i64 ((ms.length : Nat) : Int)), (14, .int .i64 ((i.1 : Nat) : Int))]) (fun i => [(1, .row i.2 5 1 (Pl.kin l (ms.take i.1)).length ((Pl.kin l (ms.take i.1)).map b8)), (100, .ro v 1 ms.length (ms.map str)), (902, .ro (gv 2 64) 1 64 (Pl.K.map u32))]) (fun i => i.1 ≤ ms.length) (fun i => ms.length - i.1) (0, _) (Nat.zero_le _) (subk_cons rfl (subk_cons rfl (subk_cons rfl (subk_cons rfl (subk_cons rfl subk_nil))))) (subr_cons (by rw [show Pl.kin l (ms.take 0) = Pl.encB l from Pl.kin_nil l]; rfl) (subr_cons rfl (subr_cons rfl subr_nil))) ?_
  intro i hi
  have h1 := Pl.kin_few hl (hms.take i.1)
  have h2 := Pl.encB_few hms i.1
  have h3 := hms.1
  refine JQ.seq ?_
  refine JQ.region ?_
  refine JQ.v (JV.lssN rfl rfl) rfl ?_
  refine JQ.nil ?_
  refine JQ.n_then ?_
  refine JQ.seq ?_
  refine JQ.condP rfl (fun h15 => ?_) (fun h15 => ?_)
  · refine JQ.skip ?_
    refine JQ.n_then ?_
    refine JQ.seq ?_
    refine JQ.block ?_
    refine JQ.seq ?_
    refine JQ.region ?_
    refine JQ.v (JV.idxRo1 100 rfl rfl rfl Tryd.runUnderlying116 Tryd.sizeOf9 (by decide) (by omega)) rfl ?_
    refine JQ.v (JV.loadR 100 rfl rfl Tryd.isAgg9 (getS _ _ (by omega))) rfl ?_
    refine JQ.v (JV.assign rfl) rfl ?_
    refine JQ.nil ?_
    refine JQ.n_then ?_
    refine JQ.region ?_
    refine JQ.v (JV.move rfl) rfl ?_
    refine JQ.v (JV.move rfl) rfl ?_
    refine JQ.x (JO.callRow 2 Tryd.call70 (evs_cons rfl evs_nil) (fun w hw => bytes_spec _ (Nat.le_trans (hms.get i.1) (by decide)) w)) rfl ?_
    intro i5_2
    refine JQ.x (JO.append 1 elem5 rfl rfl rfl (fun w hw => Src.rd Tryd.underlying30 (hw.readsRow (id := 2) rfl)) (allB _) (by omega) (by omega)) rfl ?_
    intro i5_3
    rw [← List.map_append, ← List.length_append, ← Pl.kin_succ l ms i.1 (by omega)]
    refine JQ.v (JV.assign rfl) rfl ?_
    refine JQ.nil ?_
    refine JQ.n_block ?_
    refine JQ.n_then ?_
    refine JQ.region ?_
    refine JQ.v (JV.addN (b := 1) rfl rfl (by omega)) rfl ?_
    refine JQ.v (JV.move rfl) rfl ?_
    refine JQ.nil ?_
    refine JQ.n_then ?_
    exact JQ.nextI (i.1 + 1, i5_3) (by show i.1 + 1 ≤ ms.length; omega) (by show ms.length - (i.1 + 1) < ms.length - i.1; omega) (subk_cons rfl (subk_cons rfl (subk_cons rfl (subk_cons rfl (subk_cons rfl subk_nil))))) (subr_cons rfl (subr_cons rfl (subr_cons rfl subr_nil)))
  · refine JQ.exit ?_
    refine JQ.e_then ?_
    refine JQ.e_then ?_
    refine JQ.e_here ?_
    refine JQ.n_then ?_
    refine JQ.seq ?_
    rw [show i.1 = ms.length from by omega, List.take_of_length_le (Nat.le_refl _)]
    refine JQ.region ?_
    refine JQ.v (JV.move rfl) rfl ?_
    refine JQ.v (JV.move rfl) rfl ?_
    refine JQ.v (JV.bytesStrW 1 (l := Pl.kin l ms) Tryd.runUnderlying30 Tryd.runUnderlying5 Tryd.runUnderlying9 rfl rfl) rfl ?_
    refine JQ.v (JV.callM Tryd.call71 (evs_cons rfl (evs_cons rfl evs_nil)) (fun w hw => mac_spec k (Pl.kin l ms) (by omega) (by have := Pl.kin_few hl hms; omega) w (hw.reads (id := 902) rfl))) rfl ?_
    refine JQ.v (JV.assign rfl) rfl ?_
    refine JQ.nil ?_
    refine JQ.n_then ?_
    refine JQ.ret ?_
    refine JQ.done1 Tryd.results59 rfl ?_
    exact fun w hw => ⟨rfl, hw.below⟩

theorem rkin_spec (l : List UInt8) (hl : l.length ≤ 1048576) (v : Value) (ms : List (List UInt8)) (hms : Pl.few ms) (w : World) (hr : Reads w v 1 ms.length (ms.map str)) :
    Calls Tryd.prog 74 #[str l, v] w fun e w' => e = .returned (str (Pl.kin l ms)) ∧ Below w.heap.size w w' := by
  
  refine enterA (vs := [_, _]) Tryd.func74 rfl 26 rfl [(100, .ro v 1 ms.length (ms.map str))] (MemOk.start1 100 hr) ?_
  refine JQ.seq ?_
  refine JQ.region ?_
  refine JQ.v (JV.assign rfl) rfl ?_
  refine JQ.nil ?_
  refine JQ.n_then ?_
  refine JQ.seq ?_
  refine JQ.region ?_
  refine JQ.x (JO.buildSlice 1 (us := []) (e := 5) evp_nil (fun w => by kernel_rfl)) rfl ?_
  intro i1_0
  refine JQ.rowOf (n := 0) (esz := 1) 1 rfl rfl (by omega) ?_
  refine JQ.v (JV.move rfl) rfl ?_
  refine JQ.x (JO.callRow 2 Tryd.call84 (evs_cons rfl evs_nil) (fun w hw => rbytes_spec l (by omega) w)) rfl ?_
  intro i1_2
  refine JQ.x (JO.append 1 elem5 rfl rfl rfl (fun w hw => Src.rd Tryd.underlying30 (hw.readsRow (id := 2) rfl)) (allB _) (by have := Pl.encB_len l; have := Pl.nb_le l.length; omega) (by have := Pl.encB_len l; have := Pl.nb_le l.length; omega)) rfl ?_
  intro i1_3
  rw [List.nil_append, Nat.zero_add]
  refine JQ.v (JV.assign rfl) rfl ?_
  refine JQ.nil ?_
  refine JQ.n_then ?_
  refine JQ.seq ?_
  refine JQ.seq ?_
  refine JQ.region ?_
  refine JQ.v (JV.assign rfl) rfl ?_
  refine JQ.nil ?_
  refine JQ.n_then ?_
  refine JQ.block ?_
  refine JQ.loopI (ι := Nat × Value) (fun i => [(1, v), (5, i.2), (6, .int .i64 ((i.1 : Nat) : Int))]) (fun i => [(1, .row i.2 5 1 (Pl.kin l (ms.take i.1)).length ((Pl.kin l (ms.take i.1)).map b8)), (100, .ro v 1 ms.length (ms.map str))]) (fun i => i.1 ≤ ms.length) (fun i => ms.length - i.1) (0, _) (Nat.zero_le _) (subk_cons rfl (subk_cons rfl (subk_cons rfl subk_nil))) (subr_cons (by rw [show Pl.kin l (ms.take 0) = Pl.encB l from Pl.kin_nil l]; rfl) (subr_cons rfl subr_nil)) ?_
  intro i hi
  have h1 := Pl.kin_few hl (hms.take i.1)
  have h2 := Pl.encB_few hms i.1
  have h3 := hms.1
  refine JQ.seq ?_
  refine JQ.seq ?_
  refine JQ.region ?_
  refine JQ.v (JV.move rfl) rfl ?_
  refine JQ.v (JV.move rfl) rfl ?_
  refine JQ.v (JV.lenRo 100 rfl rfl Tryd.runUnderlying116) rfl ?_
  refine JQ.v (JV.lssN rfl rfl) rfl ?_
  refine JQ.nil ?_
  refine JQ.n_then ?_
  refine JQ.condP rfl (fun h14 => ?_) (fun h14 => ?_)
  · refine JQ.skip ?_
    refine JQ.n_then ?_
    refine JQ.seq ?_
    refine JQ.block ?_
    refine JQ.region ?_
    refine JQ.v (JV.move rfl) rfl ?_
    refine JQ.v (JV.move rfl) rfl ?_
    refine JQ.v (JV.move rfl) rfl ?_
    refine JQ.v (JV.idxRo1 100 rfl rfl rfl Tryd.runUnderlying116 Tryd.sizeOf9 (by decide) (by omega)) rfl ?_
    refine JQ.v (JV.loadR 100 rfl rfl Tryd.isAgg9 (getS _ _ (by omega))) rfl ?_
    refine JQ.x (JO.callRow 3 Tryd.call84 (evs_cons rfl evs_nil) (fun w hw => rbytes_spec _ (Nat.le_trans (hms.get i.1) (by decide)) w)) rfl ?_
    intro i5_5
    refine JQ.x (JO.append 1 elem5 rfl rfl rfl (fun w hw => Src.rd Tryd.underlying30 (hw.readsRow (id := 3) rfl)) (allB _) (by omega) (by omega)) rfl ?_
    intro i5_6
    rw [← List.map_append, ← List.length_append, ← Pl.kin_succ l ms i.1 (by omega)]
    refine JQ.v (JV.assign rfl) rfl ?_
    refine JQ.nil ?_
    refine JQ.n_block ?_
    refine JQ.n_then ?_
    refine JQ.region ?_
    refine JQ.v (JV.move rfl) rfl ?_
    refine JQ.v (JV.addN (b := 1) rfl rfl (by omega)) rfl ?_
    refine JQ.v (JV.assign rfl) rfl ?_
    refine JQ.nil ?_
    refine JQ.n_then ?_
    exact JQ.nextI (i.1 + 1, i5_6) (by show i.1 + 1 ≤ ms.length; omega) (by show ms.length - (i.1 + 1) < ms.length - i.1; omega) (subk_cons rfl (subk_cons rfl (subk_cons rfl subk_nil))) (subr_cons rfl (subr_cons rfl subr_nil))
  · refine JQ.exit ?_
    refine JQ.e_then ?_
    refine JQ.e_then ?_
    refine JQ.e_here ?_
    refine JQ.n_then ?_
    refine JQ.seq ?_
    rw [show i.1 = ms.length from by omega, List.take_of_length_le (Nat.le_refl _)]
    refine JQ.region ?_
    refine JQ.v (JV.move rfl) rfl ?_
    refine JQ.v (JV.bytesStrW 1 (l := Pl.kin l ms) Tryd.runUnderlying30 Tryd.runUnderlying5 Tryd.runUnderlying9 rfl rfl) rfl ?_
    refine JQ.v (JV.assign rfl) rfl ?_
    refine JQ.nil ?_
    refine JQ.n_then ?_
    refine JQ.ret ?_
    refine JQ.done1 Tryd.results74 rfl ?_
    exact fun w hw => ⟨rfl, hw.below⟩

theorem rderive_spec (k l : List UInt8) (hk : k.length ≤ 1048576) (hl : l.length ≤ 1048576) (v : Value) (ms : List (List UInt8)) (hms : Pl.few ms) (w : World) (hR : Gl 1 (Pl.K.map u32) w) (hr : Reads w v 1 ms.length (ms.map str)) :
    Calls Tryd.prog 66 #[str k, str l, v] w fun e w' => e = .returned (str (Pl.derive k l ms)) ∧ Below w.heap.size w w' := by
  
  refine enterA (vs := [_, _, _]) Tryd.func66 rfl 12 rfl [(901, .ro (gv 1 64) 1 64 (Pl.K.map u32)), (100, .ro v 1 ms.length (ms.map str))] ((MemOk.start1 100 hr).addRo 901 hR (ro_cons ro_nil)) ?_
  refine JQ.seq ?_
  refine JQ.region ?_
  refine JQ.v (JV.assign rfl) rfl ?_
  refine JQ.nil ?_
  refine JQ.n_then ?_
  refine JQ.seq ?_
  refine JQ.region ?_
  refine JQ.v (JV.move rfl) rfl ?_
  refine JQ.v (JV.move rfl) rfl ?_
  refine JQ.v (JV.move rfl) rfl ?_
  refine JQ.v (JV.callM Tryd.call74 (evs_cons rfl (evs_cons rfl evs_nil)) (fun w hw => rkin_spec l hl v ms hms w (hw.reads (id := 100) rfl))) rfl ?_
  refine JQ.v (JV.callM Tryd.call73 (evs_cons rfl (evs_cons rfl evs_nil)) (fun w hw => rmac_spec k (Pl.kin l ms) (by omega) (by have := Pl.kin_few hl hms; omega) w (hw.reads (id := 901) rfl))) rfl ?_
  refine JQ.v (JV.assign rfl) rfl ?_
  refine JQ.nil ?_
  refine JQ.n_then ?_
  refine JQ.ret ?_
  refine JQ.done1 Tryd.results66 rfl ?_
  exact fun w hw => ⟨rfl, hw.below⟩
end Go.Fw
end
section
open Go.RowKit
set_option maxRecDepth 100000
set_option linter.unusedVariables false
set_option linter.unusedSimpArgs false
namespace Go.Fw
open Go.Proofs
theorem next_spec (s : List UInt8) (hs : s.length ≤ 1048576) (w : World) (hG : Gl 2 (Pl.K.map u32) w) :
    Calls Tryd.prog 35 #[.agg [str s].toArray] w fun e w' => e = .returned (.tuple #[str (Pl.val s), .agg [str (Pl.seed s)].toArray]) ∧ Below w.heap.size w w' := by
  
  refine enterA (vs := [_]) Tryd.func35 rfl 11 rfl [(902, .ro (gv 2 64) 1 64 (Pl.K.map u32))] (MemOk.start1 902 hG) ?_
  refine JQ.seq ?_
  refine JQ.region ?_
  refine JQ.x (JO.box 1 rfl rfl) rfl ?_
  intro i0_0
  refine JQ.v (JV.assign rfl) rfl ?_
  refine JQ.x (JO.alloc 2 (zs := [str []]) Tryd.zeroValue39 rfl) rfl ?_
  intro i0_2
  refine JQ.nil ?_
  refine JQ.n_then ?_
  refine JQ.seq ?_
  refine JQ.any [_, _, _, _, _, _, _, _, _] [fun _ => [], fun _ => [], fun _ => [], fun _ => [], fun _ => [], fun _ => [], fun _ => [], fun _ => [], _] [⟨[], [], [], []⟩, ⟨[1], [], [], [0]⟩, ⟨[902], [], [], [0, 1]⟩, ⟨[], [], [], []⟩, ⟨[1], [], [], [3]⟩, ⟨[902], [], [], [0, 1, 2, 3, 4]⟩, ⟨[], [], [], [0, 1, 2, 3, 4, 5]⟩, ⟨[], [], [], [0, 1, 2, 3, 4, 5]⟩, ⟨[], [2], [], [0, 1, 2, 3, 4, 5, 6, 7]⟩] Tryd.mixed rfl (by kernel_rfl) ⟨Ob.v rfl (fun _ _ h => by cases h) (fun _ _ _ => rfl) (fun e L' hL => JV.fieldAddrK (o := 0) rfl Tryd.runUnderlying39 rfl Tryd.sizeOf9 rfl rfl),
        Ob.v rfl (fun _ _ h => by cases h) (fun _ _ _ => rfl) (fun e L' hL => JV.load1 1 rfl ((hL 1 (by decide)).trans rfl) Tryd.isAgg9 (rfl)),
        Ob.v rfl (fun _ _ h => by cases h) (fun _ _ _ => rfl) (fun e L' hL => JV.callM Tryd.call59 (evs_cons rfl (evs_cons rfl (evs_cons rfl evs_nil))) (fun w hw => derive_spec s Pl.lvalue hs (by decide) _ [] Pl.few_nil w (hw.reads (id := 902) ((hL 902 (by decide)).trans rfl)) (reads_nil w _ _ rfl rfl))),
        Ob.v rfl (fun _ _ h => by cases h) (fun _ _ _ => rfl) (fun e L' hL => JV.fieldAddrK (o := 0) rfl Tryd.runUnderlying39 rfl Tryd.sizeOf9 rfl rfl),
        Ob.v rfl (fun _ _ h => by cases h) (fun _ _ _ => rfl) (fun e L' hL => JV.load1 1 rfl ((hL 1 (by decide)).trans rfl) Tryd.isAgg9 (rfl)),
        Ob.v rfl (fun _ _ h => by cases h) (fun _ _ _ => rfl) (fun e L' hL => JV.callM Tryd.call59 (evs_cons rfl (evs_cons rfl (evs_cons rfl evs_nil))) (fun w hw => derive_spec s Pl.lseed hs (by decide) _ [] Pl.few_nil w (hw.reads (id := 902) ((hL 902 (by decide)).trans rfl)) (reads_nil w _ _ rfl rfl))),
        Ob.v rfl (fun _ _ h => by cases h) (fun _ _ _ => rfl) (fun e L' hL => JV.build (v := .agg [str (Pl.seed s)].toArray) (evp_cons rfl evp_nil) (fun w => by kernel_rfl)),
        Ob.v rfl (fun _ _ h => by cases h) (fun _ _ _ => rfl) (fun e L' hL => JV.assign rfl),
        Ob.s 2 rfl (fun _ _ h => by cases h) (fun _ _ _ => rfl) (fun e L' hL => JO.storeV 2 rfl ((hL 2 (by decide)).trans rfl) rfl (us := [str (Pl.seed s)]) rfl Tryd.sizeOf39 rfl rfl), trivial⟩ (fun ev1 => ?_)
  simp only [endF, endL, putF, List.nil_append, List.cons_append]
  refine JQ.n_then ?_
  refine JQ.ret ?_
  refine JQ.doneTC 2 Tryd.results35 rfl rfl rfl Tryd.isAgg39 Tryd.sizeOf39 rfl ?_
  exact fun w hw => ⟨rfl, hw.below⟩

theorem rnext_spec (s : List UInt8) (hs : s.length ≤ 1048576) (w : World) (hR : Gl 1 (Pl.K.map u32) w) :
    Calls Tryd.prog 44 #[.agg [str s].toArray] w fun e w' => e = .returned (.tuple #[str (Pl.val s), .agg [str (Pl.seed s)].toArray]) ∧ Below w.heap.size w w' := by
  
  refine enterA (vs := [_]) Tryd.func44 rfl 11 rfl [(901, .ro (gv 1 64) 1 64 (Pl.K.map u32))] (MemOk.start1 901 hR) ?_
  refine JQ.seq ?_
  refine JQ.region ?_
  refine JQ.x (JO.box 1 rfl rfl) rfl ?_
  intro i0_0
  refine JQ.v (JV.assign rfl) rfl ?_
  refine JQ.x (JO.alloc 2 (zs := [str []]) Tryd.zeroValue55 rfl) rfl ?_
  intro i0_2
  refine JQ.nil ?_
  refine JQ.n_then ?_
  refine JQ.seq ?_
  refine JQ.any [_, _, _, _, _, _, _, _, _] [fun _ => [], fun _ => [], fun _ => [], fun _ => [], fun _ => [], fun _ => [], fun _ => [], fun _ => [], _] [⟨[], [], [], []⟩, ⟨[1], [], [], [0]⟩, ⟨[901], [], [], [0, 1]⟩, ⟨[], [], [], []⟩, ⟨[1], [], [], [3]⟩, ⟨[901], [], [], [0, 1, 2, 3, 4]⟩, ⟨[], [], [], [0, 1, 2, 3, 4, 5]⟩, ⟨[], [], [], [0, 1, 2, 3, 4, 5]⟩, ⟨[], [2], [], [0, 1, 2, 3, 4, 5, 6, 7]⟩] Tryd.mixed rfl (by kernel_rfl) ⟨Ob.v rfl (fun _ _ h => by cases h) (fun _ _ _ => rfl) (fun e L' hL => JV.fieldAddrK (o := 0) rfl Tryd.runUnderlying55 rfl Tryd.sizeOf9 rfl rfl),
        Ob.v rfl (fun _ _ h => by cases h) (fun _ _ _ => rfl) (fun e L' hL => JV.load1 1 rfl ((hL 1 (by decide)).trans rfl) Tryd.isAgg9 (rfl)),
        Ob.v rfl (fun _ _ h => by cases h) (fun _ _ _ => rfl) (fun e L' hL => JV.callM Tryd.call66 (evs_cons rfl (evs_cons rfl (evs_cons rfl evs_nil))) (fun w hw => rderive_spec s Pl.lvalue hs (by decide) _ [] Pl.few_nil w (hw.reads (id := 901) ((hL 901 (by decide)).trans rfl)) (reads_nil w _ _ rfl rfl))),
        Ob.v rfl (fun _ _ h => by cases h) (fun _ _ _ => rfl) (fun e L' hL => JV.fieldAddrK (o := 0) rfl Tryd.runUnderlying55 rfl Tryd.sizeOf9 rfl rfl),
        Ob.v rfl (fun _ _ h => by cases h) (fun _ _ _ => rfl) (fun e L' hL => JV.load1 1 rfl ((hL 1 (by decide)).trans rfl) Tryd.isAgg9 (rfl)),
        Ob.v rfl (fun _ _ h => by cases h) (fun _ _ _ => rfl) (fun e L' hL => JV.callM Tryd.call66 (evs_cons rfl (evs_cons rfl (evs_cons rfl evs_nil))) (fun w hw => rderive_spec s Pl.lseed hs (by decide) _ [] Pl.few_nil w (hw.reads (id := 901) ((hL 901 (by decide)).trans rfl)) (reads_nil w _ _ rfl rfl))),
        Ob.v rfl (fun _ _ h => by cases h) (fun _ _ _ => rfl) (fun e L' hL => JV.build (v := .agg [str (Pl.seed s)].toArray) (evp_cons rfl evp_nil) (fun w => by kernel_rfl)),
        Ob.v rfl (fun _ _ h => by cases h) (fun _ _ _ => rfl) (fun e L' hL => JV.assign rfl),
        Ob.s 2 rfl (fun _ _ h => by cases h) (fun _ _ _ => rfl) (fun e L' hL => JO.storeV 2 rfl ((hL 2 (by decide)).trans rfl) rfl (us := [str (Pl.seed s)]) rfl Tryd.sizeOf55 rfl rfl), trivial⟩ (fun ev1 => ?_)
  simp only [endF, endL, putF, List.nil_append, List.cons_append]
  refine JQ.n_then ?_
  refine JQ.ret ?_
  refine JQ.doneTC 2 Tryd.results44 rfl rfl rfl Tryd.isAgg55 Tryd.sizeOf55 rfl ?_
  exact fun w hw => ⟨rfl, hw.below⟩
end Go.Fw
end
section
open Go.RowKit
set_option maxRecDepth 100000
set_option linter.unusedVariables false
set_option linter.unusedSimpArgs false
namespace Go.Fw
open Go.Proofs
/-- the cells of a key; of a type; of a rule -/
def kc (k : Pl.Key) : List Value := [iv k.id, iv k.ty, str k.value, iv k.uses, iv k.st, iv k.en, iv k.ver, iv k.par, .bool k.raw]
def tc (t : Pl.Typ) : List Value := [str t.name, iv t.flags, iv t.life]
def rcl (r : Pl.Rule) : List Value := [iv r.kind, iv r.a, iv r.b]
def vkG (k : Pl.Key) : Bool := Pl.within k.ty 0 31 && (decide (k.value.length = 32) && (decide (ib .andNot k.uses 956 = 0) && (Pl.within k.st 0 k.en && (Pl.within k.en 0 1099511627776 && (Pl.within k.ver 1 2147483647 && Pl.within k.par 0 2147483647)))))
def vkR (k : Pl.Key) : Bool := Pl.within k.ty 0 31 && (decide (k.value.length = 32) && (decide (ib .and k.uses 956 = k.uses) && (Pl.within k.st 0 1099511627776 && (Pl.within k.en k.st 1099511627776 && (Pl.within k.ver 1 2147483647 && Pl.within k.par 0 2147483647)))))
theorem within_pure (n a b : Int) :
    Pure Tryd.prog 72 #[iv n, iv a, iv b] (.bool (Pl.within n a b)) := by
  intro w
  refine enterA (vs := [_, _, _]) Tryd.func72 rfl 15 rfl [] (MemOk.start w) ?_
  refine JQ.seq ?_
  refine JQ.region ?_
  refine JQ.v (JV.assign rfl) rfl ?_
  refine JQ.nil ?_
  refine JQ.n_then ?_
  refine JQ.seq ?_
  refine JQ.region ?_
  refine JQ.v (JV.move rfl) rfl ?_
  refine JQ.v (JV.move rfl) rfl ?_
  refine JQ.v (JV.leq rfl rfl) rfl ?_
  refine JQ.vb (JV.move rfl) rfl (fun g1_3 => ?_) (fun g1_3 => ?_)
  · refine JQ.vg rfl rfl (JV.move rfl) rfl ?_
    refine JQ.vg rfl rfl (JV.move rfl) rfl ?_
    refine JQ.vg rfl rfl (JV.leq rfl rfl) rfl ?_
    refine JQ.v (JV.pickT rfl rfl) rfl ?_
    refine JQ.v (JV.assign rfl) rfl ?_
    refine JQ.nil ?_
    refine JQ.n_then ?_
    refine JQ.ret ?_
    refine JQ.done1 Tryd.results72 rfl ?_
    exact fun w hw => ⟨by simp [Pl.within, g1_3], hw.below⟩
  · refine JQ.g0 rfl rfl rfl rfl ?_
    refine JQ.g0 rfl rfl rfl rfl ?_
    refine JQ.g0 rfl rfl rfl rfl ?_
    refine JQ.v (JV.pickF rfl rfl) rfl ?_
    refine JQ.v (JV.assign rfl) rfl ?_
    refine JQ.nil ?_
    refine JQ.n_then ?_
    refine JQ.ret ?_
    refine JQ.done1 Tryd.results72 rfl ?_
    exact fun w hw => ⟨by simp [Pl.within, g1_3], hw.below⟩

theorem rwithin_pure (n a b : Int) :
    Pure Tryd.prog 52 #[iv n, iv a, iv b] (.bool (Pl.within n a b)) := by
  intro w
  refine enterA (vs := [_, _, _]) Tryd.func52 rfl 15 rfl [] (MemOk.start w) ?_
  refine JQ.seq ?_
  refine JQ.region ?_
  refine JQ.v (JV.assign rfl) rfl ?_
  refine JQ.nil ?_
  refine JQ.n_then ?_
  refine JQ.seq ?_
  refine JQ.region ?_
  refine JQ.v (JV.move rfl) rfl ?_
  refine JQ.v (JV.move rfl) rfl ?_
  refine JQ.v (JV.geq rfl rfl) rfl ?_
  refine JQ.vb (JV.move rfl) rfl (fun g1_3 => ?_) (fun g1_3 => ?_)
  · refine JQ.vg rfl rfl (JV.move rfl) rfl ?_
    refine JQ.vg rfl rfl (JV.move rfl) rfl ?_
    refine JQ.vg rfl rfl (JV.leq rfl rfl) rfl ?_
    refine JQ.v (JV.pickT rfl rfl) rfl ?_
    refine JQ.v (JV.assign rfl) rfl ?_
    refine JQ.nil ?_
    refine JQ.n_then ?_
    refine JQ.ret ?_
    refine JQ.done1 Tryd.results52 rfl ?_
    exact fun w hw => ⟨by simp [Pl.within, g1_3], hw.below⟩
  · refine JQ.g0 rfl rfl rfl rfl ?_
    refine JQ.g0 rfl rfl rfl rfl ?_
    refine JQ.g0 rfl rfl rfl rfl ?_
    refine JQ.v (JV.pickF rfl rfl) rfl ?_
    refine JQ.v (JV.assign rfl) rfl ?_
    refine JQ.nil ?_
    refine JQ.n_then ?_
    refine JQ.ret ?_
    refine JQ.done1 Tryd.results52 rfl ?_
    exact fun w hw => ⟨by simp [Pl.within, g1_3], hw.below⟩

theorem live_pure (k : Pl.Key) (n : Int) :
    Pure Tryd.prog 40 #[.agg (kc k).toArray, iv n] (.bool (Pl.live k n)) := by
  intro w
  refine enterA (vs := [_, _]) Tryd.func40 rfl 15 rfl [] (MemOk.start w) ?_
  refine JQ.seq ?_
  refine JQ.region ?_
  refine JQ.x (JO.box 1 rfl rfl) rfl ?_
  intro i0_0
  refine JQ.v (JV.assign rfl) rfl ?_
  refine JQ.nil ?_
  refine JQ.n_then ?_
  refine JQ.seq ?_
  refine JQ.region ?_
  refine JQ.v (JV.fieldAddrK (o := 4) rfl Tryd.runUnderlying34 rfl Tryd.sizeOf3 rfl rfl) rfl ?_
  refine JQ.v (JV.load1 1 rfl rfl Tryd.isAgg3 (rfl)) rfl ?_
  refine JQ.v (JV.move rfl) rfl ?_
  refine JQ.v (JV.leq rfl rfl) rfl ?_
  refine JQ.vb (JV.move rfl) rfl (fun g1_4 => ?_) (fun g1_4 => ?_)
  · refine JQ.vg rfl rfl (JV.move rfl) rfl ?_
    refine JQ.vg rfl rfl (JV.fieldAddrK (o := 5) rfl Tryd.runUnderlying34 rfl Tryd.sizeOf3 rfl rfl) rfl ?_
    refine JQ.vg rfl rfl (JV.load1 1 rfl rfl Tryd.isAgg3 (rfl)) rfl ?_
    refine JQ.vg rfl rfl (JV.lss rfl rfl) rfl ?_
    refine JQ.v (JV.pickT rfl rfl) rfl ?_
    refine JQ.v (JV.assign rfl) rfl ?_
    refine JQ.nil ?_
    refine JQ.n_then ?_
    refine JQ.ret ?_
    refine JQ.done1 Tryd.results40 rfl ?_
    exact fun w hw => ⟨by simp [Pl.live, g1_4], hw.below⟩
  · refine JQ.g0 rfl rfl rfl rfl ?_
    refine JQ.g0 rfl rfl rfl rfl ?_
    refine JQ.g0 rfl rfl rfl rfl ?_
    refine JQ.g0 rfl rfl rfl rfl ?_
    refine JQ.v (JV.pickF rfl rfl) rfl ?_
    refine JQ.v (JV.assign rfl) rfl ?_
    refine JQ.nil ?_
    refine JQ.n_then ?_
    refine JQ.ret ?_
    refine JQ.done1 Tryd.results40 rfl ?_
    exact fun w hw => ⟨by simp [Pl.live, g1_4], hw.below⟩

theorem rlive_pure (k : Pl.Key) (n : Int) :
    Pure Tryd.prog 50 #[.agg (kc k).toArray, iv n] (.bool (Pl.live k n)) := by
  intro w
  refine enterA (vs := [_, _]) Tryd.func50 rfl 15 rfl [] (MemOk.start w) ?_
  refine JQ.seq ?_
  refine JQ.region ?_
  refine JQ.x (JO.box 1 rfl rfl) rfl ?_
  intro i0_0
  refine JQ.v (JV.assign rfl) rfl ?_
  refine JQ.nil ?_
  refine JQ.n_then ?_
  refine JQ.seq ?_
  refine JQ.region ?_
  refine JQ.v (JV.move rfl) rfl ?_
  refine JQ.v (JV.fieldAddrK (o := 4) rfl Tryd.runUnderlying34 rfl Tryd.sizeOf3 rfl rfl) rfl ?_
  refine JQ.v (JV.load1 1 rfl rfl Tryd.isAgg3 (rfl)) rfl ?_
  refine JQ.v (JV.geq rfl rfl) rfl ?_
  refine JQ.vb (JV.move rfl) rfl (fun g1_4 => ?_) (fun g1_4 => ?_)
  · refine JQ.vg rfl rfl (JV.move rfl) rfl ?_
    refine JQ.vg rfl rfl (JV.fieldAddrK (o := 5) rfl Tryd.runUnderlying34 rfl Tryd.sizeOf3 rfl rfl) rfl ?_
    refine JQ.vg rfl rfl (JV.load1 1 rfl rfl Tryd.isAgg3 (rfl)) rfl ?_
    refine JQ.vg rfl rfl (JV.lss rfl rfl) rfl ?_
    refine JQ.v (JV.pickT rfl rfl) rfl ?_
    refine JQ.v (JV.assign rfl) rfl ?_
    refine JQ.nil ?_
    refine JQ.n_then ?_
    refine JQ.ret ?_
    refine JQ.done1 Tryd.results50 rfl ?_
    exact fun w hw => ⟨by simp [Pl.live, g1_4], hw.below⟩
  · refine JQ.g0 rfl rfl rfl rfl ?_
    refine JQ.g0 rfl rfl rfl rfl ?_
    refine JQ.g0 rfl rfl rfl rfl ?_
    refine JQ.g0 rfl rfl rfl rfl ?_
    refine JQ.v (JV.pickF rfl rfl) rfl ?_
    refine JQ.v (JV.assign rfl) rfl ?_
    refine JQ.nil ?_
    refine JQ.n_then ?_
    refine JQ.ret ?_
    refine JQ.done1 Tryd.results50 rfl ?_
    exact fun w hw => ⟨by simp [Pl.live, g1_4], hw.below⟩

theorem subset_pure (a b : Int) :
    Pure Tryd.prog 57 #[iv a, iv b] (.bool (decide (ib .andNot a b = 0))) := by
  intro w
  refine enterA (vs := [_, _]) Tryd.func57 rfl 9 rfl [] (MemOk.start w) ?_
  refine JQ.seq ?_
  refine JQ.region ?_
  refine JQ.v (JV.assign rfl) rfl ?_
  refine JQ.nil ?_
  refine JQ.n_then ?_
  refine JQ.seq ?_
  refine JQ.region ?_
  refine JQ.v (JV.move rfl) rfl ?_
  refine JQ.v (JV.move rfl) rfl ?_
  refine JQ.v (JV.bitI (by decide) rfl rfl) rfl ?_
  refine JQ.v (JV.eqlI rfl rfl) rfl ?_
  refine JQ.v (JV.assign rfl) rfl ?_
  refine JQ.nil ?_
  refine JQ.n_then ?_
  refine JQ.ret ?_
  refine JQ.done1 Tryd.results57 rfl ?_
  exact fun w hw => ⟨rfl, hw.below⟩

theorem rsubset_pure (a b : Int) :
    Pure Tryd.prog 16 #[iv a, iv b] (.bool (decide (ib .and a b = a))) := by
  intro w
  refine enterA (vs := [_, _]) Tryd.func16 rfl 10 rfl [] (MemOk.start w) ?_
  refine JQ.seq ?_
  refine JQ.region ?_
  refine JQ.v (JV.assign rfl) rfl ?_
  refine JQ.nil ?_
  refine JQ.n_then ?_
  refine JQ.seq ?_
  refine JQ.region ?_
  refine JQ.v (JV.move rfl) rfl ?_
  refine JQ.v (JV.move rfl) rfl ?_
  refine JQ.v (JV.bitI (by decide) rfl rfl) rfl ?_
  refine JQ.v (JV.move rfl) rfl ?_
  refine JQ.v (JV.eqlI rfl rfl) rfl ?_
  refine JQ.v (JV.assign rfl) rfl ?_
  refine JQ.nil ?_
  refine JQ.n_then ?_
  refine JQ.ret ?_
  refine JQ.done1 Tryd.results16 rfl ?_
  exact fun w hw => ⟨rfl, hw.below⟩

theorem valid_pure (k : Pl.Key) :
    Pure Tryd.prog 60 #[.agg (kc k).toArray] (.bool (vkG k)) := by
  intro w
  refine enterA (vs := [_]) Tryd.func60 rfl 40 rfl [] (MemOk.start w) ?_
  refine JQ.seq ?_
  refine JQ.region ?_
  refine JQ.x (JO.box 1 rfl rfl) rfl ?_
  intro i0_0
  refine JQ.v (JV.assign rfl) rfl ?_
  refine JQ.nil ?_
  refine JQ.n_then ?_
  refine JQ.seq ?_
  refine JQ.region ?_
  refine JQ.v (JV.fieldAddrK (o := 1) rfl Tryd.runUnderlying34 rfl Tryd.sizeOf3 rfl rfl) rfl ?_
  refine JQ.v (JV.load1 1 rfl rfl Tryd.isAgg3 (rfl)) rfl ?_
  refine JQ.v (JV.call Tryd.call72 (evs_cons rfl (evs_cons rfl (evs_cons rfl evs_nil))) (within_pure _ _ _)) rfl ?_
  refine JQ.vb (JV.move rfl) rfl (fun g1_3 => ?_) (fun g1_3 => ?_)
  · refine JQ.vg rfl rfl (JV.fieldAddrK (o := 2) rfl Tryd.runUnderlying34 rfl Tryd.sizeOf9 rfl rfl) rfl ?_
    refine JQ.vg rfl rfl (JV.load1 1 rfl rfl Tryd.isAgg9 (rfl)) rfl ?_
    refine JQ.vg rfl rfl (JV.lenStr rfl Tryd.runUnderlying9) rfl ?_
    refine JQ.vg rfl rfl (JV.eqlN (b := 32) rfl rfl) rfl ?_
    refine JQ.v (JV.pickT rfl rfl) rfl ?_
    refine JQ.vb (JV.move rfl) rfl (fun g1_9 => ?_) (fun g1_9 => ?_)
    · refine JQ.vg rfl rfl (JV.fieldAddrK (o := 3) rfl Tryd.runUnderlying34 rfl Tryd.sizeOf3 rfl rfl) rfl ?_
      refine JQ.vg rfl rfl (JV.load1 1 rfl rfl Tryd.isAgg3 (rfl)) rfl ?_
      refine JQ.vg rfl rfl (JV.bitI (by decide) rfl rfl) rfl ?_
      refine JQ.vg rfl rfl (JV.eqlI rfl rfl) rfl ?_
      refine JQ.v (JV.pickT rfl rfl) rfl ?_
      refine JQ.vb (JV.move rfl) rfl (fun g1_15 => ?_) (fun g1_15 => ?_)
      · refine JQ.vg rfl rfl (JV.fieldAddrK (o := 4) rfl Tryd.runUnderlying34 rfl Tryd.sizeOf3 rfl rfl) rfl ?_
        refine JQ.vg rfl rfl (JV.load1 1 rfl rfl Tryd.isAgg3 (rfl)) rfl ?_
        refine JQ.vg rfl rfl (JV.fieldAddrK (o := 5) rfl Tryd.runUnderlying34 rfl Tryd.sizeOf3 rfl rfl) rfl ?_
        refine JQ.vg rfl rfl (JV.load1 1 rfl rfl Tryd.isAgg3 (rfl)) rfl ?_
        refine JQ.vg rfl rfl (JV.call Tryd.call72 (evs_cons rfl (evs_cons rfl (evs_cons rfl evs_nil))) (within_pure _ _ _)) rfl ?_
        refine JQ.v (JV.pickT rfl rfl) rfl ?_
        refine JQ.vb (JV.move rfl) rfl (fun g1_22 => ?_) (fun g1_22 => ?_)
        · refine JQ.vg rfl rfl (JV.fieldAddrK (o := 5) rfl Tryd.runUnderlying34 rfl Tryd.sizeOf3 rfl rfl) rfl ?_
          refine JQ.vg rfl rfl (JV.load1 1 rfl rfl Tryd.isAgg3 (rfl)) rfl ?_
          refine JQ.vg rfl rfl (JV.call Tryd.call72 (evs_cons rfl (evs_cons rfl (evs_cons rfl evs_nil))) (within_pure _ _ _)) rfl ?_
          refine JQ.v (JV.pickT rfl rfl) rfl ?_
          refine JQ.vb (JV.move rfl) rfl (fun g1_27 => ?_) (fun g1_27 => ?_)
          · refine JQ.vg rfl rfl (JV.fieldAddrK (o := 6) rfl Tryd.runUnderlying34 rfl Tryd.sizeOf3 rfl rfl) rfl ?_
            refine JQ.vg rfl rfl (JV.load1 1 rfl rfl Tryd.isAgg3 (rfl)) rfl ?_
            refine JQ.vg rfl rfl (JV.call Tryd.call72 (evs_cons rfl (evs_cons rfl (evs_cons rfl evs_nil))) (within_pure _ _ _)) rfl ?_
            refine JQ.v (JV.pickT rfl rfl) rfl ?_
            refine JQ.vb (JV.move rfl) rfl (fun g1_32 => ?_) (fun g1_32 => ?_)
            · refine JQ.vg rfl rfl (JV.fieldAddrK (o := 7) rfl Tryd.runUnderlying34 rfl Tryd.sizeOf3 rfl rfl) rfl ?_
              refine JQ.vg rfl rfl (JV.load1 1 rfl rfl Tryd.isAgg3 (rfl)) rfl ?_
              refine JQ.vg rfl rfl (JV.call Tryd.call72 (evs_cons rfl (evs_cons rfl (evs_cons rfl evs_nil))) (within_pure _ _ _)) rfl ?_
              refine JQ.v (JV.pickT rfl rfl) rfl ?_
              refine JQ.v (JV.assign rfl) rfl ?_
              refine JQ.nil ?_
              refine JQ.n_then ?_
              refine JQ.ret ?_
              refine JQ.done1 Tryd.results60 rfl ?_
              exact fun w hw => ⟨by simp [vkG, g1_3, g1_9, g1_15, g1_22, g1_27, g1_32], hw.below⟩
            · refine JQ.g0 rfl rfl rfl rfl ?_
              refine JQ.g0 rfl rfl rfl rfl ?_
              refine JQ.g0 rfl rfl rfl rfl ?_
              refine JQ.v (JV.pickF rfl rfl) rfl ?_
              refine JQ.v (JV.assign rfl) rfl ?_
              refine JQ.nil ?_
              refine JQ.n_then ?_
              refine JQ.ret ?_
              refine JQ.done1 Tryd.results60 rfl ?_
              exact fun w hw => ⟨by simp [vkG, g1_3, g1_9, g1_15, g1_22, g1_27, g1_32], hw.below⟩
          · refine JQ.g0 rfl rfl rfl rfl ?_
            refine JQ.g0 rfl rfl rfl rfl ?_
            refine JQ.g0 rfl rfl rfl rfl ?_
            refine JQ.v (JV.pickF rfl rfl) rfl ?_
            refine JQ.v (JV.move rfl) rfl ?_
            refine JQ.g0 rfl rfl rfl rfl ?_
            refine JQ.g0 rfl rfl rfl rfl ?_
            refine JQ.g0 rfl rfl rfl rfl ?_
            refine JQ.v (JV.pickF rfl rfl) rfl ?_
            refine JQ.v (JV.assign rfl) rfl ?_
            refine JQ.nil ?_
            refine JQ.n_then ?_
            refine JQ.ret ?_
            refine JQ.done1 Tryd.results60 rfl ?_
            exact fun w hw => ⟨by simp [vkG, g1_3, g1_9, g1_15, g1_22, g1_27], hw.below⟩
        · refine JQ.g0 rfl rfl rfl rfl ?_
          refine JQ.g0 rfl rfl rfl rfl ?_
          refine JQ.g0 rfl rfl rfl rfl ?_
          refine JQ.v (JV.pickF rfl rfl) rfl ?_
          refine JQ.v (JV.move rfl) rfl ?_
          refine JQ.g0 rfl rfl rfl rfl ?_
          refine JQ.g0 rfl rfl rfl rfl ?_
          refine JQ.g0 rfl rfl rfl rfl ?_
          refine JQ.v (JV.pickF rfl rfl) rfl ?_
          refine JQ.v (JV.move rfl) rfl ?_
          refine JQ.g0 rfl rfl rfl rfl ?_
          refine JQ.g0 rfl rfl rfl rfl ?_
          refine JQ.g0 rfl rfl rfl rfl ?_
          refine JQ.v (JV.pickF rfl rfl) rfl ?_
          refine JQ.v (JV.assign rfl) rfl ?_
          refine JQ.nil ?_
          refine JQ.n_then ?_
          refine JQ.ret ?_
          refine JQ.done1 Tryd.results60 rfl ?_
          exact fun w hw => ⟨by simp [vkG, g1_3, g1_9, g1_15, g1_22], hw.below⟩
      · refine JQ.g0 rfl rfl rfl rfl ?_
        refine JQ.g0 rfl rfl rfl rfl ?_
        refine JQ.g0 rfl rfl rfl rfl ?_
        refine JQ.g0 rfl rfl rfl rfl ?_
        refine JQ.g0 rfl rfl rfl rfl ?_
        refine JQ.v (JV.pickF rfl rfl) rfl ?_
        refine JQ.v (JV.move rfl) rfl ?_
        refine JQ.g0 rfl rfl rfl rfl ?_
        refine JQ.g0 rfl rfl rfl rfl ?_
        refine JQ.g0 rfl rfl rfl rfl ?_
        refine JQ.v (JV.pickF rfl rfl) rfl ?_
        refine JQ.v (JV.move rfl) rfl ?_
        refine JQ.g0 rfl rfl rfl rfl ?_
        refine JQ.g0 rfl rfl rfl rfl ?_
        refine JQ.g0 rfl rfl rfl rfl ?_
        refine JQ.v (JV.pickF rfl rfl) rfl ?_
        refine JQ.v (JV.move rfl) rfl ?_
        refine JQ.g0 rfl rfl rfl rfl ?_
        refine JQ.g0 rfl rfl rfl rfl ?_
        refine JQ.g0 rfl rfl rfl rfl ?_
        refine JQ.v (JV.pickF rfl rfl) rfl ?_
        refine JQ.v (JV.assign rfl) rfl ?_
        refine JQ.nil ?_
        refine JQ.n_then ?_
        refine JQ.ret ?_
        refine JQ.done1 Tryd.results60 rfl ?_
        exact fun w hw => ⟨by simp [vkG, g1_3, g1_9, g1_15], hw.below⟩
    · refine JQ.g0 rfl rfl rfl rfl ?_
      refine JQ.g0 rfl rfl rfl rfl ?_
      refine JQ.g0 rfl rfl rfl rfl ?_
      refine JQ.g0 rfl rfl rfl rfl ?_
      refine JQ.v (JV.pickF rfl rfl) rfl ?_
      refine JQ.v (JV.move rfl) rfl ?_
      refine JQ.g0 rfl rfl rfl rfl ?_
      refine JQ.g0 rfl rfl rfl rfl ?_
      refine JQ.g0 rfl rfl rfl rfl ?_
      refine JQ.g0 rfl rfl rfl rfl ?_
      refine JQ.g0 rfl rfl rfl rfl ?_
      refine JQ.v (JV.pickF rfl rfl) rfl ?_
      refine JQ.v (JV.move rfl) rfl ?_
      refine JQ.g0 rfl rfl rfl rfl ?_
      refine JQ.g0 rfl rfl rfl rfl ?_
      refine JQ.g0 rfl rfl rfl rfl ?_
      refine JQ.v (JV.pickF rfl rfl) rfl ?_
      refine JQ.v (JV.move rfl) rfl ?_
      refine JQ.g0 rfl rfl rfl rfl ?_
      refine JQ.g0 rfl rfl rfl rfl ?_
      refine JQ.g0 rfl rfl rfl rfl ?_
      refine JQ.v (JV.pickF rfl rfl) rfl ?_
      refine JQ.v (JV.move rfl) rfl ?_
      refine JQ.g0 rfl rfl rfl rfl ?_
      refine JQ.g0 rfl rfl rfl rfl ?_
      refine JQ.g0 rfl rfl rfl rfl ?_
      refine JQ.v (JV.pickF rfl rfl) rfl ?_
      refine JQ.v (JV.assign rfl) rfl ?_
      refine JQ.nil ?_
      refine JQ.n_then ?_
      refine JQ.ret ?_
      refine JQ.done1 Tryd.results60 rfl ?_
      exact fun w hw => ⟨by simp [vkG, g1_3, g1_9], hw.below⟩
  · refine JQ.g0 rfl rfl rfl rfl ?_
    refine JQ.g0 rfl rfl rfl rfl ?_
    refine JQ.g0 rfl rfl rfl rfl ?_
    refine JQ.g0 rfl rfl rfl rfl ?_
    refine JQ.v (JV.pickF rfl rfl) rfl ?_
    refine JQ.v (JV.move rfl) rfl ?_
    refine JQ.g0 rfl rfl rfl rfl ?_
    refine JQ.g0 rfl rfl rfl rfl ?_
    refine JQ.g0 rfl rfl rfl rfl ?_
    refine JQ.g0 rfl rfl rfl rfl ?_
    refine JQ.v (JV.pickF rfl rfl) rfl ?_
    refine JQ.v (JV.move rfl) rfl ?_
    refine JQ.g0 rfl rfl rfl rfl ?_
    refine JQ.g0 rfl rfl rfl rfl ?_
    refine JQ.g0 rfl rfl rfl rfl ?_
    refine JQ.g0 rfl rfl rfl rfl ?_
    refine JQ.g0 rfl rfl rfl rfl ?_
    refine JQ.v (JV.pickF rfl rfl) rfl ?_
    refine JQ.v (JV.move rfl) rfl ?_
    refine JQ.g0 rfl rfl rfl rfl ?_
    refine JQ.g0 rfl rfl rfl rfl ?_
    refine JQ.g0 rfl rfl rfl rfl ?_
    refine JQ.v (JV.pickF rfl rfl) rfl ?_
    refine JQ.v (JV.move rfl) rfl ?_
    refine JQ.g0 rfl rfl rfl rfl ?_
    refine JQ.g0 rfl rfl rfl rfl ?_
    refine JQ.g0 rfl rfl rfl rfl ?_
    refine JQ.v (JV.pickF rfl rfl) rfl ?_
    refine JQ.v (JV.move rfl) rfl ?_
    refine JQ.g0 rfl rfl rfl rfl ?_
    refine JQ.g0 rfl rfl rfl rfl ?_
    refine JQ.g0 rfl rfl rfl rfl ?_
    refine JQ.v (JV.pickF rfl rfl) rfl ?_
    refine JQ.v (JV.assign rfl) rfl ?_
    refine JQ.nil ?_
    refine JQ.n_then ?_
    refine JQ.ret ?_
    refine JQ.done1 Tryd.results60 rfl ?_
    exact fun w hw => ⟨by simp [vkG, g1_3], hw.below⟩

theorem rvalid_pure (k : Pl.Key) :
    Pure Tryd.prog 53 #[.agg (kc k).toArray] (.bool (vkR k)) := by
  intro w
  refine enterA (vs := [_]) Tryd.func53 rfl 42 rfl [] (MemOk.start w) ?_
  refine JQ.seq ?_
  refine JQ.region ?_
  refine JQ.x (JO.box 1 rfl rfl) rfl ?_
  intro i0_0
  refine JQ.v (JV.assign rfl) rfl ?_
  refine JQ.nil ?_
  refine JQ.n_then ?_
  refine JQ.seq ?_
  refine JQ.region ?_
  refine JQ.v (JV.fieldAddrK (o := 1) rfl Tryd.runUnderlying34 rfl Tryd.sizeOf3 rfl rfl) rfl ?_
  refine JQ.v (JV.load1 1 rfl rfl Tryd.isAgg3 (rfl)) rfl ?_
  refine JQ.v (JV.call Tryd.call52 (evs_cons rfl (evs_cons rfl (evs_cons rfl evs_nil))) (rwithin_pure _ _ _)) rfl ?_
  refine JQ.vb (JV.move rfl) rfl (fun g1_3 => ?_) (fun g1_3 => ?_)
  · refine JQ.vg rfl rfl (JV.fieldAddrK (o := 2) rfl Tryd.runUnderlying34 rfl Tryd.sizeOf9 rfl rfl) rfl ?_
    refine JQ.vg rfl rfl (JV.load1 1 rfl rfl Tryd.isAgg9 (rfl)) rfl ?_
    refine JQ.vg rfl rfl (JV.lenStr rfl Tryd.runUnderlying9) rfl ?_
    refine JQ.vg rfl rfl (JV.eqlN (b := 32) rfl rfl) rfl ?_
    refine JQ.v (JV.pickT rfl rfl) rfl ?_
    refine JQ.vb (JV.move rfl) rfl (fun g1_9 => ?_) (fun g1_9 => ?_)
    · refine JQ.vg rfl rfl (JV.fieldAddrK (o := 3) rfl Tryd.runUnderlying34 rfl Tryd.sizeOf3 rfl rfl) rfl ?_
      refine JQ.vg rfl rfl (JV.load1 1 rfl rfl Tryd.isAgg3 (rfl)) rfl ?_
      refine JQ.vg rfl rfl (JV.bitI (by decide) rfl rfl) rfl ?_
      refine JQ.vg rfl rfl (JV.fieldAddrK (o := 3) rfl Tryd.runUnderlying34 rfl Tryd.sizeOf3 rfl rfl) rfl ?_
      refine JQ.vg rfl rfl (JV.load1 1 rfl rfl Tryd.isAgg3 (rfl)) rfl ?_
      refine JQ.vg rfl rfl (JV.eqlI rfl rfl) rfl ?_
      refine JQ.v (JV.pickT rfl rfl) rfl ?_
      refine JQ.vb (JV.move rfl) rfl (fun g1_17 => ?_) (fun g1_17 => ?_)
      · refine JQ.vg rfl rfl (JV.fieldAddrK (o := 4) rfl Tryd.runUnderlying34 rfl Tryd.sizeOf3 rfl rfl) rfl ?_
        refine JQ.vg rfl rfl (JV.load1 1 rfl rfl Tryd.isAgg3 (rfl)) rfl ?_
        refine JQ.vg rfl rfl (JV.call Tryd.call52 (evs_cons rfl (evs_cons rfl (evs_cons rfl evs_nil))) (rwithin_pure _ _ _)) rfl ?_
        refine JQ.v (JV.pickT rfl rfl) rfl ?_
        refine JQ.vb (JV.move rfl) rfl (fun g1_22 => ?_) (fun g1_22 => ?_)
        · refine JQ.vg rfl rfl (JV.fieldAddrK (o := 5) rfl Tryd.runUnderlying34 rfl Tryd.sizeOf3 rfl rfl) rfl ?_
          refine JQ.vg rfl rfl (JV.load1 1 rfl rfl Tryd.isAgg3 (rfl)) rfl ?_
          refine JQ.vg rfl rfl (JV.fieldAddrK (o := 4) rfl Tryd.runUnderlying34 rfl Tryd.sizeOf3 rfl rfl) rfl ?_
          refine JQ.vg rfl rfl (JV.load1 1 rfl rfl Tryd.isAgg3 (rfl)) rfl ?_
          refine JQ.vg rfl rfl (JV.call Tryd.call52 (evs_cons rfl (evs_cons rfl (evs_cons rfl evs_nil))) (rwithin_pure _ _ _)) rfl ?_
          refine JQ.v (JV.pickT rfl rfl) rfl ?_
          refine JQ.vb (JV.move rfl) rfl (fun g1_29 => ?_) (fun g1_29 => ?_)
          · refine JQ.vg rfl rfl (JV.fieldAddrK (o := 6) rfl Tryd.runUnderlying34 rfl Tryd.sizeOf3 rfl rfl) rfl ?_
            refine JQ.vg rfl rfl (JV.load1 1 rfl rfl Tryd.isAgg3 (rfl)) rfl ?_
            refine JQ.vg rfl rfl (JV.call Tryd.call52 (evs_cons rfl (evs_cons rfl (evs_cons rfl evs_nil))) (rwithin_pure _ _ _)) rfl ?_
            refine JQ.v (JV.pickT rfl rfl) rfl ?_
            refine JQ.vb (JV.move rfl) rfl (fun g1_34 => ?_) (fun g1_34 => ?_)
            · refine JQ.vg rfl rfl (JV.fieldAddrK (o := 7) rfl Tryd.runUnderlying34 rfl Tryd.sizeOf3 rfl rfl) rfl ?_
              refine JQ.vg rfl rfl (JV.load1 1 rfl rfl Tryd.isAgg3 (rfl)) rfl ?_
              refine JQ.vg rfl rfl (JV.call Tryd.call52 (evs_cons rfl (evs_cons rfl (evs_cons rfl evs_nil))) (rwithin_pure _ _ _)) rfl ?_
              refine JQ.v (JV.pickT rfl rfl) rfl ?_
              refine JQ.v (JV.assign rfl) rfl ?_
              refine JQ.nil ?_
              refine JQ.n_then ?_
              refine JQ.ret ?_
              refine JQ.done1 Tryd.results53 rfl ?_
              exact fun w hw => ⟨by simp [vkR, g1_3, g1_9, g1_17, g1_22, g1_29, g1_34], hw.below⟩
            · refine JQ.g0 rfl rfl rfl rfl ?_
              refine JQ.g0 rfl rfl rfl rfl ?_
              refine JQ.g0 rfl rfl rfl rfl ?_
              refine JQ.v (JV.pickF rfl rfl) rfl ?_
              refine JQ.v (JV.assign rfl) rfl ?_
              refine JQ.nil ?_
              refine JQ.n_then ?_
              refine JQ.ret ?_
              refine JQ.done1 Tryd.results53 rfl ?_
              exact fun w hw => ⟨by simp [vkR, g1_3, g1_9, g1_17, g1_22, g1_29, g1_34], hw.below⟩
          · refine JQ.g0 rfl rfl rfl rfl ?_
            refine JQ.g0 rfl rfl rfl rfl ?_
            refine JQ.g0 rfl rfl rfl rfl ?_
            refine JQ.v (JV.pickF rfl rfl) rfl ?_
            refine JQ.v (JV.move rfl) rfl ?_
            refine JQ.g0 rfl rfl rfl rfl ?_
            refine JQ.g0 rfl rfl rfl rfl ?_
            refine JQ.g0 rfl rfl rfl rfl ?_
            refine JQ.v (JV.pickF rfl rfl) rfl ?_
            refine JQ.v (JV.assign rfl) rfl ?_
            refine JQ.nil ?_
            refine JQ.n_then ?_
            refine JQ.ret ?_
            refine JQ.done1 Tryd.results53 rfl ?_
            exact fun w hw => ⟨by simp [vkR, g1_3, g1_9, g1_17, g1_22, g1_29], hw.below⟩
        · refine JQ.g0 rfl rfl rfl rfl ?_
          refine JQ.g0 rfl rfl rfl rfl ?_
          refine JQ.g0 rfl rfl rfl rfl ?_
          refine JQ.g0 rfl rfl rfl rfl ?_
          refine JQ.g0 rfl rfl rfl rfl ?_
          refine JQ.v (JV.pickF rfl rfl) rfl ?_
          refine JQ.v (JV.move rfl) rfl ?_
          refine JQ.g0 rfl rfl rfl rfl ?_
          refine JQ.g0 rfl rfl rfl rfl ?_
          refine JQ.g0 rfl rfl rfl rfl ?_
          refine JQ.v (JV.pickF rfl rfl) rfl ?_
          refine JQ.v (JV.move rfl) rfl ?_
          refine JQ.g0 rfl rfl rfl rfl ?_
          refine JQ.g0 rfl rfl rfl rfl ?_
          refine JQ.g0 rfl rfl rfl rfl ?_
          refine JQ.v (JV.pickF rfl rfl) rfl ?_
          refine JQ.v (JV.assign rfl) rfl ?_
          refine JQ.nil ?_
          refine JQ.n_then ?_
          refine JQ.ret ?_
          refine JQ.done1 Tryd.results53 rfl ?_
          exact fun w hw => ⟨by simp [vkR, g1_3, g1_9, g1_17, g1_22], hw.below⟩
      · refine JQ.g0 rfl rfl rfl rfl ?_
        refine JQ.g0 rfl rfl rfl rfl ?_
        refine JQ.g0 rfl rfl rfl rfl ?_
        refine JQ.v (JV.pickF rfl rfl) rfl ?_
        refine JQ.v (JV.move rfl) rfl ?_
        refine JQ.g0 rfl rfl rfl rfl ?_
        refine JQ.g0 rfl rfl rfl rfl ?_
        refine JQ.g0 rfl rfl rfl rfl ?_
        refine JQ.g0 rfl rfl rfl rfl ?_
        refine JQ.g0 rfl rfl rfl rfl ?_
        refine JQ.v (JV.pickF rfl rfl) rfl ?_
        refine JQ.v (JV.move rfl) rfl ?_
        refine JQ.g0 rfl rfl rfl rfl ?_
        refine JQ.g0 rfl rfl rfl rfl ?_
        refine JQ.g0 rfl rfl rfl rfl ?_
        refine JQ.v (JV.pickF rfl rfl) rfl ?_
        refine JQ.v (JV.move rfl) rfl ?_
        refine JQ.g0 rfl rfl rfl rfl ?_
        refine JQ.g0 rfl rfl rfl rfl ?_
        refine JQ.g0 rfl rfl rfl rfl ?_
        refine JQ.v (JV.pickF rfl rfl) rfl ?_
        refine JQ.v (JV.assign rfl) rfl ?_
        refine JQ.nil ?_
        refine JQ.n_then ?_
        refine JQ.ret ?_
        refine JQ.done1 Tryd.results53 rfl ?_
        exact fun w hw => ⟨by simp [vkR, g1_3, g1_9, g1_17], hw.below⟩
    · refine JQ.g0 rfl rfl rfl rfl ?_
      refine JQ.g0 rfl rfl rfl rfl ?_
      refine JQ.g0 rfl rfl rfl rfl ?_
      refine JQ.g0 rfl rfl rfl rfl ?_
      refine JQ.g0 rfl rfl rfl rfl ?_
      refine JQ.g0 rfl rfl rfl rfl ?_
      refine JQ.v (JV.pickF rfl rfl) rfl ?_
      refine JQ.v (JV.move rfl) rfl ?_
      refine JQ.g0 rfl rfl rfl rfl ?_
      refine JQ.g0 rfl rfl rfl rfl ?_
      refine JQ.g0 rfl rfl rfl rfl ?_
      refine JQ.v (JV.pickF rfl rfl) rfl ?_
      refine JQ.v (JV.move rfl) rfl ?_
      refine JQ.g0 rfl rfl rfl rfl ?_
      refine JQ.g0 rfl rfl rfl rfl ?_
      refine JQ.g0 rfl rfl rfl rfl ?_
      refine JQ.g0 rfl rfl rfl rfl ?_
      refine JQ.g0 rfl rfl rfl rfl ?_
      refine JQ.v (JV.pickF rfl rfl) rfl ?_
      refine JQ.v (JV.move rfl) rfl ?_
      refine JQ.g0 rfl rfl rfl rfl ?_
      refine JQ.g0 rfl rfl rfl rfl ?_
      refine JQ.g0 rfl rfl rfl rfl ?_
      refine JQ.v (JV.pickF rfl rfl) rfl ?_
      refine JQ.v (JV.move rfl) rfl ?_
      refine JQ.g0 rfl rfl rfl rfl ?_
      refine JQ.g0 rfl rfl rfl rfl ?_
      refine JQ.g0 rfl rfl rfl rfl ?_
      refine JQ.v (JV.pickF rfl rfl) rfl ?_
      refine JQ.v (JV.assign rfl) rfl ?_
      refine JQ.nil ?_
      refine JQ.n_then ?_
      refine JQ.ret ?_
      refine JQ.done1 Tryd.results53 rfl ?_
      exact fun w hw => ⟨by simp [vkR, g1_3, g1_9], hw.below⟩
  · refine JQ.g0 rfl rfl rfl rfl ?_
    refine JQ.g0 rfl rfl rfl rfl ?_
    refine JQ.g0 rfl rfl rfl rfl ?_
    refine JQ.g0 rfl rfl rfl rfl ?_
    refine JQ.v (JV.pickF rfl rfl) rfl ?_
    refine JQ.v (JV.move rfl) rfl ?_
    refine JQ.g0 rfl rfl rfl rfl ?_
    refine JQ.g0 rfl rfl rfl rfl ?_
    refine JQ.g0 rfl rfl rfl rfl ?_
    refine JQ.g0 rfl rfl rfl rfl ?_
    refine JQ.g0 rfl rfl rfl rfl ?_
    refine JQ.g0 rfl rfl rfl rfl ?_
    refine JQ.v (JV.pickF rfl rfl) rfl ?_
    refine JQ.v (JV.move rfl) rfl ?_
    refine JQ.g0 rfl rfl rfl rfl ?_
    refine JQ.g0 rfl rfl rfl rfl ?_
    refine JQ.g0 rfl rfl rfl rfl ?_
    refine JQ.v (JV.pickF rfl rfl) rfl ?_
    refine JQ.v (JV.move rfl) rfl ?_
    refine JQ.g0 rfl rfl rfl rfl ?_
    refine JQ.g0 rfl rfl rfl rfl ?_
    refine JQ.g0 rfl rfl rfl rfl ?_
    refine JQ.g0 rfl rfl rfl rfl ?_
    refine JQ.g0 rfl rfl rfl rfl ?_
    refine JQ.v (JV.pickF rfl rfl) rfl ?_
    refine JQ.v (JV.move rfl) rfl ?_
    refine JQ.g0 rfl rfl rfl rfl ?_
    refine JQ.g0 rfl rfl rfl rfl ?_
    refine JQ.g0 rfl rfl rfl rfl ?_
    refine JQ.v (JV.pickF rfl rfl) rfl ?_
    refine JQ.v (JV.move rfl) rfl ?_
    refine JQ.g0 rfl rfl rfl rfl ?_
    refine JQ.g0 rfl rfl rfl rfl ?_
    refine JQ.g0 rfl rfl rfl rfl ?_
    refine JQ.v (JV.pickF rfl rfl) rfl ?_
    refine JQ.v (JV.assign rfl) rfl ?_
    refine JQ.nil ?_
    refine JQ.n_then ?_
    refine JQ.ret ?_
    refine JQ.done1 Tryd.results53 rfl ?_
    exact fun w hw => ⟨by simp [vkR, g1_3], hw.below⟩

theorem succ_pure (x k : Pl.Key) (hv : -9223372036854775808 ≤ k.ver ∧ k.ver ≤ 9223372036854775806) :
    Pure Tryd.prog 48 #[.agg (kc x).toArray, .agg (kc k).toArray] (.bool (Pl.succ x k)) := by
  intro w
  refine enterA (vs := [_, _]) Tryd.func48 rfl 32 rfl [] (MemOk.start w) ?_
  refine JQ.seq ?_
  refine JQ.region ?_
  refine JQ.x (JO.box 1 rfl rfl) rfl ?_
  intro i0_0
  refine JQ.x (JO.box 2 rfl rfl) rfl ?_
  intro i0_1
  refine JQ.v (JV.assign rfl) rfl ?_
  refine JQ.nil ?_
  refine JQ.n_then ?_
  refine JQ.seq ?_
  refine JQ.region ?_
  refine JQ.v (JV.fieldAddrK (o := 0) rfl Tryd.runUnderlying34 rfl Tryd.sizeOf3 rfl rfl) rfl ?_
  refine JQ.v (JV.load1 1 rfl rfl Tryd.isAgg3 (rfl)) rfl ?_
  refine JQ.v (JV.fieldAddrK (o := 0) rfl Tryd.runUnderlying34 rfl Tryd.sizeOf3 rfl rfl) rfl ?_
  refine JQ.v (JV.load1 2 rfl rfl Tryd.isAgg3 (rfl)) rfl ?_
  refine JQ.v (JV.gtr rfl rfl) rfl ?_
  refine JQ.vb (JV.move rfl) rfl (fun g1_5 => ?_) (fun g1_5 => ?_)
  · refine JQ.vg rfl rfl (JV.fieldAddrK (o := 1) rfl Tryd.runUnderlying34 rfl Tryd.sizeOf3 rfl rfl) rfl ?_
    refine JQ.vg rfl rfl (JV.load1 1 rfl rfl Tryd.isAgg3 (rfl)) rfl ?_
    refine JQ.vg rfl rfl (JV.fieldAddrK (o := 1) rfl Tryd.runUnderlying34 rfl Tryd.sizeOf3 rfl rfl) rfl ?_
    refine JQ.vg rfl rfl (JV.load1 2 rfl rfl Tryd.isAgg3 (rfl)) rfl ?_
    refine JQ.vg rfl rfl (JV.eqlI rfl rfl) rfl ?_
    refine JQ.v (JV.pickT rfl rfl) rfl ?_
    refine JQ.vb (JV.move rfl) rfl (fun g1_12 => ?_) (fun g1_12 => ?_)
    · refine JQ.vg rfl rfl (JV.fieldAddrK (o := 7) rfl Tryd.runUnderlying34 rfl Tryd.sizeOf3 rfl rfl) rfl ?_
      refine JQ.vg rfl rfl (JV.load1 1 rfl rfl Tryd.isAgg3 (rfl)) rfl ?_
      refine JQ.vg rfl rfl (JV.fieldAddrK (o := 0) rfl Tryd.runUnderlying34 rfl Tryd.sizeOf3 rfl rfl) rfl ?_
      refine JQ.vg rfl rfl (JV.load1 2 rfl rfl Tryd.isAgg3 (rfl)) rfl ?_
      refine JQ.vg rfl rfl (JV.eqlI rfl rfl) rfl ?_
      refine JQ.v (JV.pickT rfl rfl) rfl ?_
      refine JQ.vb (JV.move rfl) rfl (fun g1_19 => ?_) (fun g1_19 => ?_)
      · refine JQ.vg rfl rfl (JV.fieldAddrK (o := 6) rfl Tryd.runUnderlying34 rfl Tryd.sizeOf3 rfl rfl) rfl ?_
        refine JQ.vg rfl rfl (JV.load1 1 rfl rfl Tryd.isAgg3 (rfl)) rfl ?_
        refine JQ.vg rfl rfl (JV.fieldAddrK (o := 6) rfl Tryd.runUnderlying34 rfl Tryd.sizeOf3 rfl rfl) rfl ?_
        refine JQ.vg rfl rfl (JV.load1 2 rfl rfl Tryd.isAgg3 (rfl)) rfl ?_
        refine JQ.vg rfl rfl (JV.addI rfl rfl (by omega)) rfl ?_
        refine JQ.vg rfl rfl (JV.eqlI rfl rfl) rfl ?_
        refine JQ.v (JV.pickT rfl rfl) rfl ?_
        refine JQ.v (JV.assign rfl) rfl ?_
        refine JQ.nil ?_
        refine JQ.n_then ?_
        refine JQ.ret ?_
        refine JQ.done1 Tryd.results48 rfl ?_
        exact fun w hw => ⟨by simp [Pl.succ, g1_5, g1_12, g1_19], hw.below⟩
      · refine JQ.g0 rfl rfl rfl rfl ?_
        refine JQ.g0 rfl rfl rfl rfl ?_
        refine JQ.g0 rfl rfl rfl rfl ?_
        refine JQ.g0 rfl rfl rfl rfl ?_
        refine JQ.g0 rfl rfl rfl rfl ?_
        refine JQ.g0 rfl rfl rfl rfl ?_
        refine JQ.v (JV.pickF rfl rfl) rfl ?_
        refine JQ.v (JV.assign rfl) rfl ?_
        refine JQ.nil ?_
        refine JQ.n_then ?_
        refine JQ.ret ?_
        refine JQ.done1 Tryd.results48 rfl ?_
        exact fun w hw => ⟨by simp [Pl.succ, g1_5, g1_12, g1_19], hw.below⟩
    · refine JQ.g0 rfl rfl rfl rfl ?_
      refine JQ.g0 rfl rfl rfl rfl ?_
      refine JQ.g0 rfl rfl rfl rfl ?_
      refine JQ.g0 rfl rfl rfl rfl ?_
      refine JQ.g0 rfl rfl rfl rfl ?_
      refine JQ.v (JV.pickF rfl rfl) rfl ?_
      refine JQ.v (JV.move rfl) rfl ?_
      refine JQ.g0 rfl rfl rfl rfl ?_
      refine JQ.g0 rfl rfl rfl rfl ?_
      refine JQ.g0 rfl rfl rfl rfl ?_
      refine JQ.g0 rfl rfl rfl rfl ?_
      refine JQ.g0 rfl rfl rfl rfl ?_
      refine JQ.g0 rfl rfl rfl rfl ?_
      refine JQ.v (JV.pickF rfl rfl) rfl ?_
      refine JQ.v (JV.assign rfl) rfl ?_
      refine JQ.nil ?_
      refine JQ.n_then ?_
      refine JQ.ret ?_
      refine JQ.done1 Tryd.results48 rfl ?_
      exact fun w hw => ⟨by simp [Pl.succ, g1_5, g1_12], hw.below⟩
  · refine JQ.g0 rfl rfl rfl rfl ?_
    refine JQ.g0 rfl rfl rfl rfl ?_
    refine JQ.g0 rfl rfl rfl rfl ?_
    refine JQ.g0 rfl rfl rfl rfl ?_
    refine JQ.g0 rfl rfl rfl rfl ?_
    refine JQ.v (JV.pickF rfl rfl) rfl ?_
    refine JQ.v (JV.move rfl) rfl ?_
    refine JQ.g0 rfl rfl rfl rfl ?_
    refine JQ.g0 rfl rfl rfl rfl ?_
    refine JQ.g0 rfl rfl rfl rfl ?_
    refine JQ.g0 rfl rfl rfl rfl ?_
    refine JQ.g0 rfl rfl rfl rfl ?_
    refine JQ.v (JV.pickF rfl rfl) rfl ?_
    refine JQ.v (JV.move rfl) rfl ?_
    refine JQ.g0 rfl rfl rfl rfl ?_
    refine JQ.g0 rfl rfl rfl rfl ?_
    refine JQ.g0 rfl rfl rfl rfl ?_
    refine JQ.g0 rfl rfl rfl rfl ?_
    refine JQ.g0 rfl rfl rfl rfl ?_
    refine JQ.g0 rfl rfl rfl rfl ?_
    refine JQ.v (JV.pickF rfl rfl) rfl ?_
    refine JQ.v (JV.assign rfl) rfl ?_
    refine JQ.nil ?_
    refine JQ.n_then ?_
    refine JQ.ret ?_
    refine JQ.done1 Tryd.results48 rfl ?_
    exact fun w hw => ⟨by simp [Pl.succ, g1_5], hw.below⟩

theorem isnan_pure (a : Int) :
    Pure Tryd.prog 69 #[iv a] (.bool false) := by
  intro w
  refine enterA (vs := [_]) Tryd.func69 rfl 6 rfl [] (MemOk.start w) ?_
  refine JQ.seq ?_
  refine JQ.region ?_
  refine JQ.v (JV.assign rfl) rfl ?_
  refine JQ.nil ?_
  refine JQ.n_then ?_
  refine JQ.seq ?_
  refine JQ.region ?_
  refine JQ.v (JV.move rfl) rfl ?_
  refine JQ.v (JV.move rfl) rfl ?_
  refine JQ.v (JV.neqI rfl rfl) rfl ?_
  refine JQ.v (JV.assign rfl) rfl ?_
  refine JQ.nil ?_
  refine JQ.n_then ?_
  refine JQ.ret ?_
  refine JQ.done1 Tryd.results69 rfl ?_
  exact fun w hw => ⟨by simp, hw.below⟩

theorem cmp_pure (a b : Int) :
    Pure Tryd.prog 56 #[iv a, iv b] (iv (Pl.cmp a b)) := by
  intro w
  refine enterA (vs := [_, _]) Tryd.func56 rfl 20 rfl [] (MemOk.start w) ?_
  refine JQ.seq ?_
  refine JQ.region ?_
  refine JQ.v (JV.assign rfl) rfl ?_
  refine JQ.nil ?_
  refine JQ.n_then ?_
  refine JQ.seq ?_
  refine JQ.region ?_
  refine JQ.v (JV.move rfl) rfl ?_
  refine JQ.v (JV.call Tryd.call69 (evs_cons rfl evs_nil) (isnan_pure _)) rfl ?_
  refine JQ.v (JV.assign rfl) rfl ?_
  refine JQ.nil ?_
  refine JQ.n_then ?_
  refine JQ.seq ?_
  refine JQ.region ?_
  refine JQ.v (JV.move rfl) rfl ?_
  refine JQ.v (JV.call Tryd.call69 (evs_cons rfl evs_nil) (isnan_pure _)) rfl ?_
  refine JQ.v (JV.assign rfl) rfl ?_
  refine JQ.nil ?_
  refine JQ.n_then ?_
  refine JQ.seq ?_
  refine JQ.seq ?_
  refine JQ.region ?_
  refine JQ.v (JV.move rfl) rfl ?_
  refine JQ.nil ?_
  refine JQ.n_then ?_
  refine JQ.condF rfl ?_
  refine JQ.skip ?_
  refine JQ.n_then ?_
  refine JQ.seq ?_
  refine JQ.seq ?_
  refine JQ.region ?_
  refine JQ.v (JV.move rfl) rfl ?_
  refine JQ.nil ?_
  refine JQ.n_then ?_
  refine JQ.condF rfl ?_
  refine JQ.skip ?_
  refine JQ.n_then ?_
  refine JQ.seq ?_
  refine JQ.seq ?_
  refine JQ.region ?_
  refine JQ.v (JV.move rfl) rfl ?_
  refine JQ.v (JV.move rfl) rfl ?_
  refine JQ.v (JV.lss rfl rfl) rfl ?_
  refine JQ.nil ?_
  refine JQ.n_then ?_
  refine JQ.condP rfl (fun h16 => ?_) (fun h16 => ?_)
  · refine JQ.seq ?_
    refine JQ.region ?_
    refine JQ.v (JV.assign rfl) rfl ?_
    refine JQ.nil ?_
    refine JQ.n_then ?_
    refine JQ.ret ?_
    refine JQ.r_then ?_
    refine JQ.done1 Tryd.results56 rfl ?_
    exact fun w hw => ⟨by rw [Pl.cmp, if_pos h16], hw.below⟩
  · refine JQ.skip ?_
    refine JQ.n_then ?_
    refine JQ.seq ?_
    refine JQ.seq ?_
    refine JQ.region ?_
    refine JQ.v (JV.move rfl) rfl ?_
    refine JQ.v (JV.move rfl) rfl ?_
    refine JQ.v (JV.gtr rfl rfl) rfl ?_
    refine JQ.nil ?_
    refine JQ.n_then ?_
    refine JQ.condP rfl (fun h19 => ?_) (fun h19 => ?_)
    · refine JQ.seq ?_
      refine JQ.region ?_
      refine JQ.v (JV.assign rfl) rfl ?_
      refine JQ.nil ?_
      refine JQ.n_then ?_
      refine JQ.ret ?_
      refine JQ.r_then ?_
      refine JQ.done1 Tryd.results56 rfl ?_
      exact fun w hw => ⟨by rw [Pl.cmp, if_neg h16, if_pos h19], hw.below⟩
    · refine JQ.skip ?_
      refine JQ.n_then ?_
      refine JQ.seq ?_
      refine JQ.region ?_
      refine JQ.v (JV.assign rfl) rfl ?_
      refine JQ.nil ?_
      refine JQ.n_then ?_
      refine JQ.ret ?_
      refine JQ.done1 Tryd.results56 rfl ?_
      exact fun w hw => ⟨by rw [Pl.cmp, if_neg h16, if_neg h19], hw.below⟩

theorem cmpk_pure (k : Pl.Key) (b : Int) :
    Pure Tryd.prog 55 #[.agg (kc k).toArray, iv b] (iv (Pl.cmp k.id b)) := by
  intro w
  refine enterA (vs := [_, _]) Tryd.func55 rfl 9 rfl [] (MemOk.start w) ?_
  refine JQ.seq ?_
  refine JQ.region ?_
  refine JQ.x (JO.box 1 rfl rfl) rfl ?_
  intro i0_0
  refine JQ.v (JV.assign rfl) rfl ?_
  refine JQ.nil ?_
  refine JQ.n_then ?_
  refine JQ.seq ?_
  refine JQ.region ?_
  refine JQ.v (JV.fieldAddrK (o := 0) rfl Tryd.runUnderlying34 rfl Tryd.sizeOf3 rfl rfl) rfl ?_
  refine JQ.v (JV.load1 1 rfl rfl Tryd.isAgg3 (rfl)) rfl ?_
  refine JQ.v (JV.move rfl) rfl ?_
  refine JQ.v (JV.call Tryd.call56 (evs_cons rfl (evs_cons rfl evs_nil)) (cmp_pure _ _)) rfl ?_
  refine JQ.v (JV.assign rfl) rfl ?_
  refine JQ.nil ?_
  refine JQ.n_then ?_
  refine JQ.ret ?_
  refine JQ.done1 Tryd.results55 rfl ?_
  exact fun w hw => ⟨rfl, hw.below⟩
end Go.Fw
end
section
open Go.RowKit
set_option maxRecDepth 100000
set_option linter.unusedVariables false
set_option linter.unusedSimpArgs false
namespace Go.Fw
open Go.Proofs
def kcs (ks : List Pl.Key) : List Value := ks.flatMap kc
theorem kc_len (k : Pl.Key) : (kc k).length = 9 := rfl
theorem kcs_len (ks : List Pl.Key) : (kcs ks).length = ks.length * 9 := by
  induction ks with
  | nil => rfl
  | cons k ks ih => rw [kcs, List.flatMap_cons, List.length_append, kc_len, List.length_cons]; have : (List.flatMap kc ks).length = ks.length * 9 := ih; omega
theorem kcs_cons (k : Pl.Key) (ks : List Pl.Key) : kcs (k :: ks) = kc k ++ kcs ks := rfl
theorem kcs_drop : ∀ (ks : List Pl.Key) (i : Nat), (kcs ks).drop (i * 9) = kcs (ks.drop i)
  | [], i => by simp [kcs]
  | k :: ks, 0 => by simp
  | k :: ks, i + 1 => by
    rw [kcs_cons, List.drop_append, kc_len, show (i + 1) * 9 - 9 = i * 9 from by omega, List.drop_of_length_le (by rw [kc_len]; omega), List.nil_append, kcs_drop ks i, List.drop_succ_cons]
theorem kc_at (ks : List Pl.Key) {i : Nat} (h : i < ks.length) : ((kcs ks).drop (i * 9)).take 9 = kc (Pl.at_ ks i) := by
  rw [kcs_drop, List.drop_eq_getElem_cons h, kcs_cons, List.take_append_of_le_length (by rw [kc_len]; exact Nat.le_refl _), List.take_of_length_le (by rw [kc_len]; exact Nat.le_refl _), Pl.at_, List.getD_eq_getElem?_getD, List.getElem?_eq_getElem h]
  rfl
theorem kcs_get (ks : List Pl.Key) {i : Nat} (h : i < ks.length) {o : Nat} (ho : o < 9) : (kcs ks)[i * 9 + o]? = (kc (Pl.at_ ks i))[o]? := by
  rw [← kc_at ks h, List.getElem?_take_of_lt ho, List.getElem?_drop]
theorem kf0 (ks : List Pl.Key) {i : Nat} (h : i < ks.length) : (kcs ks)[i * 9 + 0]? = some (iv (Pl.at_ ks i).id) := kcs_get ks h (by decide)
theorem kf4 (ks : List Pl.Key) {i : Nat} (h : i < ks.length) : (kcs ks)[i * 9 + 4]? = some (iv (Pl.at_ ks i).st) := kcs_get ks h (by decide)
theorem kf5 (ks : List Pl.Key) {i : Nat} (h : i < ks.length) : (kcs ks)[i * 9 + 5]? = some (iv (Pl.at_ ks i).en) := kcs_get ks h (by decide)
def verOk (ks : List Pl.Key) : Prop := ∀ i, i < ks.length → 1 ≤ (Pl.at_ ks i).ver ∧ (Pl.at_ ks i).ver ≤ 2147483647
theorem ver_at {ks : List Pl.Key} (h : verOk ks) (i : Nat) : -9223372036854775808 ≤ (Pl.at_ ks i).ver ∧ (Pl.at_ ks i).ver ≤ 9223372036854775806 := by
  rcases Nat.lt_or_ge i ks.length with h2 | h2
  · have := h i h2; omega
  · rw [Pl.at_out h2]; decide
theorem lb_up {ks : List Pl.Key} (hs : Pl.incr ks) {id : Int} {h : Nat} (hl : h < ks.length) (hx : (Pl.at_ ks h).id < id) : h + 1 ≤ Pl.lb ks id := by
  rcases Nat.lt_or_ge h (Pl.lb ks id) with h2 | h2
  · exact h2
  · have := Pl.lb_from hs h2 hl; omega
theorem lb_dn {ks : List Pl.Key} {id : Int} {h : Nat} (hx : ¬ (Pl.at_ ks h).id < id) : Pl.lb ks id ≤ h := by
  rcases Nat.lt_or_ge h (Pl.lb ks id) with h2 | h2
  · exact absurd (Pl.lb_before h2) hx
  · exact h2
theorem find_no {ks : List Pl.Key} (hs : Pl.incr ks) {id : Int} (h : (!Pl.fnd ks id) = true) : ¬ Pl.ix ks id < ks.length := by
  rw [(Pl.fnd_has hs id).1] at h
  intro h2
  rw [Pl.has, decide_eq_true h2] at h; cases h
theorem find_yes {ks : List Pl.Key} (hs : Pl.incr ks) {id : Int} (h : (!Pl.fnd ks id) = false) : Pl.ix ks id < ks.length := by
  rw [(Pl.fnd_has hs id).1] at h
  refine of_decide_eq_true (p := Pl.ix ks id < ks.length) ?_
  show Pl.has ks id = true
  cases hh : Pl.has ks id <;> simp_all
theorem getE_ok {ks : List Pl.Key} {id : Int} (h : Pl.getE ks id = 0) : Pl.ix ks id < ks.length := by
  unfold Pl.getE at h; split at h
  · assumption
  · cases h
theorem at_ok {ks : List Pl.Key} {id : Int} (h : ¬ (if Pl.ix ks id < ks.length then (Pl.ix ks id : Int) else -1) < 0) : Pl.ix ks id < ks.length := by
  split at h
  · assumption
  · exact absurd (by decide) h
theorem at_no {ks : List Pl.Key} {id : Int} (h : (if Pl.ix ks id < ks.length then (Pl.ix ks id : Int) else -1) < 0) : ¬ Pl.ix ks id < ks.length := by
  split at h
  · omega
  · assumption
attribute [local irreducible] kcs Pl.ix Pl.lb Pl.getE Pl.fnd Pl.nextO Pl.at_
theorem at_spec (n : Int) (kv : Value) (ks : List Pl.Key) (hl : ks.length ≤ 4611686018427387904) (id : Int) (w : World) (hr : Reads w kv 9 ks.length (kcs ks)) :
    Calls Tryd.prog 65 #[.agg [iv n, kv].toArray, iv id] w fun e w' => e = .returned (iv (if Pl.ix ks id < ks.length then (Pl.ix ks id : Int) else -1)) ∧ Below w.heap.size w w' := by
  
  refine enterA (vs := [_, _]) Tryd.func65 rfl 22 rfl [(100, .ro kv 9 ks.length (kcs ks))] (MemOk.start1 100 hr) ?_
  refine JQ.seq ?_
  refine JQ.region ?_
  refine JQ.x (JO.box 1 rfl rfl) rfl ?_
  intro i0_0
  refine JQ.v (JV.assign rfl) rfl ?_
  refine JQ.nil ?_
  refine JQ.n_then ?_
  refine JQ.seq ?_
  refine JQ.seq ?_
  refine JQ.region ?_
  refine JQ.v (JV.assign rfl) rfl ?_
  refine JQ.nil ?_
  refine JQ.n_then ?_
  refine JQ.block ?_
  refine JQ.loopI (ι := Nat) (fun i => [(1, iv id), (2, .pointer (some ⟨i0_0, 0, none⟩)), (5, .int .i64 ((i : Nat) : Int))]) (fun i => [(1, .cells i0_0 [iv n, kv] 29 (0, 0)), (100, .ro kv 9 ks.length (kcs ks))]) (fun i => i ≤ ks.length ∧ ∀ j, j < i → (Pl.at_ ks j).id ≠ id) (fun i => ks.length - i) 0 ⟨Nat.zero_le _, fun j h => absurd h (Nat.not_lt_zero _)⟩ (subk_cons rfl (subk_cons rfl (subk_cons rfl subk_nil))) (subr_cons rfl (subr_cons rfl subr_nil)) ?_
  intro i hi
  have hi1 := hi.1
  refine JQ.seq ?_
  refine JQ.seq ?_
  refine JQ.region ?_
  refine JQ.v (JV.move rfl) rfl ?_
  refine JQ.v (JV.fieldAddrK (o := 1) rfl Tryd.runUnderlying29 rfl Tryd.sizeOf27 rfl rfl) rfl ?_
  refine JQ.v (JV.load1 1 rfl rfl Tryd.isAgg27 (rfl)) rfl ?_
  refine JQ.v (JV.lenRo 100 rfl rfl Tryd.runUnderlying27) rfl ?_
  refine JQ.v (JV.lssN rfl rfl) rfl ?_
  refine JQ.nil ?_
  refine JQ.n_then ?_
  refine JQ.condP rfl (fun h10 => ?_) (fun h10 => ?_)
  · refine JQ.skip ?_
    refine JQ.n_then ?_
    refine JQ.seq ?_
    refine JQ.block ?_
    refine JQ.seq ?_
    refine JQ.region ?_
    refine JQ.v (JV.fieldAddrK (o := 1) rfl Tryd.runUnderlying29 rfl Tryd.sizeOf27 rfl rfl) rfl ?_
    refine JQ.v (JV.load1 1 rfl rfl Tryd.isAgg27 (rfl)) rfl ?_
    refine JQ.v (JV.move rfl) rfl ?_
    refine JQ.v (JV.idxRo 100 rfl rfl rfl Tryd.runUnderlying27 Tryd.sizeOf34 (by decide) (by omega)) rfl ?_
    refine JQ.v (JV.fieldAddrRo 100 rfl rfl (by omega) (by decide) Tryd.runUnderlying34 rfl Tryd.sizeOf3 rfl) rfl ?_
    refine JQ.v (JV.loadR 100 rfl rfl Tryd.isAgg3 (kf0 ks (by omega))) rfl ?_
    refine JQ.v (JV.move rfl) rfl ?_
    by_cases hs4_7 : (Pl.at_ ks i).id = id
    · refine JQ.v (JV.tt (JV.eqlI rfl rfl) hs4_7) rfl ?_
      refine JQ.nil ?_
      refine JQ.n_then ?_
      refine JQ.condT rfl ?_
      refine JQ.seq ?_
      refine JQ.region ?_
      refine JQ.v (JV.move rfl) rfl ?_
      refine JQ.v (JV.assign rfl) rfl ?_
      refine JQ.nil ?_
      refine JQ.n_then ?_
      refine JQ.ret ?_
      refine JQ.r_block ?_
      refine JQ.r_then ?_
      refine JQ.r_then ?_
      refine JQ.r_block ?_
      refine JQ.r_then ?_
      refine JQ.done1 Tryd.results65 rfl ?_
      exact fun w hw => ⟨by rw [Pl.ix_eq (by omega) hs4_7 hi.2, if_pos (by omega)], hw.below⟩
    · refine JQ.v (JV.ff (JV.eqlI rfl rfl) hs4_7) rfl ?_
      refine JQ.nil ?_
      refine JQ.n_then ?_
      refine JQ.condF rfl ?_
      refine JQ.skip ?_
      refine JQ.n_block ?_
      refine JQ.n_then ?_
      refine JQ.region ?_
      refine JQ.v (JV.move rfl) rfl ?_
      refine JQ.v (JV.addN (b := 1) rfl rfl (by omega)) rfl ?_
      refine JQ.v (JV.assign rfl) rfl ?_
      refine JQ.nil ?_
      refine JQ.n_then ?_
      exact JQ.nextI (i + 1) ⟨by omega, fun j h => by rcases Nat.lt_or_ge j i with h2 | h2; exact hi.2 j h2; rw [show j = i from by omega]; exact hs4_7⟩ (by omega) (subk_cons rfl (subk_cons rfl (subk_cons rfl subk_nil))) (subr_cons rfl (subr_cons rfl subr_nil))
  · refine JQ.exit ?_
    refine JQ.e_then ?_
    refine JQ.e_then ?_
    refine JQ.e_here ?_
    refine JQ.n_then ?_
    refine JQ.seq ?_
    refine JQ.region ?_
    refine JQ.v (JV.assign rfl) rfl ?_
    refine JQ.nil ?_
    refine JQ.n_then ?_
    refine JQ.ret ?_
    refine JQ.done1 Tryd.results65 rfl ?_
    exact fun w hw => ⟨by rw [if_neg (by rw [Pl.ix_none (fun j h => hi.2 j (by omega))]; omega)], hw.below⟩

theorem bs_spec (kv : Value) (ks : List Pl.Key) (hl : ks.length ≤ 4611686018427387904) (hs : Pl.incr ks) (id : Int) (w : World) (hr : Reads w kv 9 ks.length (kcs ks)) :
    Calls Tryd.prog 54 #[kv, iv id, .func (.func 55) #[] #[]] w fun e w' => e = .returned (.tuple #[iv (Pl.lb ks id : Int), .bool (Pl.fnd ks id)]) ∧ Below w.heap.size w w' := by
  
  refine enterA (vs := [_, _, _]) Tryd.func54 rfl 49 rfl [(100, .ro kv 9 ks.length (kcs ks))] (MemOk.start1 100 hr) ?_
  refine JQ.seq ?_
  refine JQ.region ?_
  refine JQ.v (JV.assign rfl) rfl ?_
  refine JQ.v (JV.assign rfl) rfl ?_
  refine JQ.nil ?_
  refine JQ.n_then ?_
  refine JQ.seq ?_
  refine JQ.region ?_
  refine JQ.v (JV.move rfl) rfl ?_
  refine JQ.v (JV.lenRo 100 rfl rfl Tryd.runUnderlying27) rfl ?_
  refine JQ.v (JV.assign rfl) rfl ?_
  refine JQ.nil ?_
  refine JQ.n_then ?_
  refine JQ.seq ?_
  refine JQ.region ?_
  refine JQ.v (JV.move rfl) rfl ?_
  refine JQ.v (JV.assign rfl) rfl ?_
  refine JQ.v (JV.assign rfl) rfl ?_
  refine JQ.nil ?_
  refine JQ.n_then ?_
  refine JQ.seq ?_
  refine JQ.block ?_
  refine JQ.loopI (ι := Nat × Nat) (fun i => [(0, kv), (1, iv id), (2, .func (.func 55) #[] #[]), (8, .int .i64 ((ks.length : Nat) : Int)), (9, .int .i64 ((i.1 : Nat) : Int)), (10, .int .i64 ((i.2 : Nat) : Int))]) (fun i => [(100, .ro kv 9 ks.length (kcs ks))]) (fun i => i.1 ≤ Pl.lb ks id ∧ Pl.lb ks id ≤ i.2 ∧ i.2 ≤ ks.length) (fun i => i.2 - i.1) (0, ks.length) ⟨Nat.zero_le _, Pl.lb_le _ _, Nat.le_refl _⟩ (subk_cons rfl (subk_cons rfl (subk_cons rfl (subk_cons rfl (subk_cons rfl (subk_cons rfl subk_nil)))))) (subr_cons rfl subr_nil) ?_
  intro i hi
  obtain ⟨hi1, hi2, hi3⟩ := hi
  refine JQ.seq ?_
  refine JQ.seq ?_
  refine JQ.region ?_
  refine JQ.v (JV.move rfl) rfl ?_
  refine JQ.v (JV.move rfl) rfl ?_
  refine JQ.v (JV.lssN rfl rfl) rfl ?_
  refine JQ.nil ?_
  refine JQ.n_then ?_
  refine JQ.condP rfl (fun h17 => ?_) (fun h17 => ?_)
  · refine JQ.skip ?_
    refine JQ.n_then ?_
    refine JQ.block ?_
    refine JQ.seq ?_
    refine JQ.region ?_
    refine JQ.v (JV.move rfl) rfl ?_
    refine JQ.v (JV.move rfl) rfl ?_
    refine JQ.v (JV.addN rfl rfl (by omega)) rfl ?_
    refine JQ.v (JV.convU64 Tryd.runUnderlying3 Tryd.runUnderlying113 rfl) rfl ?_
    refine JQ.v (JV.shrU64 (b := 1) rfl rfl (by omega)) rfl ?_
    refine JQ.v (JV.convK Tryd.runUnderlying113 Tryd.runUnderlying3 rfl ((wrap_i64 (by omega)))) rfl ?_
    refine JQ.v (JV.assign rfl) rfl ?_
    obtain ⟨h, hh⟩ : ∃ h : Nat, h = (i.1 + i.2) % 18446744073709551616 / 2 ^ 1 := ⟨_, rfl⟩
    rw [← hh]
    have hh2 : h = (i.1 + i.2) / 2 := by omega
    refine JQ.nil ?_
    refine JQ.n_then ?_
    refine JQ.seq ?_
    refine JQ.region ?_
    refine JQ.v (JV.move rfl) rfl ?_
    refine JQ.v (JV.move rfl) rfl ?_
    refine JQ.v (JV.move rfl) rfl ?_
    refine JQ.v (JV.idxRo 100 rfl rfl rfl Tryd.runUnderlying27 Tryd.sizeOf34 (by decide) (by omega)) rfl ?_
    refine JQ.v (JV.loadRA 100 rfl rfl Tryd.isAgg34 Tryd.sizeOf34 (us := kc (Pl.at_ ks h)) (kc_at ks (by omega)) rfl (by decide)) rfl ?_
    refine JQ.v (JV.move rfl) rfl ?_
    refine JQ.v (JV.callvM (fs := []) (us := []) rfl Tryd.call55 (evs_cons rfl (evs_cons rfl evs_nil)) (fun w hw => cmpk_pure (Pl.at_ ks h) id w)) rfl ?_
    by_cases hs5_7 : Pl.cmp (Pl.at_ ks h).id id < 0
    · refine JQ.v (JV.tt (JV.lss rfl rfl) hs5_7) rfl ?_
      refine JQ.nil ?_
      refine JQ.n_then ?_
      refine JQ.condT rfl ?_
      refine JQ.region ?_
      refine JQ.v (JV.move rfl) rfl ?_
      refine JQ.v (JV.addN (b := 1) rfl rfl (by omega)) rfl ?_
      refine JQ.v (JV.assign rfl) rfl ?_
      refine JQ.nil ?_
      refine JQ.n_block ?_
      refine JQ.n_then ?_
      exact JQ.nextI (h + 1, i.2) (by first | exact ⟨lb_up hs (by omega) ((Pl.cmp_neg _ _).1 hs5_7), hi2, hi3⟩ | exact ⟨hi1, lb_dn (fun hx => hs5_7 ((Pl.cmp_neg _ _).2 hx)), by show h ≤ _; omega⟩) (by first | (show i.2 - (h + 1) < i.2 - i.1; omega) | (show h - i.1 < i.2 - i.1; omega)) (subk_cons rfl (subk_cons rfl (subk_cons rfl (subk_cons rfl (subk_cons rfl (subk_cons rfl subk_nil)))))) (subr_cons rfl subr_nil)
    · refine JQ.v (JV.ff (JV.lss rfl rfl) hs5_7) rfl ?_
      refine JQ.nil ?_
      refine JQ.n_then ?_
      refine JQ.condF rfl ?_
      refine JQ.region ?_
      refine JQ.v (JV.move rfl) rfl ?_
      refine JQ.v (JV.assign rfl) rfl ?_
      refine JQ.nil ?_
      refine JQ.n_block ?_
      refine JQ.n_then ?_
      exact JQ.nextI (i.1, h) (by first | exact ⟨lb_up hs (by omega) ((Pl.cmp_neg _ _).1 hs5_7), hi2, hi3⟩ | exact ⟨hi1, lb_dn (fun hx => hs5_7 ((Pl.cmp_neg _ _).2 hx)), by show h ≤ _; omega⟩) (by first | (show i.2 - (h + 1) < i.2 - i.1; omega) | (show h - i.1 < i.2 - i.1; omega)) (subk_cons rfl (subk_cons rfl (subk_cons rfl (subk_cons rfl (subk_cons rfl (subk_cons rfl subk_nil)))))) (subr_cons rfl subr_nil)
  · refine JQ.exit ?_
    refine JQ.e_then ?_
    refine JQ.e_then ?_
    refine JQ.e_here ?_
    refine JQ.n_then ?_
    refine JQ.seq ?_
    have hlb : i.1 = Pl.lb ks id := by omega
    refine JQ.region ?_
    refine JQ.v (JV.move rfl) rfl ?_
    refine JQ.v (JV.move rfl) rfl ?_
    refine JQ.v (JV.move rfl) rfl ?_
    refine JQ.v (JV.lssN rfl rfl) rfl ?_
    refine JQ.vb (JV.move rfl) rfl (fun g8_4 => ?_) (fun g8_4 => ?_)
    · have g84 := of_decide_eq_true g8_4
      refine JQ.vg rfl rfl (JV.move rfl) rfl ?_
      refine JQ.vg rfl rfl (JV.move rfl) rfl ?_
      refine JQ.vg rfl rfl (JV.move rfl) rfl ?_
      refine JQ.vg rfl rfl (JV.idxRo 100 rfl rfl rfl Tryd.runUnderlying27 Tryd.sizeOf34 (by decide) (by omega)) rfl ?_
      refine JQ.vg rfl rfl (JV.loadRA 100 rfl rfl Tryd.isAgg34 Tryd.sizeOf34 (us := kc (Pl.at_ ks i.1)) (kc_at ks (by omega)) rfl (by decide)) rfl ?_
      refine JQ.vg rfl rfl (JV.move rfl) rfl ?_
      refine JQ.vg rfl rfl (JV.callvM (fs := []) (us := []) rfl Tryd.call55 (evs_cons rfl (evs_cons rfl evs_nil)) (fun w hw => cmpk_pure (Pl.at_ ks i.1) id w)) rfl ?_
      refine JQ.vg rfl rfl (JV.eqlI rfl rfl) rfl ?_
      refine JQ.v (JV.pickT rfl rfl) rfl ?_
      refine JQ.v (JV.assign rfl) rfl ?_
      refine JQ.v (JV.assign rfl) rfl ?_
      refine JQ.nil ?_
      refine JQ.n_then ?_
      refine JQ.ret ?_
      refine JQ.doneTT Tryd.results54 rfl rfl ?_
      exact fun w hw => ⟨by rw [← hlb]; simp [Pl.fnd, ← hlb, g8_4], hw.below⟩
    · refine JQ.g0 rfl rfl rfl rfl ?_
      refine JQ.g0 rfl rfl rfl rfl ?_
      refine JQ.g0 rfl rfl rfl rfl ?_
      refine JQ.g0 rfl rfl rfl rfl ?_
      refine JQ.g0 rfl rfl rfl rfl ?_
      refine JQ.g0 rfl rfl rfl rfl ?_
      refine JQ.g0 rfl rfl rfl rfl ?_
      refine JQ.g0 rfl rfl rfl rfl ?_
      refine JQ.v (JV.pickF rfl rfl) rfl ?_
      refine JQ.v (JV.assign rfl) rfl ?_
      refine JQ.v (JV.assign rfl) rfl ?_
      refine JQ.nil ?_
      refine JQ.n_then ?_
      refine JQ.ret ?_
      refine JQ.doneTT Tryd.results54 rfl rfl ?_
      exact fun w hw => ⟨by rw [← hlb]; simp [Pl.fnd, ← hlb, g8_4], hw.below⟩

theorem find_spec (n : Int) (kv : Value) (ks : List Pl.Key) (hl : ks.length ≤ 4611686018427387904) (hs : Pl.incr ks) (id : Int) (w : World) (hr : Reads w kv 9 ks.length (kcs ks)) :
    Calls Tryd.prog 32 #[.agg [iv n, kv].toArray, iv id] w fun e w' => e = .returned (.tuple #[iv (if Pl.ix ks id < ks.length then (Pl.ix ks id : Int) else 0), iv (Pl.getE ks id)]) ∧ Below w.heap.size w w' := by
  
  refine enterA (vs := [_, _]) Tryd.func32 rfl 18 rfl [(100, .ro kv 9 ks.length (kcs ks))] (MemOk.start1 100 hr) ?_
  refine JQ.seq ?_
  refine JQ.region ?_
  refine JQ.x (JO.box 1 rfl rfl) rfl ?_
  intro i0_0
  refine JQ.v (JV.assign rfl) rfl ?_
  refine JQ.v (JV.assign rfl) rfl ?_
  refine JQ.nil ?_
  refine JQ.n_then ?_
  refine JQ.seq ?_
  refine JQ.region ?_
  refine JQ.v (JV.fieldAddrK (o := 1) rfl Tryd.runUnderlying29 rfl Tryd.sizeOf27 rfl rfl) rfl ?_
  refine JQ.v (JV.load1 1 rfl rfl Tryd.isAgg27 (rfl)) rfl ?_
  refine JQ.v (JV.move rfl) rfl ?_
  refine JQ.v (JV.callM Tryd.call54 (evs_cons rfl (evs_cons rfl (evs_cons rfl evs_nil))) (fun w hw => bs_spec kv ks hl hs id w (hw.reads (id := 100) rfl))) rfl ?_
  refine JQ.v (JV.move rfl) rfl ?_
  refine JQ.v (JV.extract rfl rfl) rfl ?_
  refine JQ.v (JV.extract rfl rfl) rfl ?_
  refine JQ.v (JV.assign rfl) rfl ?_
  refine JQ.v (JV.assign rfl) rfl ?_
  refine JQ.nil ?_
  refine JQ.n_then ?_
  refine JQ.seq ?_
  refine JQ.seq ?_
  refine JQ.region ?_
  refine JQ.v (JV.move rfl) rfl ?_
  refine JQ.v (JV.notB rfl) rfl ?_
  refine JQ.nil ?_
  refine JQ.n_then ?_
  refine JQ.cond rfl (fun h16 => ?_) (fun h16 => ?_)
  · refine JQ.seq ?_
    refine JQ.region ?_
    refine JQ.v (JV.assign rfl) rfl ?_
    refine JQ.v (JV.assign rfl) rfl ?_
    refine JQ.nil ?_
    refine JQ.n_then ?_
    refine JQ.ret ?_
    refine JQ.r_then ?_
    refine JQ.doneTT Tryd.results32 rfl rfl ?_
    exact fun w hw => ⟨by rw [if_neg (find_no hs h16), Pl.getE, if_neg (find_no hs h16)], hw.below⟩
  · refine JQ.skip ?_
    refine JQ.n_then ?_
    refine JQ.seq ?_
    refine JQ.region ?_
    refine JQ.v (JV.move rfl) rfl ?_
    refine JQ.v (JV.assign rfl) rfl ?_
    refine JQ.v (JV.assign rfl) rfl ?_
    refine JQ.nil ?_
    refine JQ.n_then ?_
    refine JQ.ret ?_
    refine JQ.doneTT Tryd.results32 rfl rfl ?_
    exact fun w hw => ⟨by rw [if_pos (find_yes hs h16), Pl.getE, if_pos (find_yes hs h16), (Pl.fnd_has hs id).2 (decide_eq_true (find_yes hs h16))]; rfl, hw.below⟩

theorem get_spec (n : Int) (kv : Value) (ks : List Pl.Key) (hl : ks.length ≤ 4611686018427387904) (hs : Pl.incr ks) (id : Int) (w : World) (hr : Reads w kv 9 ks.length (kcs ks)) :
    Calls Tryd.prog 11 #[.agg [iv n, kv].toArray, iv id] w fun e w' => e = .returned (.tuple #[.agg (kc (Pl.getK ks id)).toArray, iv (Pl.getE ks id)]) ∧ Below w.heap.size w w' := by
  
  refine enterA (vs := [_, _]) Tryd.func11 rfl 23 rfl [(100, .ro kv 9 ks.length (kcs ks))] (MemOk.start1 100 hr) ?_
  refine JQ.seq ?_
  refine JQ.region ?_
  refine JQ.x (JO.box 1 rfl rfl) rfl ?_
  intro i0_0
  refine JQ.x (JO.alloc 2 (zs := (kc Pl.Key.zero)) Tryd.zeroValue34 rfl) rfl ?_
  intro i0_1
  refine JQ.v (JV.assign rfl) rfl ?_
  refine JQ.nil ?_
  refine JQ.n_then ?_
  refine JQ.seq ?_
  refine JQ.region ?_
  refine JQ.v (JV.loadV 1 rfl rfl Tryd.isAgg29 Tryd.sizeOf29 rfl) rfl ?_
  refine JQ.v (JV.move rfl) rfl ?_
  refine JQ.v (JV.callM Tryd.call32 (evs_cons rfl (evs_cons rfl evs_nil)) (fun w hw => find_spec n kv ks hl hs id w (hw.reads (id := 100) rfl))) rfl ?_
  refine JQ.v (JV.move rfl) rfl ?_
  refine JQ.v (JV.extract rfl rfl) rfl ?_
  refine JQ.v (JV.extract rfl rfl) rfl ?_
  refine JQ.v (JV.assign rfl) rfl ?_
  refine JQ.v (JV.assign rfl) rfl ?_
  refine JQ.nil ?_
  refine JQ.n_then ?_
  refine JQ.seq ?_
  refine JQ.seq ?_
  refine JQ.region ?_
  refine JQ.v (JV.move rfl) rfl ?_
  by_cases hs2_1 : Pl.getE ks id ≠ 0
  · refine JQ.v (JV.tt (JV.neqI rfl rfl) hs2_1) rfl ?_
    refine JQ.nil ?_
    refine JQ.n_then ?_
    refine JQ.condT rfl ?_
    refine JQ.seq ?_
    refine JQ.region ?_
    refine JQ.v (JV.build (v := .agg (kc Pl.Key.zero).toArray) evp_nil (fun w => by kernel_rfl)) rfl ?_
    refine JQ.v (JV.move rfl) rfl ?_
    refine JQ.s (JO.storeV 2 rfl rfl rfl (us := (kc Pl.Key.zero)) rfl Tryd.sizeOf34 rfl rfl) ?_
    refine JQ.v (JV.assign rfl) rfl ?_
    refine JQ.nil ?_
    refine JQ.n_then ?_
    refine JQ.ret ?_
    refine JQ.r_then ?_
    refine JQ.doneCT 2 Tryd.results11 rfl rfl rfl Tryd.isAgg34 Tryd.sizeOf34 rfl ?_
    exact fun w hw => ⟨by rw [Pl.getK_none (fun h => hs2_1 (by rw [Pl.getE, if_pos h]))]; rfl, hw.below⟩
  · refine JQ.v (JV.ff (JV.neqI rfl rfl) hs2_1) rfl ?_
    refine JQ.nil ?_
    refine JQ.n_then ?_
    refine JQ.condF rfl ?_
    refine JQ.skip ?_
    refine JQ.n_then ?_
    refine JQ.seq ?_
    have hix : Pl.ix ks id < ks.length := getE_ok (Decidable.not_not.1 hs2_1)
    rw [if_pos hix]
    refine JQ.region ?_
    refine JQ.v (JV.fieldAddrK (o := 1) rfl Tryd.runUnderlying29 rfl Tryd.sizeOf27 rfl rfl) rfl ?_
    refine JQ.v (JV.load1 1 rfl rfl Tryd.isAgg27 (rfl)) rfl ?_
    refine JQ.v (JV.move rfl) rfl ?_
    refine JQ.v (JV.idxRo 100 rfl rfl rfl Tryd.runUnderlying27 Tryd.sizeOf34 (by decide) (by omega)) rfl ?_
    refine JQ.v (JV.loadRA 100 rfl rfl Tryd.isAgg34 Tryd.sizeOf34 (us := kc (Pl.getK ks id)) (kc_at ks (by omega)) rfl (by decide)) rfl ?_
    refine JQ.s (JO.storeV 2 rfl rfl rfl (us := kc (Pl.getK ks id)) rfl Tryd.sizeOf34 rfl rfl) ?_
    refine JQ.v (JV.assign rfl) rfl ?_
    refine JQ.nil ?_
    refine JQ.n_then ?_
    refine JQ.ret ?_
    refine JQ.doneCT 2 Tryd.results11 rfl rfl rfl Tryd.isAgg34 Tryd.sizeOf34 rfl ?_
    exact fun w hw => ⟨by rw [Pl.getE, if_pos hix], hw.below⟩

theorem rget_spec (n : Int) (kv : Value) (ks : List Pl.Key) (hl : ks.length ≤ 4611686018427387904) (id : Int) (w : World) (hr : Reads w kv 9 ks.length (kcs ks)) :
    Calls Tryd.prog 43 #[.agg [iv n, kv].toArray, iv id] w fun e w' => e = .returned (.tuple #[.agg (kc (Pl.getK ks id)).toArray, iv (Pl.getE ks id)]) ∧ Below w.heap.size w w' := by
  
  refine enterA (vs := [_, _]) Tryd.func43 rfl 18 rfl [(100, .ro kv 9 ks.length (kcs ks))] (MemOk.start1 100 hr) ?_
  refine JQ.seq ?_
  refine JQ.region ?_
  refine JQ.x (JO.box 1 rfl rfl) rfl ?_
  intro i0_0
  refine JQ.x (JO.alloc 2 (zs := (kc Pl.Key.zero)) Tryd.zeroValue34 rfl) rfl ?_
  intro i0_1
  refine JQ.v (JV.assign rfl) rfl ?_
  refine JQ.nil ?_
  refine JQ.n_then ?_
  refine JQ.seq ?_
  refine JQ.region ?_
  refine JQ.v (JV.loadV 1 rfl rfl Tryd.isAgg29 Tryd.sizeOf29 rfl) rfl ?_
  refine JQ.v (JV.move rfl) rfl ?_
  refine JQ.v (JV.callM Tryd.call65 (evs_cons rfl (evs_cons rfl evs_nil)) (fun w hw => at_spec n kv ks hl id w (hw.reads (id := 100) rfl))) rfl ?_
  refine JQ.v (JV.assign rfl) rfl ?_
  refine JQ.nil ?_
  refine JQ.n_then ?_
  refine JQ.seq ?_
  refine JQ.seq ?_
  refine JQ.region ?_
  refine JQ.v (JV.move rfl) rfl ?_
  by_cases hs2_1 : (if Pl.ix ks id < ks.length then (Pl.ix ks id : Int) else -1) < 0
  · refine JQ.v (JV.tt (JV.lss rfl rfl) hs2_1) rfl ?_
    refine JQ.nil ?_
    refine JQ.n_then ?_
    refine JQ.condT rfl ?_
    refine JQ.seq ?_
    refine JQ.region ?_
    refine JQ.v (JV.build (v := .agg (kc Pl.Key.zero).toArray) evp_nil (fun w => by kernel_rfl)) rfl ?_
    refine JQ.s (JO.storeV 2 rfl rfl rfl (us := (kc Pl.Key.zero)) rfl Tryd.sizeOf34 rfl rfl) ?_
    refine JQ.v (JV.assign rfl) rfl ?_
    refine JQ.nil ?_
    refine JQ.n_then ?_
    refine JQ.ret ?_
    refine JQ.r_then ?_
    refine JQ.doneCT 2 Tryd.results43 rfl rfl rfl Tryd.isAgg34 Tryd.sizeOf34 rfl ?_
    exact fun w hw => ⟨by rw [Pl.getK_none (at_no hs2_1), Pl.getE, if_neg (at_no hs2_1)], hw.below⟩
  · refine JQ.v (JV.ff (JV.lss rfl rfl) hs2_1) rfl ?_
    refine JQ.nil ?_
    refine JQ.n_then ?_
    refine JQ.condF rfl ?_
    refine JQ.skip ?_
    refine JQ.n_then ?_
    refine JQ.seq ?_
    have hix : Pl.ix ks id < ks.length := at_ok hs2_1
    rw [if_pos hix]
    refine JQ.region ?_
    refine JQ.v (JV.fieldAddrK (o := 1) rfl Tryd.runUnderlying29 rfl Tryd.sizeOf27 rfl rfl) rfl ?_
    refine JQ.v (JV.load1 1 rfl rfl Tryd.isAgg27 (rfl)) rfl ?_
    refine JQ.v (JV.move rfl) rfl ?_
    refine JQ.v (JV.idxRo 100 rfl rfl rfl Tryd.runUnderlying27 Tryd.sizeOf34 (by decide) (by omega)) rfl ?_
    refine JQ.v (JV.loadRA 100 rfl rfl Tryd.isAgg34 Tryd.sizeOf34 (us := kc (Pl.getK ks id)) (kc_at ks (by omega)) rfl (by decide)) rfl ?_
    refine JQ.s (JO.storeV 2 rfl rfl rfl (us := kc (Pl.getK ks id)) rfl Tryd.sizeOf34 rfl rfl) ?_
    refine JQ.v (JV.assign rfl) rfl ?_
    refine JQ.nil ?_
    refine JQ.n_then ?_
    refine JQ.ret ?_
    refine JQ.doneCT 2 Tryd.results43 rfl rfl rfl Tryd.isAgg34 Tryd.sizeOf34 rfl ?_
    exact fun w hw => ⟨by rw [Pl.getE, if_pos hix], hw.below⟩

theorem rnext1_spec (n : Int) (kv : Value) (ks : List Pl.Key) (hl : ks.length ≤ 4611686018427387904) (hv : verOk ks) (id : Int) (w : World) (hr : Reads w kv 9 ks.length (kcs ks)) :
    Calls Tryd.prog 21 #[.agg [iv n, kv].toArray, iv id] w fun e w' => e = .returned (.tuple #[iv (Pl.nextI ks id), .bool (Pl.nextB ks id)]) ∧ Below w.heap.size w w' := by
  
  refine enterA (vs := [_, _]) Tryd.func21 rfl 40 rfl [(100, .ro kv 9 ks.length (kcs ks))] (MemOk.start1 100 hr) ?_
  refine JQ.seq ?_
  refine JQ.region ?_
  refine JQ.x (JO.box 1 rfl rfl) rfl ?_
  intro i0_0
  refine JQ.v (JV.assign rfl) rfl ?_
  refine JQ.v (JV.assign rfl) rfl ?_
  refine JQ.nil ?_
  refine JQ.n_then ?_
  refine JQ.seq ?_
  refine JQ.region ?_
  refine JQ.v (JV.loadV 1 rfl rfl Tryd.isAgg29 Tryd.sizeOf29 rfl) rfl ?_
  refine JQ.v (JV.move rfl) rfl ?_
  refine JQ.v (JV.callM Tryd.call43 (evs_cons rfl (evs_cons rfl evs_nil)) (fun w hw => rget_spec n kv ks hl id w (hw.reads (id := 100) rfl))) rfl ?_
  refine JQ.v (JV.move rfl) rfl ?_
  refine JQ.v (JV.extract rfl rfl) rfl ?_
  refine JQ.v (JV.extract rfl rfl) rfl ?_
  refine JQ.x (JO.alloc 2 (zs := (kc Pl.Key.zero)) Tryd.zeroValue34 rfl) rfl ?_
  intro i1_6
  refine JQ.s (JO.storeV 2 rfl rfl rfl (us := kc (Pl.getK ks id)) rfl Tryd.sizeOf34 rfl rfl) ?_
  refine JQ.v (JV.assign rfl) rfl ?_
  refine JQ.nil ?_
  refine JQ.n_then ?_
  refine JQ.seq ?_
  refine JQ.seq ?_
  refine JQ.region ?_
  refine JQ.v (JV.move rfl) rfl ?_
  by_cases hs2_1 : Pl.getE ks id ≠ 0
  · refine JQ.v (JV.tt (JV.neqI rfl rfl) hs2_1) rfl ?_
    refine JQ.nil ?_
    refine JQ.n_then ?_
    refine JQ.condT rfl ?_
    refine JQ.seq ?_
    have hno : ¬ Pl.ix ks id < ks.length := fun h => hs2_1 (by rw [Pl.getE, if_pos h])
    refine JQ.region ?_
    refine JQ.v (JV.assign rfl) rfl ?_
    refine JQ.v (JV.assign rfl) rfl ?_
    refine JQ.nil ?_
    refine JQ.n_then ?_
    refine JQ.ret ?_
    refine JQ.r_then ?_
    refine JQ.doneTT Tryd.results21 rfl rfl ?_
    exact fun w hw => ⟨by rw [Pl.nextI, Pl.nextB, Pl.nextO, if_neg hno]; rfl, hw.below⟩
  · refine JQ.v (JV.ff (JV.neqI rfl rfl) hs2_1) rfl ?_
    refine JQ.nil ?_
    refine JQ.n_then ?_
    refine JQ.condF rfl ?_
    refine JQ.skip ?_
    refine JQ.n_then ?_
    refine JQ.seq ?_
    refine JQ.seq ?_
    have hix : Pl.ix ks id < ks.length := getE_ok (Decidable.not_not.1 hs2_1)
    refine JQ.region ?_
    refine JQ.v (JV.fieldAddrK (o := 1) rfl Tryd.runUnderlying29 rfl Tryd.sizeOf27 rfl rfl) rfl ?_
    refine JQ.v (JV.load1 1 rfl rfl Tryd.isAgg27 (rfl)) rfl ?_
    refine JQ.v (JV.lenRo 100 rfl rfl Tryd.runUnderlying27) rfl ?_
    refine JQ.v (JV.subI rfl rfl (by omega)) rfl ?_
    refine JQ.v (JV.assign rfl) rfl ?_
    refine JQ.nil ?_
    refine JQ.n_then ?_
    refine JQ.block ?_
    refine JQ.loopI (ι := Nat) (fun j => [(2, .pointer (some ⟨i0_0, 0, none⟩)), (6, .pointer (some ⟨i1_6, 0, none⟩)), (8, iv (((j : Nat) : Int) - 1))]) (fun j => [(1, .cells i0_0 [iv n, kv] 29 (0, 0)), (2, .cells i1_6 (kc (Pl.getK ks id)) 34 (0, 0)), (100, .ro kv 9 ks.length (kcs ks))]) (fun j => j ≤ ks.length ∧ Pl.lastS ks (Pl.getK ks id) ks.length = Pl.lastS ks (Pl.getK ks id) j) (fun j => j) ks.length ⟨Nat.le_refl _, rfl⟩ (subk_cons rfl (subk_cons rfl (subk_cons rfl subk_nil))) (subr_cons rfl (subr_cons rfl (subr_cons rfl subr_nil))) ?_
    intro j hj
    have hj1 := hj.1
    refine JQ.seq ?_
    refine JQ.seq ?_
    refine JQ.region ?_
    refine JQ.v (JV.move rfl) rfl ?_
    refine JQ.v (JV.geq rfl rfl) rfl ?_
    refine JQ.nil ?_
    refine JQ.n_then ?_
    refine JQ.condP rfl (fun h23 => ?_) (fun h23 => ?_)
    · obtain ⟨i, rfl⟩ : ∃ i, j = i + 1 := ⟨j - 1, by omega⟩
      rw [show (((i + 1 : Nat) : Int) - 1) = ((i : Nat) : Int) from by omega]
      refine JQ.skip ?_
      refine JQ.n_then ?_
      refine JQ.seq ?_
      refine JQ.block ?_
      refine JQ.seq ?_
      refine JQ.any [_, _, _, _, _, _, _, _] [fun _ => [], fun _ => [], fun _ => [], fun _ => [], fun _ => [], fun _ => [], fun _ => [], fun _ => []] [⟨[], [], [], []⟩, ⟨[1], [], [], [0]⟩, ⟨[], [], [], []⟩, ⟨[100], [], [], [0, 1, 2]⟩, ⟨[100], [], [], [0, 1, 2, 3]⟩, ⟨[2], [], [], []⟩, ⟨[], [], [], [0, 1, 2, 3, 4, 5]⟩, ⟨[], [], [], [0, 1, 2, 3, 4, 5, 6]⟩] Tryd.mixed rfl (by kernel_rfl) ⟨Ob.v rfl (fun _ _ h => by cases h) (fun _ _ _ => rfl) (fun e L' hL => JV.fieldAddrK (o := 1) rfl Tryd.runUnderlying29 rfl Tryd.sizeOf27 rfl rfl),
                Ob.v rfl (fun _ _ h => by cases h) (fun _ _ _ => rfl) (fun e L' hL => JV.load1 1 rfl ((hL 1 (by decide)).trans rfl) Tryd.isAgg27 (rfl)),
                Ob.v rfl (fun _ _ h => by cases h) (fun _ _ _ => rfl) (fun e L' hL => JV.move rfl),
                Ob.v rfl (fun _ _ h => by cases h) (fun _ _ _ => rfl) (fun e L' hL => JV.idxRo 100 rfl rfl ((hL 100 (by decide)).trans rfl) Tryd.runUnderlying27 Tryd.sizeOf34 (by decide) (by omega)),
                Ob.v rfl (fun _ _ h => by cases h) (fun _ _ _ => rfl) (fun e L' hL => JV.loadRA 100 rfl ((hL 100 (by decide)).trans rfl) Tryd.isAgg34 Tryd.sizeOf34 (us := kc (Pl.at_ ks i)) (kc_at ks (by omega)) rfl (by decide)),
                Ob.v rfl (fun _ _ h => by cases h) (fun _ _ _ => rfl) (fun e L' hL => JV.loadV 2 rfl ((hL 2 (by decide)).trans rfl) Tryd.isAgg34 Tryd.sizeOf34 rfl),
                Ob.v rfl (fun _ _ h => by cases h) (fun _ _ _ => rfl) (fun e L' hL => JV.call Tryd.call48 (evs_cons rfl (evs_cons rfl evs_nil)) (succ_pure (Pl.at_ ks i) (Pl.getK ks id) (ver_at hv _))),
                Ob.v rfl (fun _ _ h => by cases h) (fun _ _ _ => rfl) (fun e L' hL => JV.assign rfl), trivial⟩ (fun ev7 => ?_)
      simp only [endF, endL, putF, List.nil_append, List.cons_append]
      refine JQ.n_then ?_
      refine JQ.seq ?_
      refine JQ.region ?_
      refine JQ.v (JV.move rfl) rfl ?_
      refine JQ.nil ?_
      refine JQ.n_then ?_
      refine JQ.cond rfl (fun h33 => ?_) (fun h33 => ?_)
      · refine JQ.seq ?_
        refine JQ.region ?_
        refine JQ.v (JV.fieldAddrK (o := 1) rfl Tryd.runUnderlying29 rfl Tryd.sizeOf27 rfl rfl) rfl ?_
        refine JQ.v (JV.load1 1 rfl rfl Tryd.isAgg27 (rfl)) rfl ?_
        refine JQ.v (JV.move rfl) rfl ?_
        refine JQ.v (JV.idxRo 100 rfl rfl rfl Tryd.runUnderlying27 Tryd.sizeOf34 (by decide) (by omega)) rfl ?_
        refine JQ.v (JV.fieldAddrRo 100 rfl rfl (by omega) (by decide) Tryd.runUnderlying34 rfl Tryd.sizeOf3 rfl) rfl ?_
        refine JQ.v (JV.loadR 100 rfl rfl Tryd.isAgg3 (kf0 ks (by omega))) rfl ?_
        refine JQ.v (JV.assign rfl) rfl ?_
        refine JQ.v (JV.assign rfl) rfl ?_
        refine JQ.nil ?_
        refine JQ.n_then ?_
        refine JQ.ret ?_
        refine JQ.r_block ?_
        refine JQ.r_then ?_
        refine JQ.r_then ?_
        refine JQ.r_block ?_
        refine JQ.r_then ?_
        refine JQ.doneTT Tryd.results21 rfl rfl ?_
        exact fun w hw => ⟨by rw [Pl.nextI, Pl.nextB, Pl.nextO, if_pos hix, hj.2, Pl.lastS, if_pos h33]; rfl, hw.below⟩
      · refine JQ.skip ?_
        refine JQ.n_block ?_
        refine JQ.n_then ?_
        refine JQ.region ?_
        refine JQ.v (JV.move rfl) rfl ?_
        refine JQ.v (JV.subI rfl rfl (by omega)) rfl ?_
        refine JQ.v (JV.assign rfl) rfl ?_
        refine JQ.nil ?_
        refine JQ.n_then ?_
        exact JQ.nextI i ⟨by omega, by rw [hj.2, Pl.lastS, if_neg (by rw [h33]; decide)]⟩ (by omega) (subk_cons rfl (subk_cons rfl (subk_cons rfl subk_nil))) (subr_cons rfl (subr_cons rfl (subr_cons rfl subr_nil)))
    · refine JQ.exit ?_
      refine JQ.e_then ?_
      refine JQ.e_then ?_
      refine JQ.e_here ?_
      refine JQ.n_then ?_
      refine JQ.seq ?_
      refine JQ.region ?_
      refine JQ.v (JV.assign rfl) rfl ?_
      refine JQ.v (JV.assign rfl) rfl ?_
      refine JQ.nil ?_
      refine JQ.n_then ?_
      refine JQ.ret ?_
      refine JQ.doneTT Tryd.results21 rfl rfl ?_
      exact fun w hw => ⟨by rw [Pl.nextI, Pl.nextB, Pl.nextO, if_pos hix, hj.2, show j = 0 from by omega]; rfl, hw.below⟩
end Go.Fw
end
section
open Go.RowKit
set_option maxRecDepth 100000
set_option linter.unusedVariables false
set_option linter.unusedSimpArgs false
namespace Go.Fw
open Go.Proofs
def stR (b : Bool) : LoopState := match b with | true => .done | false => .ready
def peR (b : Bool) : Option Code := match b with | true => some .ret | false => none
theorem stR_ne (b : Bool) : stR b ≠ .busy := by cases b <;> simp [stR]
theorem peR_none {o : Option Nat} (h : peR o.isSome = none) : o = none := by cases o <;> simp_all [peR]
theorem peR_some {o : Option Nat} {c : Code} (h : peR o.isSome = some c) : o.isSome = true ∧ c = .ret := by
  cases o with
  | none => simp [peR] at h
  | some x => simp only [peR, Option.isSome_some, Option.some.injEq] at h; exact ⟨rfl, h.symm⟩
theorem elem3 : Elem Tryd.prog 44 3 1 8 := ⟨Tryd.underlying44, ⟨Tryd.t3, _, by kernel_rfl, rfl, rfl, rfl, rfl⟩, by decide⟩
attribute [local irreducible] kcs Pl.ix Pl.lb Pl.getE Pl.fnd Pl.nextO Pl.at_ Pl.line
theorem back_spec {w0 : World} {L : ML} (kv : Value) (hone : kv.oneCell' = true) (w : World) (hw : MemOk w0 L w) :
    Calls Tryd.prog 47 #[kv] w fun e w' => ∃ b : Nat, e = .returned (.func (.func 67) #[] #[.pointer (some ⟨b, 0, none⟩)]) ∧ MemOk w0 ((301, .cells b [kv] 27 (0, 0)) :: L) w' := by
  
  refine enterB (vs := [_]) Tryd.func47 rfl 4 rfl L hw ?_
  refine JQ.seq ?_
  refine JQ.region ?_
  refine JQ.x (JO.box 301 rfl (cells_one hone)) rfl ?_
  intro i0_0
  refine JQ.v (JV.assign rfl) rfl ?_
  refine JQ.nil ?_
  refine JQ.n_then ?_
  refine JQ.seq ?_
  refine JQ.region ?_
  refine JQ.v (JV.mkFunc evs_nil (evs_cons rfl evs_nil)) rfl ?_
  refine JQ.v (JV.assign rfl) rfl ?_
  refine JQ.nil ?_
  refine JQ.n_then ?_
  refine JQ.ret ?_
  refine JQ.done1 Tryd.results47 rfl ?_
  exact fun w hw => ⟨_, rfl, hw⟩

theorem next1_spec (n : Int) (kv : Value) (ks : List Pl.Key) (hl : ks.length ≤ 4611686018427387904) (hs : Pl.incr ks) (hv : verOk ks) (id : Int) (w : World) (hr : Reads w kv 9 ks.length (kcs ks)) :
    Calls Tryd.prog 20 #[.agg [iv n, kv].toArray, iv id] w fun e w' => e = .returned (.tuple #[iv (Pl.nextI ks id), .bool (Pl.nextB ks id)]) ∧ Below w.heap.size w w' := by
  
  refine enterM (vs := [_, _]) Tryd.func20 rfl 50 rfl [(100, .ro kv 9 ks.length (kcs ks))] (MemOk.start1 100 hr) ?_
  refine JI.seq ?_
  refine JI.region ?_
  refine JI.x (JO.box 1 rfl rfl) rfl ?_
  intro i0_0
  refine JI.x (JO.box 2 rfl rfl) rfl ?_
  intro i0_1
  refine JI.x (JO.alloc 3 (zs := [iv 0]) Tryd.zeroValue3 rfl) rfl ?_
  intro i0_2
  refine JI.x (JO.alloc 4 (zs := [.bool false]) Tryd.zeroValue4 rfl) rfl ?_
  intro i0_3
  refine JI.nil ?_
  refine JI.n_then ?_
  refine JI.seq ?_
  refine JI.region ?_
  refine JI.v (JV.loadV 1 rfl rfl Tryd.isAgg29 Tryd.sizeOf29 rfl) rfl ?_
  refine JI.v (JV.load1 2 rfl rfl Tryd.isAgg3 (rfl)) rfl ?_
  refine JI.v (JV.callM Tryd.call11 (evs_cons rfl (evs_cons rfl evs_nil)) (fun w hw => get_spec n kv ks hl hs id w (hw.reads (id := 100) rfl))) rfl ?_
  refine JI.v (JV.move rfl) rfl ?_
  refine JI.v (JV.extract rfl rfl) rfl ?_
  refine JI.v (JV.extract rfl rfl) rfl ?_
  refine JI.x (JO.alloc 5 (zs := (kc Pl.Key.zero)) Tryd.zeroValue34 rfl) rfl ?_
  intro i1_6
  refine JI.s (JO.storeV 5 rfl rfl rfl (us := kc (Pl.getK ks id)) rfl Tryd.sizeOf34 rfl rfl) ?_
  refine JI.v (JV.assign rfl) rfl ?_
  refine JI.nil ?_
  refine JI.n_then ?_
  refine JI.seq ?_
  refine JI.seq ?_
  refine JI.region ?_
  refine JI.v (JV.move rfl) rfl ?_
  by_cases hs2_1 : Pl.getE ks id ≠ 0
  · refine JI.v (JV.tt (JV.neqI rfl rfl) hs2_1) rfl ?_
    refine JI.nil ?_
    refine JI.n_then ?_
    refine JI.condT rfl ?_
    refine JI.seq ?_
    have hno : ¬ Pl.ix ks id < ks.length := fun h => hs2_1 (by rw [Pl.getE, if_pos h])
    refine JI.region ?_
    refine JI.s (JO.store1 3 rfl rfl rfl rfl Tryd.sizeOf3 (Nat.le_of_ble_eq_true rfl)) ?_
    refine JI.s (JO.store1 4 rfl rfl rfl rfl Tryd.sizeOf4 (Nat.le_of_ble_eq_true rfl)) ?_
    refine JI.nil ?_
    refine JI.n_then ?_
    refine JI.ret ?_
    refine JI.r_then ?_
    refine JI.ends ?_
    refine JQ.doneCC1 3 4 Tryd.results20 rfl rfl rfl rfl Tryd.isAgg3 Tryd.isAgg4 ?_
    exact fun w hw => ⟨by rw [Pl.nextI, Pl.nextB, Pl.nextO, if_neg hno]; rfl, hw.below⟩
  · refine JI.v (JV.ff (JV.neqI rfl rfl) hs2_1) rfl ?_
    refine JI.nil ?_
    refine JI.n_then ?_
    refine JI.condF rfl ?_
    refine JI.skip ?_
    refine JI.n_then ?_
    refine JI.seq ?_
    refine JI.seq ?_
    have hix : Pl.ix ks id < ks.length := getE_ok (Decidable.not_not.1 hs2_1)
    have hkid : (Pl.getK ks id).id = id := Pl.ix_at hix
    refine JI.region ?_
    refine JI.v (JV.fieldAddrK (o := 1) rfl Tryd.runUnderlying29 rfl Tryd.sizeOf27 rfl rfl) rfl ?_
    refine JI.v (JV.load1 1 rfl rfl Tryd.isAgg27 (rfl)) rfl ?_
    refine JI.x (JO.callC Tryd.call47 (evs_cons rfl evs_nil) (fun w hw => back_spec kv (hw.roOne (id := 100) rfl) w hw)) rfl ?_
    intro i4_2
    refine JI.nil ?_
    refine JI.n_then ?_
    refine JI.block ?_
    refine JI.range 207 208 rfl Tryd.call67 (ι := Unit) (fun _ => [(3, .cells i0_2 [iv (Pl.resI ks (Pl.lastS ks (Pl.getK ks id) ks.length))] 3 (0, 0)), (4, .cells i0_3 [.bool (Pl.lastS ks (Pl.getK ks id) ks.length).isSome] 4 (0, 0)), (301, .cells i4_2 [kv] 27 (0, 0)), (5, .cells i1_6 (kc (Pl.getK ks id)) 34 (0, 0)), (1, .cells i0_0 [iv n, kv] 29 (0, 0)), (2, .cells i0_1 [iv id] 3 (0, 0)), (100, .ro kv 9 ks.length (kcs ks))]) (fun _ => stR (Pl.lastS ks (Pl.getK ks id) ks.length).isSome) (fun _ => peR (Pl.lastS ks (Pl.getK ks id) ks.length).isSome) (fun _ => stR_ne _) ?_ ?_ ?_
    · intro fn l D T rc hrc hT hFT w1 hw1
      refine enterM (vs := [yv l, .pointer (some ⟨i4_2, 0, none⟩)]) Tryd.func67 rfl 19 rfl _ hw1 ?_
      refine JI.seq ?_
      refine JI.region ?_
      refine JI.v (JV.load1 301 rfl rfl Tryd.isAgg27 (rfl)) rfl ?_
      refine JI.v (JV.lenRo 100 rfl rfl Tryd.runUnderlying27) rfl ?_
      refine JI.v (JV.subI rfl rfl (by omega)) rfl ?_
      refine JI.v (JV.assign rfl) rfl ?_
      refine JI.nil ?_
      refine JI.n_then ?_
      refine JI.block ?_
      refine JI.loopI (ι := Nat) (fun j => [(0, yv l), (1, .pointer (some ⟨i4_2, 0, none⟩)), (3, iv (((j : Nat) : Int) - 1))]) (fun j => [(207, .obj l (.loop (rc .ready none))), (208, .obj D (.deferred (some []))), (3, .cells i0_2 [iv 0] 3 (0, 0)), (4, .cells i0_3 [.bool false] 4 (0, 0)), (301, .cells i4_2 [kv] 27 (0, 0)), (5, .cells i1_6 (kc (Pl.getK ks id)) 34 (0, 0)), (1, .cells i0_0 [iv n, kv] 29 (0, 0)), (2, .cells i0_1 [iv id] 3 (0, 0)), (100, .ro kv 9 ks.length (kcs ks))]) (fun j => j ≤ ks.length ∧ (Pl.lastS ks (Pl.getK ks id) ks.length) = Pl.lastS ks (Pl.getK ks id) j) (fun j => j) ks.length ⟨Nat.le_refl _, rfl⟩ (subk_cons rfl (subk_cons rfl (subk_cons rfl subk_nil))) (subr_cons rfl (subr_cons rfl (subr_cons rfl (subr_cons rfl (subr_cons rfl (subr_cons rfl (subr_cons rfl (subr_cons rfl (subr_cons rfl subr_nil))))))))) ?_
      intro j hj
      have hj1 := hj.1
      refine JI.seq ?_
      refine JI.seq ?_
      refine JI.region ?_
      refine JI.v (JV.move rfl) rfl ?_
      refine JI.v (JV.geq rfl rfl) rfl ?_
      refine JI.nil ?_
      refine JI.n_then ?_
      refine JI.condP rfl (fun h8 => ?_) (fun h8 => ?_)
      · obtain ⟨i, rfl⟩ : ∃ i, j = i + 1 := ⟨j - 1, by omega⟩
        rw [show (((i + 1 : Nat) : Int) - 1) = ((i : Nat) : Int) from by omega]
        refine JI.skip ?_
        refine JI.n_then ?_
        refine JI.seq ?_
        refine JI.block ?_
        refine JI.seq ?_
        refine JI.region ?_
        refine JI.v (JV.move rfl) rfl ?_
        refine JI.v (JV.move rfl) rfl ?_
        refine JI.v (JV.load1 301 rfl rfl Tryd.isAgg27 (rfl)) rfl ?_
        refine JI.v (JV.move rfl) rfl ?_
        refine JI.v (JV.idxRo 100 rfl rfl rfl Tryd.runUnderlying27 Tryd.sizeOf34 (by decide) (by omega)) rfl ?_
        refine JI.v (JV.loadRA 100 rfl rfl Tryd.isAgg34 Tryd.sizeOf34 (us := kc (Pl.at_ ks i)) (kc_at ks (by omega)) rfl (by decide)) rfl ?_
        refine JI.yield 207 hrc rfl (evs_cons rfl (evs_cons rfl evs_nil)) rfl rfl (ι := Unit) (vr := fun _ => .bool (!(Pl.succ (Pl.at_ ks i) (Pl.getK ks id)))) (L' := fun _ => [(207, .obj l (.loop (rc (stR (Pl.succ (Pl.at_ ks i) (Pl.getK ks id))) (peR (Pl.succ (Pl.at_ ks i) (Pl.getK ks id)))))), (208, .obj D (.deferred (some []))), (3, .cells i0_2 [iv (bif (Pl.succ (Pl.at_ ks i) (Pl.getK ks id)) then (Pl.at_ ks i).id else 0)] 3 (0, 0)), (4, .cells i0_3 [.bool (Pl.succ (Pl.at_ ks i) (Pl.getK ks id))] 4 (0, 0)), (301, .cells i4_2 [kv] 27 (0, 0)), (5, .cells i1_6 (kc (Pl.getK ks id)) 34 (0, 0)), (1, .cells i0_0 [iv n, kv] 29 (0, 0)), (2, .cells i0_1 [iv id] 3 (0, 0)), (100, .ro kv 9 ks.length (kcs ks))]) (fun w2 hw2 => ?_) rfl ?_
        · refine roundI (sz := 50) (by rw [zipT_size]; exact hT) (frOk_zip2 hFT (by rw [hT]; decide) (by rw [hT]; decide)) hw2 ?_
          refine JI.region ?_
          refine JI.x (JO.alloc 31 (zs := (kc Pl.Key.zero)) Tryd.zeroValue34 rfl) rfl ?_
          intro i5_0
          refine JI.s (JO.storeV 31 rfl rfl rfl (us := kc (Pl.at_ ks i)) rfl Tryd.sizeOf34 rfl rfl) ?_
          refine JI.nil ?_
          refine JI.n_then ?_
          refine JI.begin 207 hrc rfl ?_
          refine JI.block ?_
          refine JI.seq ?_
          refine JI.region ?_
          refine JI.v (JV.fieldAddrK (o := 0) rfl Tryd.runUnderlying34 rfl Tryd.sizeOf3 rfl rfl) rfl ?_
          refine JI.v (JV.load1 31 rfl rfl Tryd.isAgg3 (rfl)) rfl ?_
          refine JI.v (JV.load1 2 rfl rfl Tryd.isAgg3 (rfl)) rfl ?_
          refine JI.v (JV.gtr rfl rfl) rfl ?_
          refine JI.vb (JV.move rfl) rfl (fun g6_4 => ?_) (fun g6_4 => ?_)
          · refine JI.vg rfl rfl (JV.fieldAddrK (o := 1) rfl Tryd.runUnderlying34 rfl Tryd.sizeOf3 rfl rfl) rfl ?_
            refine JI.vg rfl rfl (JV.load1 31 rfl rfl Tryd.isAgg3 (rfl)) rfl ?_
            refine JI.vg rfl rfl (JV.fieldAddrK (o := 1) rfl Tryd.runUnderlying34 rfl Tryd.sizeOf3 rfl rfl) rfl ?_
            refine JI.vg rfl rfl (JV.load1 5 rfl rfl Tryd.isAgg3 (rfl)) rfl ?_
            refine JI.vg rfl rfl (JV.eqlI rfl rfl) rfl ?_
            refine JI.v (JV.pickT rfl rfl) rfl ?_
            refine JI.vb (JV.move rfl) rfl (fun g6_11 => ?_) (fun g6_11 => ?_)
            · refine JI.vg rfl rfl (JV.fieldAddrK (o := 7) rfl Tryd.runUnderlying34 rfl Tryd.sizeOf3 rfl rfl) rfl ?_
              refine JI.vg rfl rfl (JV.load1 31 rfl rfl Tryd.isAgg3 (rfl)) rfl ?_
              refine JI.vg rfl rfl (JV.load1 2 rfl rfl Tryd.isAgg3 (rfl)) rfl ?_
              refine JI.vg rfl rfl (JV.eqlI rfl rfl) rfl ?_
              refine JI.v (JV.pickT rfl rfl) rfl ?_
              refine JI.vb (JV.move rfl) rfl (fun g6_17 => ?_) (fun g6_17 => ?_)
              · refine JI.vg rfl rfl (JV.fieldAddrK (o := 6) rfl Tryd.runUnderlying34 rfl Tryd.sizeOf3 rfl rfl) rfl ?_
                refine JI.vg rfl rfl (JV.load1 31 rfl rfl Tryd.isAgg3 (rfl)) rfl ?_
                refine JI.vg rfl rfl (JV.fieldAddrK (o := 6) rfl Tryd.runUnderlying34 rfl Tryd.sizeOf3 rfl rfl) rfl ?_
                refine JI.vg rfl rfl (JV.load1 5 rfl rfl Tryd.isAgg3 (rfl)) rfl ?_
                refine JI.vg rfl rfl (JV.addI rfl rfl (by have h : -9223372036854775808 ≤ (Pl.getK ks id).ver ∧ (Pl.getK ks id).ver ≤ 9223372036854775806 := ver_at hv _; omega)) rfl ?_
                refine JI.vg rfl rfl (JV.eqlI rfl rfl) rfl ?_
                refine JI.v (JV.pickT rfl rfl) rfl ?_
                refine JI.nil ?_
                refine JI.n_then ?_
                refine JI.condP rfl (fun h47 => ?_) (fun h47 => ?_)
                · refine JI.seq ?_
                  refine JI.region ?_
                  refine JI.v (JV.fieldAddrK (o := 0) rfl Tryd.runUnderlying34 rfl Tryd.sizeOf3 rfl rfl) rfl ?_
                  refine JI.v (JV.load1 31 rfl rfl Tryd.isAgg3 (rfl)) rfl ?_
                  refine JI.s (JO.store1 3 rfl rfl rfl rfl Tryd.sizeOf3 (Nat.le_of_ble_eq_true rfl)) ?_
                  refine JI.s (JO.store1 4 rfl rfl rfl rfl Tryd.sizeOf4 (Nat.le_of_ble_eq_true rfl)) ?_
                  refine JI.nil ?_
                  refine JI.n_then ?_
                  refine JI.ret ?_
                  refine JI.r_block ?_
                  have hsu : (Pl.succ (Pl.at_ ks i) (Pl.getK ks id)) = true := by simp [Pl.succ, hkid, g6_4, g6_11, g6_17, h47]
                  refine JI.endR 207 hrc rfl (fun w3 hw3 => ⟨_, rfl, (), by rw [hsu]; rfl, hw3.sub ?_⟩)
                  rw [hsu]
                  exact (subr_cons rfl (subr_cons rfl (subr_cons rfl (subr_cons rfl (subr_cons rfl (subr_cons rfl (subr_cons rfl (subr_cons rfl (subr_cons rfl subr_nil)))))))))
                · refine JI.skip ?_
                  refine JI.n_block ?_
                  have hsu : (Pl.succ (Pl.at_ ks i) (Pl.getK ks id)) = false := by simp [Pl.succ, hkid, g6_4, g6_11, g6_17, h47]
                  refine JI.endN 207 hrc rfl (fun w3 hw3 => ⟨_, rfl, (), by rw [hsu]; rfl, hw3.sub ?_⟩)
                  rw [hsu]
                  exact (subr_cons rfl (subr_cons rfl (subr_cons rfl (subr_cons rfl (subr_cons rfl (subr_cons rfl (subr_cons rfl (subr_cons rfl (subr_cons rfl subr_nil)))))))))
              · refine JI.g0 rfl rfl rfl rfl ?_
                refine JI.g0 rfl rfl rfl rfl ?_
                refine JI.g0 rfl rfl rfl rfl ?_
                refine JI.g0 rfl rfl rfl rfl ?_
                refine JI.g0 rfl rfl rfl rfl ?_
                refine JI.g0 rfl rfl rfl rfl ?_
                refine JI.v (JV.pickF rfl rfl) rfl ?_
                refine JI.nil ?_
                refine JI.n_then ?_
                refine JI.condF rfl ?_
                refine JI.skip ?_
                refine JI.n_block ?_
                have hsu : (Pl.succ (Pl.at_ ks i) (Pl.getK ks id)) = false := by simp [Pl.succ, hkid, g6_4, g6_11, g6_17]
                refine JI.endN 207 hrc rfl (fun w3 hw3 => ⟨_, rfl, (), by rw [hsu]; rfl, hw3.sub ?_⟩)
                rw [hsu]
                exact (subr_cons rfl (subr_cons rfl (subr_cons rfl (subr_cons rfl (subr_cons rfl (subr_cons rfl (subr_cons rfl (subr_cons rfl (subr_cons rfl subr_nil)))))))))
            · refine JI.g0 rfl rfl rfl rfl ?_
              refine JI.g0 rfl rfl rfl rfl ?_
              refine JI.g0 rfl rfl rfl rfl ?_
              refine JI.g0 rfl rfl rfl rfl ?_
              refine JI.v (JV.pickF rfl rfl) rfl ?_
              refine JI.v (JV.move rfl) rfl ?_
              refine JI.g0 rfl rfl rfl rfl ?_
              refine JI.g0 rfl rfl rfl rfl ?_
              refine JI.g0 rfl rfl rfl rfl ?_
              refine JI.g0 rfl rfl rfl rfl ?_
              refine JI.g0 rfl rfl rfl rfl ?_
              refine JI.g0 rfl rfl rfl rfl ?_
              refine JI.v (JV.pickF rfl rfl) rfl ?_
              refine JI.nil ?_
              refine JI.n_then ?_
              refine JI.condF rfl ?_
              refine JI.skip ?_
              refine JI.n_block ?_
              have hsu : (Pl.succ (Pl.at_ ks i) (Pl.getK ks id)) = false := by simp [Pl.succ, hkid, g6_4, g6_11]
              refine JI.endN 207 hrc rfl (fun w3 hw3 => ⟨_, rfl, (), by rw [hsu]; rfl, hw3.sub ?_⟩)
              rw [hsu]
              exact (subr_cons rfl (subr_cons rfl (subr_cons rfl (subr_cons rfl (subr_cons rfl (subr_cons rfl (subr_cons rfl (subr_cons rfl (subr_cons rfl subr_nil)))))))))
          · refine JI.g0 rfl rfl rfl rfl ?_
            refine JI.g0 rfl rfl rfl rfl ?_
            refine JI.g0 rfl rfl rfl rfl ?_
            refine JI.g0 rfl rfl rfl rfl ?_
            refine JI.g0 rfl rfl rfl rfl ?_
            refine JI.v (JV.pickF rfl rfl) rfl ?_
            refine JI.v (JV.move rfl) rfl ?_
            refine JI.g0 rfl rfl rfl rfl ?_
            refine JI.g0 rfl rfl rfl rfl ?_
            refine JI.g0 rfl rfl rfl rfl ?_
            refine JI.g0 rfl rfl rfl rfl ?_
            refine JI.v (JV.pickF rfl rfl) rfl ?_
            refine JI.v (JV.move rfl) rfl ?_
            refine JI.g0 rfl rfl rfl rfl ?_
            refine JI.g0 rfl rfl rfl rfl ?_
            refine JI.g0 rfl rfl rfl rfl ?_
            refine JI.g0 rfl rfl rfl rfl ?_
            refine JI.g0 rfl rfl rfl rfl ?_
            refine JI.g0 rfl rfl rfl rfl ?_
            refine JI.v (JV.pickF rfl rfl) rfl ?_
            refine JI.nil ?_
            refine JI.n_then ?_
            refine JI.condF rfl ?_
            refine JI.skip ?_
            refine JI.n_block ?_
            have hsu : (Pl.succ (Pl.at_ ks i) (Pl.getK ks id)) = false := by simp [Pl.succ, hkid, g6_4]
            refine JI.endN 207 hrc rfl (fun w3 hw3 => ⟨_, rfl, (), by rw [hsu]; rfl, hw3.sub ?_⟩)
            rw [hsu]
            exact (subr_cons rfl (subr_cons rfl (subr_cons rfl (subr_cons rfl (subr_cons rfl (subr_cons rfl (subr_cons rfl (subr_cons rfl (subr_cons rfl subr_nil)))))))))
        rintro ⟨⟩
        refine JI.v (JV.notB rfl) rfl ?_
        refine JI.nil ?_
        refine JI.n_then ?_
        refine JI.cond rfl (fun h18 => ?_) (fun h18 => ?_)
        · have hsu : (Pl.succ (Pl.at_ ks i) (Pl.getK ks id)) = true := by simpa using h18
          refine JI.ret ?_
          refine JI.r_block ?_
          refine JI.r_then ?_
          refine JI.r_then ?_
          refine JI.r_block ?_
          refine JI.ends ?_
          refine JQ.doneN Tryd.results67 ?_
          have hLS : (Pl.lastS ks (Pl.getK ks id) ks.length) = some i := by rw [hj.2, Pl.lastS, if_pos hsu]
          rw [hLS]
          exact fun w hw => ⟨_, rfl, (), by rw [hsu] at hw; exact hw.sub (subr_cons rfl (subr_cons rfl (subr_cons rfl (subr_cons rfl (subr_cons rfl (subr_cons rfl (subr_cons rfl (subr_cons rfl (subr_cons rfl subr_nil)))))))))⟩
        · have hsu : (Pl.succ (Pl.at_ ks i) (Pl.getK ks id)) = false := by simpa using h18
          rw [hsu]
          refine JI.skip ?_
          refine JI.n_block ?_
          refine JI.n_then ?_
          refine JI.region ?_
          refine JI.v (JV.move rfl) rfl ?_
          refine JI.v (JV.subI rfl rfl (by omega)) rfl ?_
          refine JI.v (JV.assign rfl) rfl ?_
          refine JI.nil ?_
          refine JI.n_then ?_
          exact JI.nextI i ⟨by omega, by rw [hj.2, Pl.lastS, if_neg (by rw [hsu]; decide)]⟩ (by omega) (subk_cons rfl (subk_cons rfl (subk_cons rfl subk_nil))) (subr_cons rfl (subr_cons rfl (subr_cons rfl (subr_cons rfl (subr_cons rfl (subr_cons rfl (subr_cons rfl (subr_cons rfl (subr_cons rfl subr_nil)))))))))
      · refine JI.exit ?_
        refine JI.e_then ?_
        refine JI.e_then ?_
        refine JI.e_here ?_
        refine JI.to_ret ?_
        refine JI.ends ?_
        refine JQ.doneN Tryd.results67 ?_
        have hLS : (Pl.lastS ks (Pl.getK ks id) ks.length) = none := by rw [hj.2, show j = 0 from by omega]; rfl
        rw [hLS]
        exact fun w hw => ⟨_, rfl, (), hw.sub (subr_cons rfl (subr_cons rfl (subr_cons rfl (subr_cons rfl (subr_cons rfl (subr_cons rfl (subr_cons rfl (subr_cons rfl (subr_cons rfl subr_nil)))))))))⟩
    · intro _ D l o hp
      have hLS := peR_none hp
      refine JI.n_block ?_
      refine JI.n_then ?_
      refine JI.seq ?_
      refine JI.region ?_
      refine JI.s (JO.store1 3 rfl rfl rfl rfl Tryd.sizeOf3 (Nat.le_of_ble_eq_true rfl)) ?_
      refine JI.s (JO.store1 4 rfl rfl rfl rfl Tryd.sizeOf4 (Nat.le_of_ble_eq_true rfl)) ?_
      refine JI.nil ?_
      refine JI.n_then ?_
      refine JI.ret ?_
      refine JI.endsM 208 rfl ?_
      refine JQ.doneCC1 3 4 Tryd.results20 rfl rfl rfl rfl Tryd.isAgg3 Tryd.isAgg4 ?_
      exact fun w hw => ⟨by rw [Pl.nextI, Pl.nextB, Pl.nextO, if_pos hix, hLS]; rfl, hw.below⟩
    · intro _ D l o c hp
      obtain ⟨hLS, rfl⟩ := peR_some hp
      refine JI.ret ?_
      refine JI.r_block ?_
      refine JI.r_then ?_
      refine JI.endsM 208 rfl ?_
      refine JQ.doneCC1 3 4 Tryd.results20 rfl rfl rfl rfl Tryd.isAgg3 Tryd.isAgg4 ?_
      exact fun w hw => ⟨by rw [Pl.nextI, Pl.nextB, Pl.nextO, if_pos hix], hw.below⟩
end Go.Fw
end
section
open Go.RowKit
set_option maxRecDepth 100000
set_option linter.unusedVariables false
set_option linter.unusedSimpArgs false
namespace Go.Fw
open Go.Proofs
theorem ivs_at {l : List Int} {i : Nat} (h : i < l.length) : (l.map iv)[i]? = some (iv (l.getD i 0)) := by
  rw [List.getElem?_map, List.getElem?_eq_getElem h, List.getD_eq_getElem?_getD, List.getElem?_eq_getElem h]; rfl
attribute [local irreducible] kcs Pl.ix Pl.lb Pl.getE Pl.fnd Pl.nextO Pl.at_ Pl.line Pl.lineL Pl.lft Pl.lineTo Pl.nextB Pl.nextI
theorem line_spec {w0 : World} {L : ML} (n : Int) (kv : Value) (id : Int) (w : World) (hw : MemOk w0 L w) :
    Calls Tryd.prog 39 #[.agg [iv n, kv].toArray, iv id] w fun e w' => ∃ b : Nat × Nat, e = .returned (.func (.func 64) #[] #[.pointer (some ⟨b.1, 0, none⟩), .pointer (some ⟨b.2, 0, none⟩)]) ∧ MemOk w0 ((302, .cells b.1 [iv id] 3 (0, 0)) :: (301, .cells b.2 [iv n, kv] 29 (0, 0)) :: L) w' := by
  
  refine enterB (vs := [_, _]) Tryd.func39 rfl 6 rfl L hw ?_
  refine JQ.seq ?_
  refine JQ.region ?_
  refine JQ.x (JO.box 301 rfl rfl) rfl ?_
  intro i0_0
  refine JQ.x (JO.box 302 rfl rfl) rfl ?_
  intro i0_1
  refine JQ.v (JV.assign rfl) rfl ?_
  refine JQ.nil ?_
  refine JQ.n_then ?_
  refine JQ.seq ?_
  refine JQ.region ?_
  refine JQ.v (JV.mkFunc evs_nil (evs_cons rfl (evs_cons rfl evs_nil))) rfl ?_
  refine JQ.v (JV.assign rfl) rfl ?_
  refine JQ.nil ?_
  refine JQ.n_then ?_
  refine JQ.ret ?_
  refine JQ.done1 Tryd.results39 rfl ?_
  exact fun w hw => ⟨(i0_1, i0_0), rfl, hw⟩

theorem aseq_spec {w0 : World} (n : Int) (kv : Value) (ks : List Pl.Key) (hl : ks.length ≤ 1048576) (hs : Pl.incr ks) (hv : verOk ks) (id : Int) (b2 b1 : Nat) (w : World) (hw : MemOk w0 [(302, .cells b2 [iv id] 3 (0, 0)), (301, .cells b1 [iv n, kv] 29 (0, 0)), (100, .ro kv 9 ks.length (kcs ks))] w) :
    Calls Tryd.prog 63 #[.slice none 0 0, .func (.func 64) #[] #[.pointer (some ⟨b2, 0, none⟩), .pointer (some ⟨b1, 0, none⟩)]] w fun e w' => ∃ vb : Value, e = .returned vb ∧ MemOk w0 [(303, .row vb 3 1 (Pl.line ks id).length ((Pl.line ks id).map iv))] w' := by
  
  refine enterM (vs := [_, _]) Tryd.func63 rfl 13 rfl [(302, .cells b2 [iv id] 3 (0, 0)), (301, .cells b1 [iv n, kv] 29 (0, 0)), (100, .ro kv 9 ks.length (kcs ks))] hw ?_
  refine JI.seq ?_
  refine JI.region ?_
  refine JI.x (JO.box 304 rfl rfl) rfl ?_
  intro i0_0
  refine JI.v (JV.assign rfl) rfl ?_
  refine JI.nil ?_
  refine JI.n_then ?_
  refine JI.seq ?_
  refine JI.seq ?_
  refine JI.region ?_
  refine JI.v (JV.move rfl) rfl ?_
  refine JI.nil ?_
  refine JI.n_then ?_
  refine JI.block ?_
  refine JI.nilRow 303 3 1 ?_
  refine JI.range 207 208 rfl Tryd.call64 (ι := Value) (fun vb => [(303, .row vb 3 1 (Pl.line ks id).length ((Pl.line ks id).map iv)), (304, .cells i0_0 [vb] 44 (0, 0))]) (fun _ => .ready) (fun _ => none) (fun _ h => by cases h) ?_ ?_ ?_
  · intro fn l D T rc hrc hT hFT w1 hw1
    refine enterM (vs := [yv l, .pointer (some ⟨b2, 0, none⟩), .pointer (some ⟨b1, 0, none⟩)]) Tryd.func64 rfl 17 rfl _ hw1 ?_
    refine JI.seq ?_
    refine JI.region ?_
    refine JI.v (JV.assign rfl) rfl ?_
    refine JI.nil ?_
    refine JI.n_then ?_
    refine JI.block ?_
    refine JI.loopI (ι := List Int × Bool × Int × Value) (fun i => [(0, yv l), (1, .pointer (some ⟨b2, 0, none⟩)), (2, .pointer (some ⟨b1, 0, none⟩)), (4, .bool i.2.1)]) (fun i => [(207, .obj l (.loop (rc .ready none))), (208, .obj D (.deferred (some []))), (303, .row i.2.2.2 3 1 i.1.length (i.1.map iv)), (304, .cells i0_0 [i.2.2.2] 44 (0, 0)), (302, .cells b2 [iv i.2.2.1] 3 (0, 0)), (301, .cells b1 [iv n, kv] 29 (0, 0)), (100, .ro kv 9 ks.length (kcs ks))]) (fun i => Pl.lineTo ks id i.1 i.2.1 i.2.2.1) (fun i => Pl.lft ks i.2.1 i.2.2.1) ([], true, id, .slice none 0 0) (Pl.lineTo_0 ks id) (subk_cons rfl (subk_cons rfl (subk_cons rfl (subk_cons rfl subk_nil)))) (subr_cons rfl (subr_cons rfl (subr_cons rfl (subr_cons rfl (subr_cons rfl (subr_cons rfl (subr_cons rfl subr_nil))))))) ?_
    rintro ⟨pre, is, cur, vb⟩ hI
    dsimp only at hI
    show JI _ _ _ [(0, yv l), (1, .pointer (some ⟨b2, 0, none⟩)), (2, .pointer (some ⟨b1, 0, none⟩)), (4, .bool is)] [(207, .obj l (.loop (rc .ready none))), (208, .obj D (.deferred (some []))), (303, .row vb 3 1 pre.length (pre.map iv)), (304, .cells i0_0 [vb] 44 (0, 0)), (302, .cells b2 [iv cur] 3 (0, 0)), (301, .cells b1 [iv n, kv] 29 (0, 0)), (100, .ro kv 9 ks.length (kcs ks))] _
    refine JI.seq ?_
    refine JI.seq ?_
    refine JI.region ?_
    refine JI.v (JV.move rfl) rfl ?_
    refine JI.vb (JV.move rfl) rfl (fun g1_1 => ?_) (fun g1_1 => ?_)
    · subst g1_1
      have hle := Pl.lineTo_len hs hI
      refine JI.vg rfl rfl (JV.move rfl) rfl ?_
      refine JI.vg rfl rfl (JV.load1 302 rfl rfl Tryd.isAgg3 (rfl)) rfl ?_
      refine JI.yieldg 207 rfl rfl hrc rfl (evs_cons rfl evs_nil) rfl rfl (ι := Value) (vr := fun _ => .bool true) (L' := fun vb' => [(207, .obj l (.loop (rc .ready none))), (208, .obj D (.deferred (some []))), (303, .row vb' 3 1 (pre.length + 1) (pre.map iv ++ [iv cur])), (304, .cells i0_0 [vb'] 44 (0, 0)), (302, .cells b2 [iv cur] 3 (0, 0)), (301, .cells b1 [iv n, kv] 29 (0, 0)), (100, .ro kv 9 ks.length (kcs ks))]) (fun w2 hw2 => ?_) rfl ?_
      · refine roundI (sz := 13) (by rw [zipT_size]; exact hT) (frOk_zip1 hFT (by rw [hT]; decide)) hw2 ?_
        refine JI.region ?_
        refine JI.v (JV.assign rfl) rfl ?_
        refine JI.nil ?_
        refine JI.n_then ?_
        refine JI.begin 207 hrc rfl ?_
        refine JI.block ?_
        refine JI.region ?_
        refine JI.v (JV.load1 304 rfl rfl Tryd.isAgg44 (rfl)) rfl ?_
        refine JI.v (JV.move rfl) rfl ?_
        refine JI.x (JO.buildSlice 31 (us := [iv cur]) (e := 3) (evp_cons rfl evp_nil) (fun w => by kernel_rfl)) rfl ?_
        intro i3_2
        refine JI.x (JO.append 303 elem3 rfl rfl rfl (fun w hw => Src.ro Tryd.underlying44 (reads_cells (hw.blk (id := 31) rfl) (show (_ : List Value) = ([iv cur] : List Value) from rfl) rfl (by decide))) rfl (by omega) (by omega)) rfl ?_
        intro i3_3
        refine JI.s (JO.store1R 304 303 rfl rfl rfl rfl Tryd.sizeOf44 (Nat.le_of_ble_eq_true rfl)) ?_
        refine JI.nil ?_
        refine JI.n_block ?_
        refine JI.endN 207 hrc rfl (fun w3 hw3 => ⟨_, rfl, i3_3, rfl, hw3.sub ?_⟩)
        exact (subr_cons rfl (subr_cons rfl (subr_cons rfl (subr_cons rfl (subr_cons rfl (subr_cons rfl (subr_cons rfl subr_nil)))))))
      intro vb'
      refine JI.v (JV.pickT rfl rfl) rfl ?_
      refine JI.nil ?_
      refine JI.n_then ?_
      refine JI.condT rfl ?_
      refine JI.skip ?_
      refine JI.n_then ?_
      refine JI.block ?_
      refine JI.region ?_
      refine JI.v (JV.loadV 301 rfl rfl Tryd.isAgg29 Tryd.sizeOf29 rfl) rfl ?_
      refine JI.v (JV.load1 302 rfl rfl Tryd.isAgg3 (rfl)) rfl ?_
      refine JI.v (JV.callM Tryd.call20 (evs_cons rfl (evs_cons rfl evs_nil)) (fun w hw => next1_spec n kv ks (by omega) hs hv cur w (hw.reads (id := 100) rfl))) rfl ?_
      refine JI.v (JV.move rfl) rfl ?_
      refine JI.v (JV.extract rfl rfl) rfl ?_
      refine JI.v (JV.extract rfl rfl) rfl ?_
      refine JI.s (JO.store1 302 rfl rfl rfl rfl Tryd.sizeOf3 (Nat.le_of_ble_eq_true rfl)) ?_
      refine JI.v (JV.assign rfl) rfl ?_
      refine JI.nil ?_
      refine JI.n_block ?_
      refine JI.n_then ?_
      exact JI.nextI (pre ++ [cur], Pl.nextB ks cur, Pl.nextI ks cur, vb') (Pl.lineTo_next hs hI) (Pl.lft_next hs cur) (subk_cons rfl (subk_cons rfl (subk_cons rfl (subk_cons rfl subk_nil)))) (subr_cons rfl (subr_cons rfl (subr_cons (by rw [List.length_append, List.map_append]; rfl) (subr_cons rfl (subr_cons rfl (subr_cons rfl (subr_cons rfl subr_nil)))))))
    · subst g1_1
      have hpre := Pl.lineTo_end hI
      subst hpre
      refine JI.g0 rfl rfl rfl rfl ?_
      refine JI.g0 rfl rfl rfl rfl ?_
      refine JI.g0 rfl rfl rfl rfl ?_
      refine JI.v (JV.pickF rfl rfl) rfl ?_
      refine JI.nil ?_
      refine JI.n_then ?_
      refine JI.condF rfl ?_
      refine JI.exit ?_
      refine JI.e_then ?_
      refine JI.e_then ?_
      refine JI.e_here ?_
      refine JI.to_ret ?_
      refine JI.ends ?_
      refine JQ.doneN Tryd.results64 ?_
      exact fun w hw => ⟨_, rfl, vb, hw.sub (subr_cons rfl (subr_cons rfl (subr_cons rfl (subr_cons rfl subr_nil))))⟩
  · intro vb D l o hp
    refine JI.n_block ?_
    refine JI.n_then ?_
    refine JI.seq ?_
    refine JI.region ?_
    refine JI.v (JV.load1 304 rfl rfl Tryd.isAgg44 (rfl)) rfl ?_
    refine JI.v (JV.assign rfl) rfl ?_
    refine JI.nil ?_
    refine JI.n_then ?_
    refine JI.ret ?_
    refine JI.endsM 208 rfl ?_
    refine JQ.done1 Tryd.results63 rfl ?_
    exact fun w hw => ⟨_, rfl, hw.sub (subr_cons rfl subr_nil)⟩
  · intro _ _ _ _ _ h; cases h

theorem collect_spec {w0 : World} (n : Int) (kv : Value) (ks : List Pl.Key) (hl : ks.length ≤ 1048576) (hs : Pl.incr ks) (hv : verOk ks) (id : Int) (b2 b1 : Nat) (w : World) (hw : MemOk w0 [(302, .cells b2 [iv id] 3 (0, 0)), (301, .cells b1 [iv n, kv] 29 (0, 0)), (100, .ro kv 9 ks.length (kcs ks))] w) :
    Calls Tryd.prog 38 #[.func (.func 64) #[] #[.pointer (some ⟨b2, 0, none⟩), .pointer (some ⟨b1, 0, none⟩)]] w fun e w' => ∃ vb : Value, e = .returned vb ∧ MemOk w0 [(303, .row vb 3 1 (Pl.line ks id).length ((Pl.line ks id).map iv))] w' := by
  
  refine enterB (vs := [_]) Tryd.func38 rfl 5 rfl [(302, .cells b2 [iv id] 3 (0, 0)), (301, .cells b1 [iv n, kv] 29 (0, 0)), (100, .ro kv 9 ks.length (kcs ks))] hw ?_
  refine JQ.seq ?_
  refine JQ.region ?_
  refine JQ.v (JV.assign rfl) rfl ?_
  refine JQ.nil ?_
  refine JQ.n_then ?_
  refine JQ.seq ?_
  refine JQ.region ?_
  refine JQ.v (JV.move rfl) rfl ?_
  refine JQ.x (JO.callC Tryd.call63 (evs_cons rfl (evs_cons rfl evs_nil)) (fun w hw => aseq_spec n kv ks hl hs hv id b2 b1 w hw)) rfl ?_
  intro i1_1
  refine JQ.v (JV.assign rfl) rfl ?_
  refine JQ.nil ?_
  refine JQ.n_then ?_
  refine JQ.ret ?_
  refine JQ.done1 Tryd.results38 rfl ?_
  exact fun w hw => ⟨_, rfl, hw⟩

theorem lineS_spec (n : Int) (kv : Value) (ks : List Pl.Key) (hl : ks.length ≤ 1048576) (hs : Pl.incr ks) (hv : verOk ks) (id : Int) (w : World) (hr : Reads w kv 9 ks.length (kcs ks)) :
    Calls Tryd.prog 14 #[.agg [iv n, kv].toArray, iv id] w fun e w' => ∃ v, e = .returned (.tuple #[v, iv (Pl.getE ks id)]) ∧ NewRo w v 1 (Pl.lineL ks id).length ((Pl.lineL ks id).map iv) w' ∧ Below w.heap.size w w' := by
  
  refine enterA (vs := [_, _]) Tryd.func14 rfl 21 rfl [(100, .ro kv 9 ks.length (kcs ks))] (MemOk.start1 100 hr) ?_
  refine JQ.seq ?_
  refine JQ.region ?_
  refine JQ.x (JO.box 1 rfl rfl) rfl ?_
  intro i0_0
  refine JQ.v (JV.assign rfl) rfl ?_
  refine JQ.v (JV.assign rfl) rfl ?_
  refine JQ.nil ?_
  refine JQ.n_then ?_
  refine JQ.seq ?_
  refine JQ.seq ?_
  refine JQ.region ?_
  refine JQ.v (JV.loadV 1 rfl rfl Tryd.isAgg29 Tryd.sizeOf29 rfl) rfl ?_
  refine JQ.v (JV.move rfl) rfl ?_
  refine JQ.v (JV.callM Tryd.call11 (evs_cons rfl (evs_cons rfl evs_nil)) (fun w hw => get_spec n kv ks (by omega) hs id w (hw.reads (id := 100) rfl))) rfl ?_
  refine JQ.v (JV.move rfl) rfl ?_
  refine JQ.v (JV.extract rfl rfl) rfl ?_
  refine JQ.v (JV.extract rfl rfl) rfl ?_
  refine JQ.x (JO.alloc 2 (zs := (kc Pl.Key.zero)) Tryd.zeroValue34 rfl) rfl ?_
  intro i1_6
  refine JQ.s (JO.storeV 2 rfl rfl rfl (us := kc (Pl.getK ks id)) rfl Tryd.sizeOf34 rfl rfl) ?_
  refine JQ.v (JV.assign rfl) rfl ?_
  refine JQ.nil ?_
  refine JQ.n_then ?_
  refine JQ.seq ?_
  refine JQ.region ?_
  refine JQ.v (JV.move rfl) rfl ?_
  by_cases hs2_1 : Pl.getE ks id ≠ 0
  · refine JQ.v (JV.tt (JV.neqI rfl rfl) hs2_1) rfl ?_
    refine JQ.nil ?_
    refine JQ.n_then ?_
    refine JQ.condT rfl ?_
    refine JQ.seq ?_
    have hno : ¬ Pl.ix ks id < ks.length := fun h => hs2_1 (by rw [Pl.getE, if_pos h])
    refine JQ.region ?_
    refine JQ.v (JV.move rfl) rfl ?_
    refine JQ.v (JV.assign rfl) rfl ?_
    refine JQ.v (JV.assign rfl) rfl ?_
    refine JQ.nil ?_
    refine JQ.n_then ?_
    refine JQ.ret ?_
    refine JQ.r_then ?_
    refine JQ.doneTT Tryd.results14 rfl rfl ?_
    exact fun w hw => ⟨_, rfl, by rw [Pl.lineL, if_neg hno]; exact newRo_nil _ _ 1, hw.below⟩
  · refine JQ.v (JV.ff (JV.neqI rfl rfl) hs2_1) rfl ?_
    refine JQ.nil ?_
    refine JQ.n_then ?_
    refine JQ.condF rfl ?_
    refine JQ.skip ?_
    refine JQ.n_then ?_
    refine JQ.seq ?_
    have hix : Pl.ix ks id < ks.length := getE_ok (Decidable.not_not.1 hs2_1)
    refine JQ.region ?_
    refine JQ.v (JV.loadV 1 rfl rfl Tryd.isAgg29 Tryd.sizeOf29 rfl) rfl ?_
    refine JQ.v (JV.move rfl) rfl ?_
    refine JQ.x (JO.callC Tryd.call39 (evs_cons rfl (evs_cons rfl evs_nil)) (fun w hw => line_spec n kv id w hw)) rfl ?_
    intro i4_2
    refine JQ.x (JO.callC Tryd.call38 (evs_cons rfl evs_nil) (fun w hw => collect_spec n kv ks hl hs hv id i4_2.1 i4_2.2 w (hw.sub (subr_cons rfl (subr_cons rfl (subr_cons rfl subr_nil)))))) rfl ?_
    intro i4_3
    refine JQ.v (JV.assign rfl) rfl ?_
    refine JQ.v (JV.assign rfl) rfl ?_
    refine JQ.nil ?_
    refine JQ.n_then ?_
    refine JQ.ret ?_
    refine JQ.doneTT Tryd.results14 rfl rfl ?_
    exact fun w hw => ⟨_, by rw [Pl.getE, if_pos hix], by rw [Pl.lineL, if_pos hix]; exact newRo_row (hw.ok 303 _ rfl), hw.below⟩

theorem rlineS_spec (n : Int) (kv : Value) (ks : List Pl.Key) (hl : ks.length ≤ 1048576) (hs : Pl.incr ks) (hv : verOk ks) (id : Int) (w : World) (hr : Reads w kv 9 ks.length (kcs ks)) :
    Calls Tryd.prog 23 #[.agg [iv n, kv].toArray, iv id] w fun e w' => ∃ v, e = .returned (.tuple #[v, iv (Pl.getE ks id)]) ∧ NewRo w v 1 (Pl.lineL ks id).length ((Pl.lineL ks id).map iv) w' ∧ Below w.heap.size w w' := by
  
  refine enterA (vs := [_, _]) Tryd.func23 rfl 39 rfl [(100, .ro kv 9 ks.length (kcs ks))] (MemOk.start1 100 hr) ?_
  refine JQ.seq ?_
  refine JQ.region ?_
  refine JQ.x (JO.box 1 rfl rfl) rfl ?_
  intro i0_0
  refine JQ.v (JV.assign rfl) rfl ?_
  refine JQ.v (JV.assign rfl) rfl ?_
  refine JQ.nil ?_
  refine JQ.n_then ?_
  refine JQ.seq ?_
  refine JQ.region ?_
  refine JQ.v (JV.loadV 1 rfl rfl Tryd.isAgg29 Tryd.sizeOf29 rfl) rfl ?_
  refine JQ.v (JV.move rfl) rfl ?_
  refine JQ.v (JV.callM Tryd.call43 (evs_cons rfl (evs_cons rfl evs_nil)) (fun w hw => rget_spec n kv ks (by omega) id w (hw.reads (id := 100) rfl))) rfl ?_
  refine JQ.v (JV.move rfl) rfl ?_
  refine JQ.v (JV.extract rfl rfl) rfl ?_
  refine JQ.v (JV.extract rfl rfl) rfl ?_
  refine JQ.x (JO.alloc 2 (zs := (kc Pl.Key.zero)) Tryd.zeroValue34 rfl) rfl ?_
  intro i1_6
  refine JQ.s (JO.storeV 2 rfl rfl rfl (us := kc (Pl.getK ks id)) rfl Tryd.sizeOf34 rfl rfl) ?_
  refine JQ.v (JV.assign rfl) rfl ?_
  refine JQ.nil ?_
  refine JQ.n_then ?_
  refine JQ.seq ?_
  refine JQ.seq ?_
  refine JQ.region ?_
  refine JQ.v (JV.move rfl) rfl ?_
  by_cases hs2_1 : Pl.getE ks id ≠ 0
  · refine JQ.v (JV.tt (JV.neqI rfl rfl) hs2_1) rfl ?_
    refine JQ.nil ?_
    refine JQ.n_then ?_
    refine JQ.condT rfl ?_
    refine JQ.seq ?_
    have hno : ¬ Pl.ix ks id < ks.length := fun h => hs2_1 (by rw [Pl.getE, if_pos h])
    refine JQ.region ?_
    refine JQ.v (JV.assign rfl) rfl ?_
    refine JQ.v (JV.assign rfl) rfl ?_
    refine JQ.nil ?_
    refine JQ.n_then ?_
    refine JQ.ret ?_
    refine JQ.r_then ?_
    refine JQ.doneTT Tryd.results23 rfl rfl ?_
    exact fun w hw => ⟨_, by rw [Pl.getE, if_neg hno], by rw [Pl.lineL, if_neg hno]; exact newRo_nil _ _ 1, hw.below⟩
  · refine JQ.v (JV.ff (JV.neqI rfl rfl) hs2_1) rfl ?_
    refine JQ.nil ?_
    refine JQ.n_then ?_
    refine JQ.condF rfl ?_
    refine JQ.skip ?_
    refine JQ.n_then ?_
    refine JQ.seq ?_
    have hix : Pl.ix ks id < ks.length := getE_ok (Decidable.not_not.1 hs2_1)
    refine JQ.region ?_
    refine JQ.v (JV.move rfl) rfl ?_
    refine JQ.x (JO.buildSlice 303 (us := [iv id]) (e := 3) (evp_cons rfl evp_nil) (fun w => by kernel_rfl)) rfl ?_
    intro i4_1
    refine JQ.v (JV.assign rfl) rfl ?_
    refine JQ.rowOf 303 (b := i4_1) (us := [iv id]) (n := 1) (esz := 1) rfl rfl (by decide) ?_
    refine JQ.nil ?_
    refine JQ.n_then ?_
    refine JQ.seq ?_
    refine JQ.region ?_
    refine JQ.v (JV.loadV 1 rfl rfl Tryd.isAgg29 Tryd.sizeOf29 rfl) rfl ?_
    refine JQ.v (JV.move rfl) rfl ?_
    refine JQ.v (JV.callM Tryd.call21 (evs_cons rfl (evs_cons rfl evs_nil)) (fun w hw => rnext1_spec n kv ks (by omega) hv id w (hw.reads (id := 100) rfl))) rfl ?_
    refine JQ.v (JV.move rfl) rfl ?_
    refine JQ.v (JV.extract rfl rfl) rfl ?_
    refine JQ.v (JV.extract rfl rfl) rfl ?_
    refine JQ.v (JV.assign rfl) rfl ?_
    refine JQ.v (JV.assign rfl) rfl ?_
    refine JQ.nil ?_
    refine JQ.n_then ?_
    refine JQ.seq ?_
    refine JQ.block ?_
    refine JQ.loopI (ι := List Int × Bool × Int × Value) (fun i => [(2, .pointer (some ⟨i0_0, 0, none⟩)), (8, i.2.2.2), (9, iv i.2.2.1), (10, .bool i.2.1)]) (fun i => [(1, .cells i0_0 [iv n, kv] 29 (0, 0)), (303, .row i.2.2.2 3 1 i.1.length (i.1.map iv)), (100, .ro kv 9 ks.length (kcs ks))]) (fun i => Pl.lineTo ks id i.1 i.2.1 i.2.2.1) (fun i => Pl.lft ks i.2.1 i.2.2.1) ([id], Pl.nextB ks id, Pl.nextI ks id, .slice (some ⟨i4_1, 0, none⟩) 1 1) (Pl.lineTo_next hs (Pl.lineTo_0 ks id)) (subk_cons rfl (subk_cons rfl (subk_cons rfl (subk_cons rfl subk_nil)))) (subr_cons rfl (subr_cons rfl (subr_cons rfl subr_nil))) ?_
    rintro ⟨pre, is, cur, vb⟩ hI
    dsimp only at hI
    show JQ _ _ [(2, .pointer (some ⟨i0_0, 0, none⟩)), (8, vb), (9, iv cur), (10, .bool is)] [(1, .cells i0_0 [iv n, kv] 29 (0, 0)), (303, .row vb 3 1 pre.length (pre.map iv)), (100, .ro kv 9 ks.length (kcs ks))] _
    refine JQ.seq ?_
    refine JQ.seq ?_
    refine JQ.region ?_
    refine JQ.v (JV.move rfl) rfl ?_
    refine JQ.nil ?_
    refine JQ.n_then ?_
    refine JQ.cond rfl (fun h27 => ?_) (fun h27 => ?_)
    · subst h27
      have hle := Pl.lineTo_len hs hI
      refine JQ.skip ?_
      refine JQ.n_then ?_
      refine JQ.block ?_
      refine JQ.seq ?_
      refine JQ.region ?_
      refine JQ.v (JV.move rfl) rfl ?_
      refine JQ.v (JV.move rfl) rfl ?_
      refine JQ.x (JO.buildSlice 3 (us := [iv cur]) (e := 3) (evp_cons rfl evp_nil) (fun w => by kernel_rfl)) rfl ?_
      intro i7_2
      refine JQ.x (JO.append 303 elem3 rfl rfl rfl (fun w hw => Src.ro Tryd.underlying44 (reads_cells (hw.blk (id := 3) rfl) (show (_ : List Value) = ([iv cur] : List Value) from rfl) rfl (by decide))) rfl (by omega) (by omega)) rfl ?_
      intro i7_3
      refine JQ.v (JV.assign rfl) rfl ?_
      refine JQ.nil ?_
      refine JQ.n_then ?_
      refine JQ.region ?_
      refine JQ.v (JV.loadV 1 rfl rfl Tryd.isAgg29 Tryd.sizeOf29 rfl) rfl ?_
      refine JQ.v (JV.move rfl) rfl ?_
      refine JQ.v (JV.callM Tryd.call21 (evs_cons rfl (evs_cons rfl evs_nil)) (fun w hw => rnext1_spec n kv ks (by omega) hv cur w (hw.reads (id := 100) rfl))) rfl ?_
      refine JQ.v (JV.move rfl) rfl ?_
      refine JQ.v (JV.extract rfl rfl) rfl ?_
      refine JQ.v (JV.extract rfl rfl) rfl ?_
      refine JQ.v (JV.assign rfl) rfl ?_
      refine JQ.v (JV.assign rfl) rfl ?_
      refine JQ.nil ?_
      refine JQ.n_block ?_
      refine JQ.n_then ?_
      exact JQ.nextI (pre ++ [cur], Pl.nextB ks cur, Pl.nextI ks cur, i7_3) (Pl.lineTo_next hs hI) (Pl.lft_next hs cur) (subk_cons rfl (subk_cons rfl (subk_cons rfl (subk_cons rfl subk_nil)))) (subr_cons rfl (subr_cons (by rw [List.length_append, List.map_append]; rfl) (subr_cons rfl subr_nil)))
    · subst h27
      have hpre := Pl.lineTo_end hI
      subst hpre
      refine JQ.exit ?_
      refine JQ.e_then ?_
      refine JQ.e_then ?_
      refine JQ.e_here ?_
      refine JQ.n_then ?_
      refine JQ.seq ?_
      refine JQ.region ?_
      refine JQ.v (JV.move rfl) rfl ?_
      refine JQ.v (JV.assign rfl) rfl ?_
      refine JQ.v (JV.assign rfl) rfl ?_
      refine JQ.nil ?_
      refine JQ.n_then ?_
      refine JQ.ret ?_
      refine JQ.doneTT Tryd.results23 rfl rfl ?_
      exact fun w hw => ⟨_, by rw [Pl.getE, if_pos hix], by rw [Pl.lineL, if_pos hix]; exact newRo_row (hw.ok 303 _ rfl), hw.below⟩

theorem newest_spec (n : Int) (kv : Value) (ks : List Pl.Key) (hl : ks.length ≤ 1048576) (hs : Pl.incr ks) (hv : verOk ks) (id : Int) (w : World) (hr : Reads w kv 9 ks.length (kcs ks)) :
    Calls Tryd.prog 12 #[.agg [iv n, kv].toArray, iv id] w fun e w' => e = .returned (.tuple #[iv (Pl.newest ks id), iv (Pl.getE ks id)]) ∧ Below w.heap.size w w' := by
  
  refine enterA (vs := [_, _]) Tryd.func12 rfl 23 rfl [(100, .ro kv 9 ks.length (kcs ks))] (MemOk.start1 100 hr) ?_
  refine JQ.seq ?_
  refine JQ.region ?_
  refine JQ.x (JO.box 1 rfl rfl) rfl ?_
  intro i0_0
  refine JQ.v (JV.assign rfl) rfl ?_
  refine JQ.v (JV.assign rfl) rfl ?_
  refine JQ.nil ?_
  refine JQ.n_then ?_
  refine JQ.seq ?_
  refine JQ.region ?_
  refine JQ.v (JV.loadV 1 rfl rfl Tryd.isAgg29 Tryd.sizeOf29 rfl) rfl ?_
  refine JQ.v (JV.move rfl) rfl ?_
  refine JQ.x (JO.callNew 50 (fun v => .tuple #[v, iv (Pl.getE ks id)]) Tryd.call14 (evs_cons rfl (evs_cons rfl evs_nil)) (fun w hw => lineS_spec n kv ks hl hs hv id w (hw.reads (id := 100) rfl))) rfl ?_
  intro i1_2
  refine JQ.v (JV.move rfl) rfl ?_
  refine JQ.v (JV.extract rfl rfl) rfl ?_
  refine JQ.v (JV.extract rfl rfl) rfl ?_
  refine JQ.v (JV.assign rfl) rfl ?_
  refine JQ.v (JV.assign rfl) rfl ?_
  refine JQ.nil ?_
  refine JQ.n_then ?_
  refine JQ.seq ?_
  refine JQ.seq ?_
  refine JQ.region ?_
  refine JQ.v (JV.move rfl) rfl ?_
  by_cases hs2_1 : Pl.getE ks id ≠ 0
  · refine JQ.v (JV.tt (JV.neqI rfl rfl) hs2_1) rfl ?_
    refine JQ.nil ?_
    refine JQ.n_then ?_
    refine JQ.condT rfl ?_
    refine JQ.seq ?_
    have hno : ¬ Pl.ix ks id < ks.length := fun h => hs2_1 (by rw [Pl.getE, if_pos h])
    refine JQ.region ?_
    refine JQ.v (JV.move rfl) rfl ?_
    refine JQ.v (JV.assign rfl) rfl ?_
    refine JQ.v (JV.assign rfl) rfl ?_
    refine JQ.nil ?_
    refine JQ.n_then ?_
    refine JQ.ret ?_
    refine JQ.r_then ?_
    refine JQ.doneTT Tryd.results12 rfl rfl ?_
    exact fun w hw => ⟨by rw [Pl.newest, Pl.lineL, if_neg hno]; rfl, hw.below⟩
  · refine JQ.v (JV.ff (JV.neqI rfl rfl) hs2_1) rfl ?_
    refine JQ.nil ?_
    refine JQ.n_then ?_
    refine JQ.condF rfl ?_
    refine JQ.skip ?_
    refine JQ.n_then ?_
    refine JQ.seq ?_
    have hix : Pl.ix ks id < ks.length := getE_ok (Decidable.not_not.1 hs2_1)
    have hlp : 0 < (Pl.lineL ks id).length := by rw [Pl.lineL, if_pos hix]; exact Pl.line_ne hs id
    have hlq : (Pl.lineL ks id).length ≤ ks.length + 1 := by rw [Pl.lineL, if_pos hix]; exact Pl.line_len hs id
    refine JQ.region ?_
    refine JQ.v (JV.move rfl) rfl ?_
    refine JQ.v (JV.move rfl) rfl ?_
    refine JQ.v (JV.lenRo 50 rfl rfl Tryd.runUnderlying44) rfl ?_
    refine JQ.v (JV.subN (b := 1) rfl rfl (by omega)) rfl ?_
    refine JQ.v (JV.idxRo1 50 rfl rfl rfl Tryd.runUnderlying44 Tryd.sizeOf3 (by decide) (by omega)) rfl ?_
    refine JQ.v (JV.loadR 50 rfl rfl Tryd.isAgg3 (ivs_at (by omega))) rfl ?_
    refine JQ.v (JV.assign rfl) rfl ?_
    refine JQ.v (JV.assign rfl) rfl ?_
    refine JQ.nil ?_
    refine JQ.n_then ?_
    refine JQ.ret ?_
    refine JQ.doneTT Tryd.results12 rfl rfl ?_
    exact fun w hw => ⟨by rw [Pl.getE, if_pos hix]; rfl, hw.below⟩

theorem rnewest_spec (n : Int) (kv : Value) (ks : List Pl.Key) (hl : ks.length ≤ 1048576) (hs : Pl.incr ks) (hv : verOk ks) (id : Int) (w : World) (hr : Reads w kv 9 ks.length (kcs ks)) :
    Calls Tryd.prog 22 #[.agg [iv n, kv].toArray, iv id] w fun e w' => e = .returned (.tuple #[iv (Pl.newest ks id), iv (Pl.getE ks id)]) ∧ Below w.heap.size w w' := by
  
  refine enterA (vs := [_, _]) Tryd.func22 rfl 23 rfl [(100, .ro kv 9 ks.length (kcs ks))] (MemOk.start1 100 hr) ?_
  refine JQ.seq ?_
  refine JQ.region ?_
  refine JQ.x (JO.box 1 rfl rfl) rfl ?_
  intro i0_0
  refine JQ.v (JV.assign rfl) rfl ?_
  refine JQ.v (JV.assign rfl) rfl ?_
  refine JQ.nil ?_
  refine JQ.n_then ?_
  refine JQ.seq ?_
  refine JQ.region ?_
  refine JQ.v (JV.loadV 1 rfl rfl Tryd.isAgg29 Tryd.sizeOf29 rfl) rfl ?_
  refine JQ.v (JV.move rfl) rfl ?_
  refine JQ.x (JO.callNew 50 (fun v => .tuple #[v, iv (Pl.getE ks id)]) Tryd.call23 (evs_cons rfl (evs_cons rfl evs_nil)) (fun w hw => rlineS_spec n kv ks hl hs hv id w (hw.reads (id := 100) rfl))) rfl ?_
  intro i1_2
  refine JQ.v (JV.move rfl) rfl ?_
  refine JQ.v (JV.extract rfl rfl) rfl ?_
  refine JQ.v (JV.extract rfl rfl) rfl ?_
  refine JQ.v (JV.assign rfl) rfl ?_
  refine JQ.v (JV.assign rfl) rfl ?_
  refine JQ.nil ?_
  refine JQ.n_then ?_
  refine JQ.seq ?_
  refine JQ.seq ?_
  refine JQ.region ?_
  refine JQ.v (JV.move rfl) rfl ?_
  by_cases hs2_1 : Pl.getE ks id ≠ 0
  · refine JQ.v (JV.tt (JV.neqI rfl rfl) hs2_1) rfl ?_
    refine JQ.nil ?_
    refine JQ.n_then ?_
    refine JQ.condT rfl ?_
    refine JQ.seq ?_
    have hno : ¬ Pl.ix ks id < ks.length := fun h => hs2_1 (by rw [Pl.getE, if_pos h])
    refine JQ.region ?_
    refine JQ.v (JV.move rfl) rfl ?_
    refine JQ.v (JV.assign rfl) rfl ?_
    refine JQ.v (JV.assign rfl) rfl ?_
    refine JQ.nil ?_
    refine JQ.n_then ?_
    refine JQ.ret ?_
    refine JQ.r_then ?_
    refine JQ.doneTT Tryd.results22 rfl rfl ?_
    exact fun w hw => ⟨by rw [Pl.newest, Pl.lineL, if_neg hno]; rfl, hw.below⟩
  · refine JQ.v (JV.ff (JV.neqI rfl rfl) hs2_1) rfl ?_
    refine JQ.nil ?_
    refine JQ.n_then ?_
    refine JQ.condF rfl ?_
    refine JQ.skip ?_
    refine JQ.n_then ?_
    refine JQ.seq ?_
    have hix : Pl.ix ks id < ks.length := getE_ok (Decidable.not_not.1 hs2_1)
    have hlp : 0 < (Pl.lineL ks id).length := by rw [Pl.lineL, if_pos hix]; exact Pl.line_ne hs id
    have hlq : (Pl.lineL ks id).length ≤ ks.length + 1 := by rw [Pl.lineL, if_pos hix]; exact Pl.line_len hs id
    refine JQ.region ?_
    refine JQ.v (JV.move rfl) rfl ?_
    refine JQ.v (JV.move rfl) rfl ?_
    refine JQ.v (JV.lenRo 50 rfl rfl Tryd.runUnderlying44) rfl ?_
    refine JQ.v (JV.subN (b := 1) rfl rfl (by omega)) rfl ?_
    refine JQ.v (JV.idxRo1 50 rfl rfl rfl Tryd.runUnderlying44 Tryd.sizeOf3 (by decide) (by omega)) rfl ?_
    refine JQ.v (JV.loadR 50 rfl rfl Tryd.isAgg3 (ivs_at (by omega))) rfl ?_
    refine JQ.v (JV.assign rfl) rfl ?_
    refine JQ.v (JV.assign rfl) rfl ?_
    refine JQ.nil ?_
    refine JQ.n_then ?_
    refine JQ.ret ?_
    refine JQ.doneTT Tryd.results22 rfl rfl ?_
    exact fun w hw => ⟨by rw [Pl.getE, if_pos hix]; rfl, hw.below⟩
end Go.Fw
end
