/- What the reference functions compute, walked; the condition is that the tables read as they are laid. -/
import Derived.Test.YtbacjffnojaibaaDoorWka
import Derived.Test.YtbacjffnojaibaaDoorFwb
import Derived.Test.YtbacjffnojaibaaDoorPla
import Derived.Test.YtbacjffnojaibaaDoorProg
section
open Go.RowKit
set_option maxRecDepth 100000
set_option linter.unusedVariables false
set_option linter.unusedSimpArgs false
namespace Go.Fw
open Go.Proofs
theorem words_spec (v : Value) (bs : List UInt8) (hbs : bs.length = 64) (w : World) (hr : Reads w v 1 64 (bs.map b8)) :
    Calls Tryd.prog 87 #[v] w fun e w' => e = .returned (.agg ((Pl.sched bs).map u32).toArray) ∧ Below w.heap.size w w' := by
  
  refine enterA (vs := [_]) Tryd.func87 rfl 101 rfl [(100, .ro v 1 64 (bs.map b8))] (MemOk.start1 100 hr) ?_
  refine JQ.seq ?_
  refine JQ.region ?_
  refine JQ.x (JO.alloc 1 (zs := ((List.replicate 64 0).map u32)) Tryd.zeroValue136 rfl) rfl ?_
  intro i0_0
  refine JQ.nil ?_
  refine JQ.n_then ?_
  refine JQ.seq ?_
  refine JQ.region ?_
  refine JQ.x (JO.alloc 2 (zs := ((List.replicate 64 0).map u32)) Tryd.zeroValue136 rfl) rfl ?_
  intro i1_0
  refine JQ.nil ?_
  refine JQ.n_then ?_
  refine JQ.seq ?_
  refine JQ.seq ?_
  refine JQ.region ?_
  refine JQ.v (JV.assign rfl) rfl ?_
  refine JQ.nil ?_
  refine JQ.n_then ?_
  refine JQ.block ?_
  refine JQ.loopI (ι := Nat) (fun i => [(0, v), (2, .pointer (some ⟨i0_0, 0, none⟩)), (3, .pointer (some ⟨i1_0, 0, none⟩)), (4, .int .i64 ((i : Nat) : Int))]) (fun i => [(2, .cells i1_0 ((Pl.W bs i).map u32) 136 (0, 0)), (1, .cells i0_0 ((List.replicate 64 0).map u32) 136 (0, 0)), (100, .ro v 1 64 (bs.map b8))]) (fun i => i ≤ 16) (fun i => 16 - i) 0 (by omega) (subk_cons rfl (subk_cons rfl (subk_cons rfl (subk_cons rfl subk_nil)))) (subr_cons rfl (subr_cons rfl (subr_cons rfl subr_nil))) ?_
  intro i hi
  have hB := Pl.W_lt bs i
  refine JQ.seq ?_
  refine JQ.seq ?_
  refine JQ.region ?_
  refine JQ.v (JV.move rfl) rfl ?_
  refine JQ.v (JV.lssN (b := 16) rfl rfl) rfl ?_
  refine JQ.nil ?_
  refine JQ.n_then ?_
  refine JQ.condP rfl (fun h9 => ?_) (fun h9 => ?_)
  · refine JQ.skip ?_
    refine JQ.n_then ?_
    refine JQ.seq ?_
    refine JQ.block ?_
    refine JQ.any [_, _, _, _, _, _, _, _, _, _, _, _, _, _, _, _, _, _, _, _, _, _, _, _, _, _, _, _, _, _, _, _, _, _, _, _] [fun _ => [], fun _ => [], fun _ => [], fun _ => [], fun _ => [], fun _ => [], fun _ => [], fun _ => [], fun _ => [], fun _ => [], fun _ => [], fun _ => [], fun _ => [], fun _ => [], fun _ => [], fun _ => [], fun _ => [], fun _ => [], fun _ => [], fun _ => [], fun _ => [], fun _ => [], fun _ => [], fun _ => [], fun _ => [], fun _ => [], fun _ => [], fun _ => [], fun _ => [], fun _ => [], fun _ => [], fun _ => [], fun _ => [], fun _ => [], fun _ => [], _] [⟨[], [], [], []⟩, ⟨[], [], [], []⟩, ⟨[], [], [], []⟩, ⟨[], [], [], [2]⟩, ⟨[100], [], [], [1, 2, 3]⟩, ⟨[100], [], [], [1, 2, 3, 4]⟩, ⟨[], [], [], [1, 2, 3, 4, 5]⟩, ⟨[], [], [], [1, 2, 3, 4, 5, 6]⟩, ⟨[], [], [], []⟩, ⟨[], [], [], []⟩, ⟨[], [], [], [9]⟩, ⟨[], [], [], [9, 10]⟩, ⟨[100], [], [], [8, 9, 10, 11]⟩, ⟨[100], [], [], [8, 9, 10, 11, 12]⟩, ⟨[], [], [], [8, 9, 10, 11, 12, 13]⟩, ⟨[], [], [], [8, 9, 10, 11, 12, 13, 14]⟩, ⟨[], [], [], [1, 2, 3, 4, 5, 6, 7, 8, 9, 10, 11, 12, 13, 14, 15]⟩, ⟨[], [], [], []⟩, ⟨[], [], [], []⟩, ⟨[], [], [], [18]⟩, ⟨[], [], [], [18, 19]⟩, ⟨[100], [], [], [17, 18, 19, 20]⟩, ⟨[100], [], [], [17, 18, 19, 20, 21]⟩, ⟨[], [], [], [17, 18, 19, 20, 21, 22]⟩, ⟨[], [], [], [17, 18, 19, 20, 21, 22, 23]⟩, ⟨[], [], [], [1, 2, 3, 4, 5, 6, 7, 8, 9, 10, 11, 12, 13, 14, 15, 16, 17, 18, 19, 20, 21, 22, 23, 24]⟩, ⟨[], [], [], []⟩, ⟨[], [], [], []⟩, ⟨[], [], [], [27]⟩, ⟨[], [], [], [27, 28]⟩, ⟨[100], [], [], [26, 27, 28, 29]⟩, ⟨[100], [], [], [26, 27, 28, 29, 30]⟩, ⟨[], [], [], [26, 27, 28, 29, 30, 31]⟩, ⟨[], [], [], [1, 2, 3, 4, 5, 6, 7, 8, 9, 10, 11, 12, 13, 14, 15, 16, 17, 18, 19, 20, 21, 22, 23, 24, 25, 26, 27, 28, 29, 30, 31, 32]⟩, ⟨[], [], [], [0, 1, 2, 3, 4, 5, 6, 7, 8, 9, 10, 11, 12, 13, 14, 15, 16, 17, 18, 19, 20, 21, 22, 23, 24, 25, 26, 27, 28, 29, 30, 31, 32, 33]⟩, ⟨[], [2], [], [0, 1, 2, 3, 4, 5, 6, 7, 8, 9, 10, 11, 12, 13, 14, 15, 16, 17, 18, 19, 20, 21, 22, 23, 24, 25, 26, 27, 28, 29, 30, 31, 32, 33, 34]⟩] Tryd.mixed rfl (by kernel_rfl) ⟨Ob.v rfl (fun _ _ h => by cases h) (fun _ _ _ => rfl) (fun e L' hL => JV.move rfl),
            Ob.v rfl (fun _ _ h => by cases h) (fun _ _ _ => rfl) (fun e L' hL => JV.move rfl),
            Ob.v rfl (fun _ _ h => by cases h) (fun _ _ _ => rfl) (fun e L' hL => JV.move rfl),
            Ob.v rfl (fun _ _ h => by cases h) (fun _ _ _ => rfl) (fun e L' hL => JV.mulN (a := 4) rfl rfl (by omega)),
            Ob.v rfl (fun _ _ h => by cases h) (fun _ _ _ => rfl) (fun e L' hL => JV.idxRo1 100 rfl rfl ((hL 100 (by decide)).trans rfl) Tryd.runUnderlying30 Tryd.sizeOf5 (by decide) (by omega)),
            Ob.v rfl (fun _ _ h => by cases h) (fun _ _ _ => rfl) (fun e L' hL => JV.loadR 100 rfl ((hL 100 (by decide)).trans rfl) Tryd.isAgg5 (getB _ _ (by omega))),
            Ob.v rfl (fun _ _ h => by cases h) (fun _ _ _ => rfl) (fun e L' hL => JV.convK Tryd.runUnderlying5 Tryd.runUnderlying124 rfl (wrapB32 _)),
            Ob.v rfl (fun _ _ h => by cases h) (fun _ _ _ => rfl) (fun e L' hL => JV.shlU32 (b := 24) rfl rfl (by omega)),
            Ob.v rfl (fun _ _ h => by cases h) (fun _ _ _ => rfl) (fun e L' hL => JV.move rfl),
            Ob.v rfl (fun _ _ h => by cases h) (fun _ _ _ => rfl) (fun e L' hL => JV.move rfl),
            Ob.v rfl (fun _ _ h => by cases h) (fun _ _ _ => rfl) (fun e L' hL => JV.mulN (a := 4) rfl rfl (by omega)),
            Ob.v rfl (fun _ _ h => by cases h) (fun _ _ _ => rfl) (fun e L' hL => JV.addN (b := 1) rfl rfl (by omega)),
            Ob.v rfl (fun _ _ h => by cases h) (fun _ _ _ => rfl) (fun e L' hL => JV.idxRo1 100 rfl rfl ((hL 100 (by decide)).trans rfl) Tryd.runUnderlying30 Tryd.sizeOf5 (by decide) (by omega)),
            Ob.v rfl (fun _ _ h => by cases h) (fun _ _ _ => rfl) (fun e L' hL => JV.loadR 100 rfl ((hL 100 (by decide)).trans rfl) Tryd.isAgg5 (getB _ _ (by omega))),
            Ob.v rfl (fun _ _ h => by cases h) (fun _ _ _ => rfl) (fun e L' hL => JV.convK Tryd.runUnderlying5 Tryd.runUnderlying124 rfl (wrapB32 _)),
            Ob.v rfl (fun _ _ h => by cases h) (fun _ _ _ => rfl) (fun e L' hL => JV.shlU32 (b := 16) rfl rfl (by omega)),
            Ob.v rfl (fun _ _ h => by cases h) (fun _ _ _ => rfl) (fun e L' hL => JV.orU32 rfl rfl (Pl.mod_lt _) (Pl.mod_lt _)),
            Ob.v rfl (fun _ _ h => by cases h) (fun _ _ _ => rfl) (fun e L' hL => JV.move rfl),
            Ob.v rfl (fun _ _ h => by cases h) (fun _ _ _ => rfl) (fun e L' hL => JV.move rfl),
            Ob.v rfl (fun _ _ h => by cases h) (fun _ _ _ => rfl) (fun e L' hL => JV.mulN (a := 4) rfl rfl (by omega)),
            Ob.v rfl (fun _ _ h => by cases h) (fun _ _ _ => rfl) (fun e L' hL => JV.addN (b := 2) rfl rfl (by omega)),
            Ob.v rfl (fun _ _ h => by cases h) (fun _ _ _ => rfl) (fun e L' hL => JV.idxRo1 100 rfl rfl ((hL 100 (by decide)).trans rfl) Tryd.runUnderlying30 Tryd.sizeOf5 (by decide) (by omega)),
            Ob.v rfl (fun _ _ h => by cases h) (fun _ _ _ => rfl) (fun e L' hL => JV.loadR 100 rfl ((hL 100 (by decide)).trans rfl) Tryd.isAgg5 (getB _ _ (by omega))),
            Ob.v rfl (fun _ _ h => by cases h) (fun _ _ _ => rfl) (fun e L' hL => JV.convK Tryd.runUnderlying5 Tryd.runUnderlying124 rfl (wrapB32 _)),
            Ob.v rfl (fun _ _ h => by cases h) (fun _ _ _ => rfl) (fun e L' hL => JV.shlU32 (b := 8) rfl rfl (by omega)),
            Ob.v rfl (fun _ _ h => by cases h) (fun _ _ _ => rfl) (fun e L' hL => JV.orU32 rfl rfl (Pl.or_lt (Pl.mod_lt _) (Pl.mod_lt _)) (Pl.mod_lt _)),
            Ob.v rfl (fun _ _ h => by cases h) (fun _ _ _ => rfl) (fun e L' hL => JV.move rfl),
            Ob.v rfl (fun _ _ h => by cases h) (fun _ _ _ => rfl) (fun e L' hL => JV.move rfl),
            Ob.v rfl (fun _ _ h => by cases h) (fun _ _ _ => rfl) (fun e L' hL => JV.mulN (a := 4) rfl rfl (by omega)),
            Ob.v rfl (fun _ _ h => by cases h) (fun _ _ _ => rfl) (fun e L' hL => JV.addN (b := 3) rfl rfl (by omega)),
            Ob.v rfl (fun _ _ h => by cases h) (fun _ _ _ => rfl) (fun e L' hL => JV.idxRo1 100 rfl rfl ((hL 100 (by decide)).trans rfl) Tryd.runUnderlying30 Tryd.sizeOf5 (by decide) (by omega)),
            Ob.v rfl (fun _ _ h => by cases h) (fun _ _ _ => rfl) (fun e L' hL => JV.loadR 100 rfl ((hL 100 (by decide)).trans rfl) Tryd.isAgg5 (getB _ _ (by omega))),
            Ob.v rfl (fun _ _ h => by cases h) (fun _ _ _ => rfl) (fun e L' hL => JV.convK Tryd.runUnderlying5 Tryd.runUnderlying124 rfl (wrapB32 _)),
            Ob.v rfl (fun _ _ h => by cases h) (fun _ _ _ => rfl) (fun e L' hL => JV.orU32 rfl rfl (Pl.or_lt (Pl.or_lt (Pl.mod_lt _) (Pl.mod_lt _)) (Pl.mod_lt _)) (Pl.byte_lt _)),
            Ob.v rfl (fun _ _ h => by cases h) (fun _ _ _ => rfl) (fun e L' hL => JV.idxArr0 rfl rfl Tryd.runUnderlying136 Tryd.sizeOf124 (by omega)),
            Ob.s 2 rfl (fun _ _ h => by cases h) (fun _ _ _ => rfl) (fun e L' hL => JO.store1 2 rfl ((hL 2 (by decide)).trans rfl) rfl rfl Tryd.sizeOf124 (by simp [Pl.W_len]; omega)), trivial⟩ (fun ev5 => ?_)
    simp only [endF, endL, putF, List.nil_append, List.cons_append]
    rw [setU, Pl.or4]
    refine JQ.n_block ?_
    refine JQ.n_then ?_
    refine JQ.region ?_
    refine JQ.v (JV.move rfl) rfl ?_
    refine JQ.v (JV.addN (b := 1) rfl rfl (by omega)) rfl ?_
    refine JQ.v (JV.assign rfl) rfl ?_
    refine JQ.nil ?_
    refine JQ.n_then ?_
    exact JQ.nextI (i + 1) (by omega) (by omega) (subk_cons rfl (subk_cons rfl (subk_cons rfl (subk_cons rfl subk_nil)))) (subr_cons (by rw [← Pl.W_first bs i (by omega)]; rfl) (subr_cons rfl (subr_cons rfl subr_nil)))
  · refine JQ.exit ?_
    refine JQ.e_then ?_
    refine JQ.e_then ?_
    refine JQ.e_here ?_
    refine JQ.n_then ?_
    refine JQ.seq ?_
    refine JQ.seq ?_
    refine JQ.region ?_
    refine JQ.v (JV.assign rfl) rfl ?_
    refine JQ.nil ?_
    refine JQ.n_then ?_
    refine JQ.block ?_
    rw [show i = 16 from by omega]
    refine JQ.loopI (ι := Nat) (fun i => [(0, v), (2, .pointer (some ⟨i0_0, 0, none⟩)), (3, .pointer (some ⟨i1_0, 0, none⟩)), (5, .int .i64 ((i : Nat) : Int))]) (fun i => [(2, .cells i1_0 ((Pl.W bs i).map u32) 136 (0, 0)), (1, .cells i0_0 ((List.replicate 64 0).map u32) 136 (0, 0)), (100, .ro v 1 64 (bs.map b8))]) (fun i => 16 ≤ i ∧ i ≤ 64) (fun i => 64 - i) 16 (by omega) (subk_cons rfl (subk_cons rfl (subk_cons rfl (subk_cons rfl subk_nil)))) (subr_cons rfl (subr_cons rfl (subr_cons rfl subr_nil))) ?_
    intro i hi
    have hB := Pl.W_lt bs i
    refine JQ.seq ?_
    refine JQ.seq ?_
    refine JQ.region ?_
    refine JQ.v (JV.move rfl) rfl ?_
    refine JQ.v (JV.lssN (b := 64) rfl rfl) rfl ?_
    refine JQ.nil ?_
    refine JQ.n_then ?_
    refine JQ.condP rfl (fun h48 => ?_) (fun h48 => ?_)
    · refine JQ.skip ?_
      refine JQ.n_then ?_
      refine JQ.seq ?_
      refine JQ.block ?_
      refine JQ.seq ?_
      refine JQ.any [_, _, _, _, _, _, _, _, _, _, _, _, _, _, _, _, _, _] [fun _ => [], fun _ => [], fun _ => [], fun _ => [], fun _ => [], fun _ => [], fun _ => [], fun _ => [], fun _ => [], fun _ => [], fun _ => [], fun _ => [], fun _ => [], fun _ => [], fun _ => [], fun _ => [], fun _ => [], fun _ => []] [⟨[], [], [], []⟩, ⟨[], [], [], [0]⟩, ⟨[], [], [], [0, 1]⟩, ⟨[2], [], [], [0, 1, 2]⟩, ⟨[], [], [], [0, 1, 2, 3]⟩, ⟨[], [], [], []⟩, ⟨[], [], [], [5]⟩, ⟨[], [], [], [5, 6]⟩, ⟨[2], [], [], [5, 6, 7]⟩, ⟨[], [], [], [0, 1, 2, 3, 4, 5, 6, 7, 8]⟩, ⟨[], [], [], [0, 1, 2, 3, 4, 5, 6, 7, 8, 9]⟩, ⟨[], [], [], []⟩, ⟨[], [], [], [11]⟩, ⟨[], [], [], [11, 12]⟩, ⟨[2], [], [], [11, 12, 13]⟩, ⟨[], [], [], [11, 12, 13, 14]⟩, ⟨[], [], [], [0, 1, 2, 3, 4, 5, 6, 7, 8, 9, 10, 11, 12, 13, 14, 15]⟩, ⟨[], [], [], [0, 1, 2, 3, 4, 5, 6, 7, 8, 9, 10, 11, 12, 13, 14, 15, 16]⟩] Tryd.mixed rfl (by kernel_rfl) ⟨Ob.v rfl (fun _ _ h => by cases h) (fun _ _ _ => rfl) (fun e L' hL => JV.move rfl),
                Ob.v rfl (fun _ _ h => by cases h) (fun _ _ _ => rfl) (fun e L' hL => JV.subN (b := 15) rfl rfl (by omega)),
                Ob.v rfl (fun _ _ h => by cases h) (fun _ _ _ => rfl) (fun e L' hL => JV.idxArr0 rfl rfl Tryd.runUnderlying136 Tryd.sizeOf124 (by omega)),
                Ob.v rfl (fun _ _ h => by cases h) (fun _ _ _ => rfl) (fun e L' hL => JV.load1 2 rfl ((hL 2 (by decide)).trans rfl) Tryd.isAgg124 (getU _ _ (by rw [Pl.W_len]; omega))),
                Ob.v rfl (fun _ _ h => by cases h) (fun _ _ _ => rfl) (fun e L' hL => JV.call Tryd.call88 (evs_cons rfl (evs_cons rfl evs_nil)) (rrotr _ 7 (hB _) (by omega) (by omega))),
                Ob.v rfl (fun _ _ h => by cases h) (fun _ _ _ => rfl) (fun e L' hL => JV.move rfl),
                Ob.v rfl (fun _ _ h => by cases h) (fun _ _ _ => rfl) (fun e L' hL => JV.subN (b := 15) rfl rfl (by omega)),
                Ob.v rfl (fun _ _ h => by cases h) (fun _ _ _ => rfl) (fun e L' hL => JV.idxArr0 rfl rfl Tryd.runUnderlying136 Tryd.sizeOf124 (by omega)),
                Ob.v rfl (fun _ _ h => by cases h) (fun _ _ _ => rfl) (fun e L' hL => JV.load1 2 rfl ((hL 2 (by decide)).trans rfl) Tryd.isAgg124 (getU _ _ (by rw [Pl.W_len]; omega))),
                Ob.v rfl (fun _ _ h => by cases h) (fun _ _ _ => rfl) (fun e L' hL => JV.call Tryd.call88 (evs_cons rfl (evs_cons rfl evs_nil)) (rrotr _ 18 (hB _) (by omega) (by omega))),
                Ob.v rfl (fun _ _ h => by cases h) (fun _ _ _ => rfl) (fun e L' hL => JV.xorU32 rfl rfl (by repeat (first | assumption | exact hB _ | apply Pl.xor_lt | apply Pl.mix_lt | apply Pl.rotr_lt | apply Pl.and_lt | apply Pl.or_lt | apply Pl.div_lt | exact Pl.mod_lt _ | exact Pl.byte_lt _ | omega)) (by repeat (first | assumption | exact hB _ | apply Pl.xor_lt | apply Pl.mix_lt | apply Pl.rotr_lt | apply Pl.and_lt | apply Pl.or_lt | apply Pl.div_lt | exact Pl.mod_lt _ | exact Pl.byte_lt _ | omega))),
                Ob.v rfl (fun _ _ h => by cases h) (fun _ _ _ => rfl) (fun e L' hL => JV.move rfl),
                Ob.v rfl (fun _ _ h => by cases h) (fun _ _ _ => rfl) (fun e L' hL => JV.subN (b := 15) rfl rfl (by omega)),
                Ob.v rfl (fun _ _ h => by cases h) (fun _ _ _ => rfl) (fun e L' hL => JV.idxArr0 rfl rfl Tryd.runUnderlying136 Tryd.sizeOf124 (by omega)),
                Ob.v rfl (fun _ _ h => by cases h) (fun _ _ _ => rfl) (fun e L' hL => JV.load1 2 rfl ((hL 2 (by decide)).trans rfl) Tryd.isAgg124 (getU _ _ (by rw [Pl.W_len]; omega))),
                Ob.v rfl (fun _ _ h => by cases h) (fun _ _ _ => rfl) (fun e L' hL => JV.shrU32 (b := 3) rfl rfl (by omega)),
                Ob.v rfl (fun _ _ h => by cases h) (fun _ _ _ => rfl) (fun e L' hL => JV.xorU32 rfl rfl (by repeat (first | assumption | exact hB _ | apply Pl.xor_lt | apply Pl.mix_lt | apply Pl.rotr_lt | apply Pl.and_lt | apply Pl.or_lt | apply Pl.div_lt | exact Pl.mod_lt _ | exact Pl.byte_lt _ | omega)) (by repeat (first | assumption | exact hB _ | apply Pl.xor_lt | apply Pl.mix_lt | apply Pl.rotr_lt | apply Pl.and_lt | apply Pl.or_lt | apply Pl.div_lt | exact Pl.mod_lt _ | exact Pl.byte_lt _ | omega))),
                Ob.v rfl (fun _ _ h => by cases h) (fun _ _ _ => rfl) (fun e L' hL => JV.assign rfl), trivial⟩ (fun ev9 => ?_)
      simp only [endF, endL, putF, List.nil_append, List.cons_append]
      refine JQ.n_then ?_
      refine JQ.seq ?_
      refine JQ.any [_, _, _, _, _, _, _, _, _, _, _, _, _, _, _, _, _, _] [fun _ => [], fun _ => [], fun _ => [], fun _ => [], fun _ => [], fun _ => [], fun _ => [], fun _ => [], fun _ => [], fun _ => [], fun _ => [], fun _ => [], fun _ => [], fun _ => [], fun _ => [], fun _ => [], fun _ => [], fun _ => []] [⟨[], [], [], []⟩, ⟨[], [], [], [0]⟩, ⟨[], [], [], [0, 1]⟩, ⟨[2], [], [], [0, 1, 2]⟩, ⟨[], [], [], [0, 1, 2, 3]⟩, ⟨[], [], [], []⟩, ⟨[], [], [], [5]⟩, ⟨[], [], [], [5, 6]⟩, ⟨[2], [], [], [5, 6, 7]⟩, ⟨[], [], [], [0, 1, 2, 3, 4, 5, 6, 7, 8]⟩, ⟨[], [], [], [0, 1, 2, 3, 4, 5, 6, 7, 8, 9]⟩, ⟨[], [], [], []⟩, ⟨[], [], [], [11]⟩, ⟨[], [], [], [11, 12]⟩, ⟨[2], [], [], [11, 12, 13]⟩, ⟨[], [], [], [11, 12, 13, 14]⟩, ⟨[], [], [], [0, 1, 2, 3, 4, 5, 6, 7, 8, 9, 10, 11, 12, 13, 14, 15]⟩, ⟨[], [], [], [0, 1, 2, 3, 4, 5, 6, 7, 8, 9, 10, 11, 12, 13, 14, 15, 16]⟩] Tryd.mixed rfl (by kernel_rfl) ⟨Ob.v rfl (fun _ _ h => by cases h) (fun _ _ _ => rfl) (fun e L' hL => JV.move rfl),
                Ob.v rfl (fun _ _ h => by cases h) (fun _ _ _ => rfl) (fun e L' hL => JV.subN (b := 2) rfl rfl (by omega)),
                Ob.v rfl (fun _ _ h => by cases h) (fun _ _ _ => rfl) (fun e L' hL => JV.idxArr0 rfl rfl Tryd.runUnderlying136 Tryd.sizeOf124 (by omega)),
                Ob.v rfl (fun _ _ h => by cases h) (fun _ _ _ => rfl) (fun e L' hL => JV.load1 2 rfl ((hL 2 (by decide)).trans rfl) Tryd.isAgg124 (getU _ _ (by rw [Pl.W_len]; omega))),
                Ob.v rfl (fun _ _ h => by cases h) (fun _ _ _ => rfl) (fun e L' hL => JV.call Tryd.call88 (evs_cons rfl (evs_cons rfl evs_nil)) (rrotr _ 17 (hB _) (by omega) (by omega))),
                Ob.v rfl (fun _ _ h => by cases h) (fun _ _ _ => rfl) (fun e L' hL => JV.move rfl),
                Ob.v rfl (fun _ _ h => by cases h) (fun _ _ _ => rfl) (fun e L' hL => JV.subN (b := 2) rfl rfl (by omega)),
                Ob.v rfl (fun _ _ h => by cases h) (fun _ _ _ => rfl) (fun e L' hL => JV.idxArr0 rfl rfl Tryd.runUnderlying136 Tryd.sizeOf124 (by omega)),
                Ob.v rfl (fun _ _ h => by cases h) (fun _ _ _ => rfl) (fun e L' hL => JV.load1 2 rfl ((hL 2 (by decide)).trans rfl) Tryd.isAgg124 (getU _ _ (by rw [Pl.W_len]; omega))),
                Ob.v rfl (fun _ _ h => by cases h) (fun _ _ _ => rfl) (fun e L' hL => JV.call Tryd.call88 (evs_cons rfl (evs_cons rfl evs_nil)) (rrotr _ 19 (hB _) (by omega) (by omega))),
                Ob.v rfl (fun _ _ h => by cases h) (fun _ _ _ => rfl) (fun e L' hL => JV.xorU32 rfl rfl (by repeat (first | assumption | exact hB _ | apply Pl.xor_lt | apply Pl.mix_lt | apply Pl.rotr_lt | apply Pl.and_lt | apply Pl.or_lt | apply Pl.div_lt | exact Pl.mod_lt _ | exact Pl.byte_lt _ | omega)) (by repeat (first | assumption | exact hB _ | apply Pl.xor_lt | apply Pl.mix_lt | apply Pl.rotr_lt | apply Pl.and_lt | apply Pl.or_lt | apply Pl.div_lt | exact Pl.mod_lt _ | exact Pl.byte_lt _ | omega))),
                Ob.v rfl (fun _ _ h => by cases h) (fun _ _ _ => rfl) (fun e L' hL => JV.move rfl),
                Ob.v rfl (fun _ _ h => by cases h) (fun _ _ _ => rfl) (fun e L' hL => JV.subN (b := 2) rfl rfl (by omega)),
                Ob.v rfl (fun _ _ h => by cases h) (fun _ _ _ => rfl) (fun e L' hL => JV.idxArr0 rfl rfl Tryd.runUnderlying136 Tryd.sizeOf124 (by omega)),
                Ob.v rfl (fun _ _ h => by cases h) (fun _ _ _ => rfl) (fun e L' hL => JV.load1 2 rfl ((hL 2 (by decide)).trans rfl) Tryd.isAgg124 (getU _ _ (by rw [Pl.W_len]; omega))),
                Ob.v rfl (fun _ _ h => by cases h) (fun _ _ _ => rfl) (fun e L' hL => JV.shrU32 (b := 10) rfl rfl (by omega)),
                Ob.v rfl (fun _ _ h => by cases h) (fun _ _ _ => rfl) (fun e L' hL => JV.xorU32 rfl rfl (by repeat (first | assumption | exact hB _ | apply Pl.xor_lt | apply Pl.mix_lt | apply Pl.rotr_lt | apply Pl.and_lt | apply Pl.or_lt | apply Pl.div_lt | exact Pl.mod_lt _ | exact Pl.byte_lt _ | omega)) (by repeat (first | assumption | exact hB _ | apply Pl.xor_lt | apply Pl.mix_lt | apply Pl.rotr_lt | apply Pl.and_lt | apply Pl.or_lt | apply Pl.div_lt | exact Pl.mod_lt _ | exact Pl.byte_lt _ | omega))),
                Ob.v rfl (fun _ _ h => by cases h) (fun _ _ _ => rfl) (fun e L' hL => JV.assign rfl), trivial⟩ (fun ev10 => ?_)
      simp only [endF, endL, putF, List.nil_append, List.cons_append]
      refine JQ.n_then ?_
      refine JQ.any [_, _, _, _, _, _, _, _, _, _, _, _, _, _, _, _] [fun _ => [], fun _ => [], fun _ => [], fun _ => [], fun _ => [], fun _ => [], fun _ => [], fun _ => [], fun _ => [], fun _ => [], fun _ => [], fun _ => [], fun _ => [], fun _ => [], fun _ => [], _] [⟨[], [], [], []⟩, ⟨[], [], [], []⟩, ⟨[], [], [], [1]⟩, ⟨[], [], [], [1, 2]⟩, ⟨[2], [], [], [1, 2, 3]⟩, ⟨[], [], [], []⟩, ⟨[], [], [], [1, 2, 3, 4, 5]⟩, ⟨[], [], [], []⟩, ⟨[], [], [], [7]⟩, ⟨[], [], [], [7, 8]⟩, ⟨[2], [], [], [7, 8, 9]⟩, ⟨[], [], [], [1, 2, 3, 4, 5, 6, 7, 8, 9, 10]⟩, ⟨[], [], [], []⟩, ⟨[], [], [], [1, 2, 3, 4, 5, 6, 7, 8, 9, 10, 11, 12]⟩, ⟨[], [], [], [0, 1, 2, 3, 4, 5, 6, 7, 8, 9, 10, 11, 12, 13]⟩, ⟨[], [2], [], [0, 1, 2, 3, 4, 5, 6, 7, 8, 9, 10, 11, 12, 13, 14]⟩] Tryd.mixed rfl (by kernel_rfl) ⟨Ob.v rfl (fun _ _ h => by cases h) (fun _ _ _ => rfl) (fun e L' hL => JV.move rfl),
                Ob.v rfl (fun _ _ h => by cases h) (fun _ _ _ => rfl) (fun e L' hL => JV.move rfl),
                Ob.v rfl (fun _ _ h => by cases h) (fun _ _ _ => rfl) (fun e L' hL => JV.subN (b := 16) rfl rfl (by omega)),
                Ob.v rfl (fun _ _ h => by cases h) (fun _ _ _ => rfl) (fun e L' hL => JV.idxArr0 rfl rfl Tryd.runUnderlying136 Tryd.sizeOf124 (by omega)),
                Ob.v rfl (fun _ _ h => by cases h) (fun _ _ _ => rfl) (fun e L' hL => JV.load1 2 rfl ((hL 2 (by decide)).trans rfl) Tryd.isAgg124 (getU _ _ (by rw [Pl.W_len]; omega))),
                Ob.v rfl (fun _ _ h => by cases h) (fun _ _ _ => rfl) (fun e L' hL => JV.move rfl),
                Ob.v rfl (fun _ _ h => by cases h) (fun _ _ _ => rfl) (fun e L' hL => JV.addU32 rfl rfl),
                Ob.v rfl (fun _ _ h => by cases h) (fun _ _ _ => rfl) (fun e L' hL => JV.move rfl),
                Ob.v rfl (fun _ _ h => by cases h) (fun _ _ _ => rfl) (fun e L' hL => JV.subN (b := 7) rfl rfl (by omega)),
                Ob.v rfl (fun _ _ h => by cases h) (fun _ _ _ => rfl) (fun e L' hL => JV.idxArr0 rfl rfl Tryd.runUnderlying136 Tryd.sizeOf124 (by omega)),
                Ob.v rfl (fun _ _ h => by cases h) (fun _ _ _ => rfl) (fun e L' hL => JV.load1 2 rfl ((hL 2 (by decide)).trans rfl) Tryd.isAgg124 (getU _ _ (by rw [Pl.W_len]; omega))),
                Ob.v rfl (fun _ _ h => by cases h) (fun _ _ _ => rfl) (fun e L' hL => JV.addU32 rfl rfl),
                Ob.v rfl (fun _ _ h => by cases h) (fun _ _ _ => rfl) (fun e L' hL => JV.move rfl),
                Ob.v rfl (fun _ _ h => by cases h) (fun _ _ _ => rfl) (fun e L' hL => JV.addU32 rfl rfl),
                Ob.v rfl (fun _ _ h => by cases h) (fun _ _ _ => rfl) (fun e L' hL => JV.idxArr0 rfl rfl Tryd.runUnderlying136 Tryd.sizeOf124 (by omega)),
                Ob.s 2 rfl (fun _ _ h => by cases h) (fun _ _ _ => rfl) (fun e L' hL => JO.store1 2 rfl ((hL 2 (by decide)).trans rfl) rfl rfl Tryd.sizeOf124 (by simp [Pl.W_len]; omega)), trivial⟩ (fun ev11 => ?_)
      simp only [endF, endL, putF, List.nil_append, List.cons_append]
      rw [setU]
      refine JQ.n_block ?_
      refine JQ.n_then ?_
      refine JQ.region ?_
      refine JQ.v (JV.move rfl) rfl ?_
      refine JQ.v (JV.addN (b := 1) rfl rfl (by omega)) rfl ?_
      refine JQ.v (JV.assign rfl) rfl ?_
      refine JQ.nil ?_
      refine JQ.n_then ?_
      exact JQ.nextI (i + 1) (by omega) (by omega) (subk_cons rfl (subk_cons rfl (subk_cons rfl (subk_cons rfl subk_nil)))) (subr_cons (by simp only [Pl.W, Pl.nxt, if_neg (show ¬ i < 16 by omega)]; rfl) (subr_cons rfl (subr_cons rfl subr_nil)))
    · refine JQ.exit ?_
      refine JQ.e_then ?_
      refine JQ.e_then ?_
      refine JQ.e_here ?_
      refine JQ.n_then ?_
      refine JQ.seq ?_
      refine JQ.region ?_
      refine JQ.v (JV.loadV 2 rfl rfl Tryd.isAgg136 Tryd.sizeOf136 (by simp [Pl.W_len])) rfl ?_
      refine JQ.s (JO.storeV 1 rfl rfl rfl (allU _) Tryd.sizeOf136 (by simp [Pl.W_len]) (by simp)) ?_
      refine JQ.nil ?_
      refine JQ.n_then ?_
      refine JQ.ret ?_
      refine JQ.doneC 1 Tryd.results87 rfl rfl Tryd.isAgg136 Tryd.sizeOf136 (by simp [Pl.W_len]) ?_
      exact fun w hw => ⟨by rw [show i = 64 from by omega]; rfl, hw.below⟩

theorem padded_spec (v : Value) (m : List UInt8) (hm : m.length ≤ 2199023255552) (w : World) (hr : Reads w v 1 m.length (m.map b8)) :
    Calls Tryd.prog 86 #[v] w fun e w' => ∃ v, e = .returned v ∧ w'.ownsRow w.heap.size 5 1 v (Pl.padded m).length ((Pl.padded m).map b8) ∧ Below w.heap.size w w' := by
  
  refine enterA (vs := [_]) Tryd.func86 rfl 37 rfl [(100, .ro v 1 m.length (m.map b8))] (MemOk.start1 100 hr) ?_
  refine JQ.seq ?_
  refine JQ.region ?_
  refine JQ.v (JV.assign rfl) rfl ?_
  refine JQ.nil ?_
  refine JQ.n_then ?_
  refine JQ.seq ?_
  have hz := Pl.zeros_le m.length
  refine JQ.region ?_
  refine JQ.x (JO.buildSlice 1 (us := []) (e := 5) evp_nil (fun w => by kernel_rfl)) rfl ?_
  intro i1_0
  refine JQ.rowOf (n := 0) (esz := 1) 1 rfl rfl (by omega) ?_
  refine JQ.v (JV.move rfl) rfl ?_
  refine JQ.x (JO.append 1 elem5 rfl rfl rfl (fun w hw => Src.rd Tryd.underlying30 (hw.reads (id := 100) rfl)) (allB _) (by omega) (by omega)) rfl ?_
  intro i1_2
  refine JQ.v (JV.assign rfl) rfl ?_
  refine JQ.nil ?_
  refine JQ.n_then ?_
  refine JQ.seq ?_
  refine JQ.region ?_
  refine JQ.v (JV.move rfl) rfl ?_
  refine JQ.x (JO.buildSlice 2 (us := [.int .u8 128]) (e := 5) (evp_cons rfl evp_nil) (fun w => by kernel_rfl)) rfl ?_
  intro i2_1
  refine JQ.x (JO.append 1 elem5 rfl rfl rfl (fun w hw => Src.ro Tryd.underlying30 (reads_cells (hw.blk (id := 2) rfl) (show (_ : List Value) = ([.int .u8 128] : List Value) from rfl) rfl (by decide))) rfl (by omega) (by omega)) rfl ?_
  intro i2_2
  refine JQ.v (JV.assign rfl) rfl ?_
  refine JQ.nil ?_
  refine JQ.n_then ?_
  refine JQ.seq ?_
  refine JQ.block ?_
  refine JQ.loopI (ι := Nat × Value) (fun i => [(0, v), (3, i.2)]) (fun i => [(100, .ro v 1 m.length (m.map b8)), (1, .row i.2 5 1 (m.length + 1 + i.1) ((m ++ 128 :: List.replicate i.1 0).map b8))]) (fun i => i.1 ≤ Pl.zeros m.length) (fun i => Pl.zeros m.length - i.1) (0, _) (Nat.zero_le _) (subk_cons rfl (subk_cons rfl subk_nil)) (subr_cons rfl (subr_cons (by simp [b8]; rfl) subr_nil)) ?_
  intro i hi
  refine JQ.seq ?_
  refine JQ.seq ?_
  refine JQ.region ?_
  refine JQ.v (JV.move rfl) rfl ?_
  refine JQ.v (JV.lenRow 1 rfl rfl Tryd.runUnderlying30) rfl ?_
  refine JQ.v (JV.remN (b := 64) rfl rfl (by omega)) rfl ?_
  refine JQ.v (JV.neqN (b := 56) rfl rfl) rfl ?_
  refine JQ.nil ?_
  refine JQ.n_then ?_
  refine JQ.condP rfl (fun h15 => ?_) (fun h15 => ?_)
  · refine JQ.skip ?_
    refine JQ.n_then ?_
    refine JQ.block ?_
    refine JQ.region ?_
    refine JQ.v (JV.move rfl) rfl ?_
    refine JQ.x (JO.buildSlice 3 (us := [.int .u8 0]) (e := 5) (evp_cons rfl evp_nil) (fun w => by kernel_rfl)) rfl ?_
    intro i4_1
    refine JQ.x (JO.append 1 elem5 rfl rfl rfl (fun w hw => Src.ro Tryd.underlying30 (reads_cells (hw.blk (id := 3) rfl) (show (_ : List Value) = ([.int .u8 0] : List Value) from rfl) rfl (by decide))) rfl (by omega) (by omega)) rfl ?_
    intro i4_2
    rw [snoc0, List.append_assoc, show ((128 : UInt8) :: List.replicate i.1 0) ++ [0] = 128 :: List.replicate (i.1 + 1) 0 from by rw [List.cons_append, ← List.replicate_succ'], show m.length + 1 + i.1 + 1 = m.length + 1 + (i.1 + 1) from by omega]
    refine JQ.v (JV.assign rfl) rfl ?_
    refine JQ.nil ?_
    refine JQ.n_block ?_
    refine JQ.n_then ?_
    exact JQ.nextI (i.1 + 1, i4_2) (by show i.1 + 1 ≤ _; unfold Pl.zeros at hi ⊢; omega) (by show Pl.zeros m.length - (i.1 + 1) < Pl.zeros m.length - i.1; unfold Pl.zeros at hi ⊢; omega) (subk_cons rfl (subk_cons rfl subk_nil)) (subr_cons rfl (subr_cons rfl subr_nil))
  · refine JQ.exit ?_
    refine JQ.e_then ?_
    refine JQ.e_then ?_
    refine JQ.e_here ?_
    refine JQ.n_then ?_
    refine JQ.seq ?_
    refine JQ.region ?_
    refine JQ.v (JV.move rfl) rfl ?_
    refine JQ.v (JV.lenRo 100 rfl rfl Tryd.runUnderlying30) rfl ?_
    refine JQ.v (JV.convK Tryd.runUnderlying3 Tryd.runUnderlying126 rfl ((wrap_u64 (by omega)))) rfl ?_
    refine JQ.v (JV.mulU64 (a := 8) rfl rfl) rfl ?_
    refine JQ.v (JV.assign rfl) rfl ?_
    refine JQ.nil ?_
    refine JQ.n_then ?_
    refine JQ.seq ?_
    refine JQ.seq ?_
    refine JQ.region ?_
    refine JQ.v (JV.assign rfl) rfl ?_
    refine JQ.nil ?_
    refine JQ.n_then ?_
    refine JQ.block ?_
    have hz2 : i.1 = Pl.zeros m.length := by unfold Pl.zeros at hi ⊢; omega
    rw [hz2]
    refine JQ.loopI (ι := Nat × Value) (fun i => [(0, v), (3, i.2), (4, .int .u64 ((8 * m.length % 18446744073709551616 : Nat) : Int)), (5, .int .i64 ((i.1 : Nat) : Int))]) (fun i => [(1, .row i.2 5 1 (m.length + 1 + Pl.zeros m.length + i.1) (((m ++ 128 :: List.replicate (Pl.zeros m.length) 0) ++ (Pl.len8 m.length).take i.1).map b8))]) (fun i => i.1 ≤ 8) (fun i => 8 - i.1) (0, _) (Nat.zero_le _) (subk_cons rfl (subk_cons rfl (subk_cons rfl (subk_cons rfl subk_nil)))) (subr_cons (by simp; rfl) subr_nil) ?_
    intro i hi
    refine JQ.seq ?_
    refine JQ.seq ?_
    refine JQ.region ?_
    refine JQ.v (JV.move rfl) rfl ?_
    refine JQ.v (JV.lssN (b := 8) rfl rfl) rfl ?_
    refine JQ.nil ?_
    refine JQ.n_then ?_
    refine JQ.condP rfl (fun h24 => ?_) (fun h24 => ?_)
    · refine JQ.skip ?_
      refine JQ.n_then ?_
      refine JQ.seq ?_
      refine JQ.block ?_
      refine JQ.region ?_
      refine JQ.v (JV.move rfl) rfl ?_
      refine JQ.v (JV.move rfl) rfl ?_
      refine JQ.v (JV.move rfl) rfl ?_
      refine JQ.v (JV.mulN (a := 8) rfl rfl (by omega)) rfl ?_
      refine JQ.v (JV.subN (a := 56) rfl rfl (by omega)) rfl ?_
      refine JQ.v (JV.shrU64 rfl rfl (by omega)) rfl ?_
      refine JQ.v (JV.convU8 Tryd.runUnderlying126 Tryd.runUnderlying5 rfl) rfl ?_
      refine JQ.x (JO.buildSlice 3 (us := [.int .u8 ((8 * m.length % 18446744073709551616 / 2 ^ (56 - 8 * i.1) % 256 : Nat) : Int)]) (e := 5) (evp_cons rfl evp_nil) (fun w => by kernel_rfl)) rfl ?_
      intro i9_7
      refine JQ.x (JO.append 1 elem5 rfl rfl rfl (fun w hw => Src.ro Tryd.underlying30 (reads_cells (hw.blk (id := 3) rfl) (show (_ : List Value) = ([.int .u8 ((8 * m.length % 18446744073709551616 / 2 ^ (56 - 8 * i.1) % 256 : Nat) : Int)] : List Value) from rfl) rfl (by decide))) rfl (by omega) (by omega)) rfl ?_
      intro i9_8
      rw [snocN, List.append_assoc, ← Pl.len8_take _ _ h24, show m.length + 1 + Pl.zeros m.length + i.1 + 1 = m.length + 1 + Pl.zeros m.length + (i.1 + 1) from by omega]
      refine JQ.v (JV.assign rfl) rfl ?_
      refine JQ.nil ?_
      refine JQ.n_block ?_
      refine JQ.n_then ?_
      refine JQ.region ?_
      refine JQ.v (JV.move rfl) rfl ?_
      refine JQ.v (JV.addN (b := 1) rfl rfl (by omega)) rfl ?_
      refine JQ.v (JV.assign rfl) rfl ?_
      refine JQ.nil ?_
      refine JQ.n_then ?_
      exact JQ.nextI (i.1 + 1, i9_8) (by show i.1 + 1 ≤ 8; omega) (by show 8 - (i.1 + 1) < 8 - i.1; omega) (subk_cons rfl (subk_cons rfl (subk_cons rfl (subk_cons rfl subk_nil)))) (subr_cons rfl subr_nil)
    · refine JQ.exit ?_
      refine JQ.e_then ?_
      refine JQ.e_then ?_
      refine JQ.e_here ?_
      refine JQ.n_then ?_
      refine JQ.seq ?_
      refine JQ.region ?_
      refine JQ.v (JV.move rfl) rfl ?_
      refine JQ.v (JV.assign rfl) rfl ?_
      refine JQ.nil ?_
      refine JQ.n_then ?_
      refine JQ.ret ?_
      have hfin : (m ++ 128 :: List.replicate (Pl.zeros m.length) 0) ++ (Pl.len8 m.length).take i.1 = Pl.padded m := by
        rw [show i.1 = 8 from by omega, List.take_of_length_le (show (Pl.len8 m.length).length ≤ 8 by rw [Pl.len8_len]; omega)]; simp [Pl.padded, Pl.padT]
      have hlen := congrArg List.length hfin
      rw [List.length_append, List.length_take, Pl.len8_len, List.length_append, List.length_cons, List.length_replicate] at hlen
      refine JQ.done1 Tryd.results86 rfl ?_
      exact fun w hw => ⟨_, rfl, by have h := hw.row (id := 1) rfl; rw [hfin] at h; rwa [show m.length + 1 + Pl.zeros m.length + i.1 = (Pl.padded m).length from by omega] at h, hw.below⟩

theorem rsum_spec (v : Value) (m : List UInt8) (hm : m.length ≤ 2199023255552) (w : World) (hG : Gl 1 (Pl.K.map u32) w) (hr : Reads w v 1 m.length (m.map b8)) :
    Calls Tryd.prog 83 #[v] w fun e w' => e = .returned (.agg ((Pl.sha m).map b8).toArray) ∧ Below w.heap.size w w' := by
  
  refine enterA (vs := [_]) Tryd.func83 rfl 148 rfl [(901, .ro (gv 1 64) 1 64 (Pl.K.map u32)), (100, .ro v 1 m.length (m.map b8))] ((MemOk.start1 100 hr).addRo 901 hG (by intro j s hj; rw [lr_cons] at hj; split at hj; (cases hj; rfl); cases hj)) ?_
  refine JQ.seq ?_
  refine JQ.region ?_
  refine JQ.x (JO.alloc 1 (zs := ((List.replicate 32 0).map b8)) Tryd.zeroValue121 rfl) rfl ?_
  intro i0_0
  refine JQ.nil ?_
  refine JQ.n_then ?_
  refine JQ.seq ?_
  refine JQ.region ?_
  refine JQ.v (JV.buildArr (evp_cons rfl (evp_cons rfl (evp_cons rfl (evp_cons rfl (evp_cons rfl (evp_cons rfl (evp_cons rfl (evp_cons rfl evp_nil)))))))) Tryd.runUnderlying125 Tryd.zeroValue125 Tryd.sizeOf124 rfl rfl rfl) rfl ?_
  refine JQ.x (JO.alloc 2 (zs := ((List.replicate 8 0).map u32)) Tryd.zeroValue125 rfl) rfl ?_
  intro i1_1
  refine JQ.s (JO.storeV 2 rfl rfl rfl (us := Pl.S0.list.map u32) rfl Tryd.sizeOf125 rfl rfl) ?_
  refine JQ.nil ?_
  refine JQ.n_then ?_
  refine JQ.seq ?_
  refine JQ.region ?_
  refine JQ.v (JV.move rfl) rfl ?_
  refine JQ.x (JO.callRow 3 Tryd.call86 (evs_cons rfl evs_nil) (fun w hw => padded_spec v m hm w (hw.reads (id := 100) rfl))) rfl ?_
  intro i2_1
  refine JQ.roOf 3 rfl ?_
  refine JQ.v (JV.assign rfl) rfl ?_
  refine JQ.nil ?_
  refine JQ.n_then ?_
  refine JQ.seq ?_
  refine JQ.seq ?_
  have hpl := Pl.padded_len m
  have hpe := Pl.padded_le m
  refine JQ.region ?_
  refine JQ.v (JV.assign rfl) rfl ?_
  refine JQ.nil ?_
  refine JQ.n_then ?_
  refine JQ.block ?_
  refine JQ.loopI (ι := Nat) (fun i => [(2, .pointer (some ⟨i0_0, 0, none⟩)), (3, .pointer (some ⟨i1_1, 0, none⟩)), (4, i2_1), (5, .int .i64 ((64 * i : Nat) : Int))]) (fun i => [(1, .cells i0_0 ((List.replicate 32 0).map b8) 121 (0, 0)), (2, .cells i1_1 ((Pl.foldB i Pl.S0 (Pl.padded m)).list.map u32) 125 (0, 0)), (3, .ro i2_1 1 (Pl.padded m).length ((Pl.padded m).map b8)), (901, .ro (gv 1 64) 1 64 (Pl.K.map u32))]) (fun i => i ≤ ((Pl.padded m).length / 64)) (fun i => ((Pl.padded m).length / 64) - i) 0 (Nat.zero_le _) (subk_cons rfl (subk_cons rfl (subk_cons rfl (subk_cons rfl subk_nil)))) (subr_cons rfl (subr_cons rfl (subr_cons rfl (subr_cons rfl subr_nil)))) ?_
  intro q hq
  have hok := Pl.foldB_ok q Pl.S0 (Pl.padded m) Pl.S0_ok
  refine JQ.seq ?_
  refine JQ.seq ?_
  refine JQ.region ?_
  refine JQ.v (JV.move rfl) rfl ?_
  refine JQ.v (JV.move rfl) rfl ?_
  refine JQ.v (JV.lenRo 3 rfl rfl Tryd.runUnderlying30) rfl ?_
  refine JQ.v (JV.lssN rfl rfl) rfl ?_
  refine JQ.nil ?_
  refine JQ.n_then ?_
  refine JQ.condP rfl (fun h20 => ?_) (fun h20 => ?_)
  · refine JQ.skip ?_
    refine JQ.n_then ?_
    refine JQ.seq ?_
    refine JQ.block ?_
    refine JQ.seq ?_
    refine JQ.region ?_
    refine JQ.v (JV.move rfl) rfl ?_
    refine JQ.v (JV.move rfl) rfl ?_
    refine JQ.v (JV.move rfl) rfl ?_
    refine JQ.v (JV.addN (b := 64) rfl rfl (by omega)) rfl ?_
    refine JQ.x (JO.sliceRo 3 4 (us := ((Pl.padded m |>.drop (64 * q)).take 64).map b8) rfl rfl Tryd.runUnderlying30 Tryd.sizeOf5 (bnd_some rfl) (bnd_some rfl) (by omega) (by omega) (by rw [List.map_take, List.map_drop, show 64 * q + 64 - 64 * q = 64 from by omega]) (by decide)) rfl ?_
    intro i6_4
    rw [show 64 * q + 64 - 64 * q = 64 from by omega]
    refine JQ.v (JV.callM Tryd.call87 (evs_cons rfl evs_nil) (fun w hw => words_spec _ (((Pl.padded m).drop (64 * q)).take 64) (by simp; omega) w (hw.reads (id := 4) rfl))) rfl ?_
    refine JQ.x (JO.alloc 5 (zs := ((List.replicate 64 0).map u32)) Tryd.zeroValue136 rfl) rfl ?_
    intro i6_6
    refine JQ.s (JO.storeV 5 rfl rfl rfl (allU _) Tryd.sizeOf136 (by simp [Pl.sched, Pl.W_len]) rfl) ?_
    refine JQ.nil ?_
    refine JQ.n_then ?_
    refine JQ.seq ?_
    refine JQ.region ?_
    refine JQ.v (JV.loadV 2 rfl rfl Tryd.isAgg125 Tryd.sizeOf125 rfl) rfl ?_
    refine JQ.x (JO.alloc 6 (zs := ((List.replicate 8 0).map u32)) Tryd.zeroValue125 rfl) rfl ?_
    intro i7_1
    refine JQ.s (JO.storeV 6 rfl rfl rfl (allU _) Tryd.sizeOf125 rfl rfl) ?_
    refine JQ.nil ?_
    refine JQ.n_then ?_
    refine JQ.seq ?_
    refine JQ.seq ?_
    refine JQ.region ?_
    refine JQ.v (JV.assign rfl) rfl ?_
    refine JQ.nil ?_
    refine JQ.n_then ?_
    refine JQ.block ?_
    refine JQ.loopI (ι := Nat) (fun i => [(2, .pointer (some ⟨i0_0, 0, none⟩)), (3, .pointer (some ⟨i1_1, 0, none⟩)), (4, i2_1), (5, .int .i64 ((64 * q : Nat) : Int)), (6, .pointer (some ⟨i6_6, 0, none⟩)), (7, .pointer (some ⟨i7_1, 0, none⟩)), (8, .int .i64 ((i : Nat) : Int))]) (fun i => [(1, .cells i0_0 ((List.replicate 32 0).map b8) 121 (0, 0)), (2, .cells i1_1 ((Pl.foldB q Pl.S0 (Pl.padded m)).list.map u32) 125 (0, 0)), (3, .ro i2_1 1 (Pl.padded m).length ((Pl.padded m).map b8)), (901, .ro (gv 1 64) 1 64 (Pl.K.map u32)), (5, .cells i6_6 ((Pl.sched (((Pl.padded m).drop (64 * q)).take 64)).map u32) 136 (0, 0)), (6, .cells i7_1 ((Pl.R (Pl.sched (((Pl.padded m).drop (64 * q)).take 64)) (Pl.foldB q Pl.S0 (Pl.padded m)) i).list.map u32) 125 (0, 0))]) (fun i => i ≤ 64) (fun i => 64 - i) 0 (by omega) (subk_cons rfl (subk_cons rfl (subk_cons rfl (subk_cons rfl (subk_cons rfl (subk_cons rfl (subk_cons rfl subk_nil))))))) (subr_cons rfl (subr_cons rfl (subr_cons rfl (subr_cons rfl (subr_cons rfl (subr_cons rfl subr_nil)))))) ?_
    intro t ht
    obtain ⟨ha, hb, hc, hd, he, hf, hg, hh⟩ := Pl.R_ok (Pl.sched (((Pl.padded m).drop (64 * q)).take 64)) (Pl.foldB q Pl.S0 (Pl.padded m)) hok t
    refine JQ.seq ?_
    refine JQ.seq ?_
    refine JQ.region ?_
    refine JQ.v (JV.move rfl) rfl ?_
    refine JQ.v (JV.lssN (b := 64) rfl rfl) rfl ?_
    refine JQ.nil ?_
    refine JQ.n_then ?_
    refine JQ.condP rfl (fun h31 => ?_) (fun h31 => ?_)
    · refine JQ.skip ?_
      refine JQ.n_then ?_
      refine JQ.seq ?_
      refine JQ.block ?_
      refine JQ.seq ?_
      refine JQ.any [_, _, _, _, _, _, _, _, _, _, _, _, _, _, _, _, _, _, _, _, _, _, _, _, _, _, _, _, _, _, _, _, _, _, _, _] [fun _ => [], fun _ => [], fun _ => [], fun _ => [], fun _ => [], fun _ => [], fun _ => [], fun _ => [], fun _ => [], fun _ => [], fun _ => [], fun _ => [], fun _ => [], fun _ => [], fun _ => [], fun _ => [], fun _ => [], fun _ => [], fun _ => [], fun _ => [], fun _ => [], fun _ => [], fun _ => [], fun _ => [], fun _ => [], fun _ => [], fun _ => [], fun _ => [], fun _ => [], fun _ => [], fun _ => [], fun _ => [], fun _ => [], fun _ => [], fun _ => [], fun _ => []] [⟨[], [], [], []⟩, ⟨[6], [], [], [0]⟩, ⟨[], [], [], []⟩, ⟨[6], [], [], [2]⟩, ⟨[], [], [], [2, 3]⟩, ⟨[], [], [], []⟩, ⟨[6], [], [], [5]⟩, ⟨[], [], [], [2, 3, 4, 5, 6]⟩, ⟨[], [], [], [2, 3, 4, 5, 6, 7]⟩, ⟨[], [], [], []⟩, ⟨[6], [], [], [9]⟩, ⟨[], [], [], [2, 3, 4, 5, 6, 7, 9, 10]⟩, ⟨[], [], [], [2, 3, 4, 5, 6, 7, 8, 9, 10, 11]⟩, ⟨[], [], [], [0, 1, 2, 3, 4, 5, 6, 7, 8, 9, 10, 11, 12]⟩, ⟨[], [], [], []⟩, ⟨[6], [], [], [14]⟩, ⟨[], [], [], []⟩, ⟨[6], [], [], [16]⟩, ⟨[], [], [], [14, 15, 16, 17]⟩, ⟨[], [], [], []⟩, ⟨[6], [], [], [19]⟩, ⟨[], [], [], [19, 20]⟩, ⟨[], [], [], []⟩, ⟨[6], [], [], [22]⟩, ⟨[], [], [], [19, 20, 21, 22, 23]⟩, ⟨[], [], [], [14, 15, 16, 17, 18, 19, 20, 21, 22, 23, 24]⟩, ⟨[], [], [], [0, 1, 2, 3, 4, 5, 6, 7, 8, 9, 10, 11, 12, 13, 14, 15, 16, 17, 18, 19, 20, 21, 22, 23, 24, 25]⟩, ⟨[], [], [], []⟩, ⟨[], [], [], [27]⟩, ⟨[901], [], [], [27, 28]⟩, ⟨[], [], [], [0, 1, 2, 3, 4, 5, 6, 7, 8, 9, 10, 11, 12, 13, 14, 15, 16, 17, 18, 19, 20, 21, 22, 23, 24, 25, 26, 27, 28, 29]⟩, ⟨[], [], [], []⟩, ⟨[], [], [], [31]⟩, ⟨[5], [], [], [31, 32]⟩, ⟨[], [], [], [0, 1, 2, 3, 4, 5, 6, 7, 8, 9, 10, 11, 12, 13, 14, 15, 16, 17, 18, 19, 20, 21, 22, 23, 24, 25, 26, 27, 28, 29, 30, 31, 32, 33]⟩, ⟨[], [], [], [0, 1, 2, 3, 4, 5, 6, 7, 8, 9, 10, 11, 12, 13, 14, 15, 16, 17, 18, 19, 20, 21, 22, 23, 24, 25, 26, 27, 28, 29, 30, 31, 32, 33, 34]⟩] Tryd.mixed rfl (by kernel_rfl) ⟨Ob.v rfl (fun _ _ h => by cases h) (fun _ _ _ => rfl) (fun e L' hL => JV.idxArr0 (k := 7) rfl rfl Tryd.runUnderlying125 Tryd.sizeOf124 (by omega)),
                Ob.v rfl (fun _ _ h => by cases h) (fun _ _ _ => rfl) (fun e L' hL => JV.load1 6 rfl ((hL 6 (by decide)).trans rfl) Tryd.isAgg124 (rfl)),
                Ob.v rfl (fun _ _ h => by cases h) (fun _ _ _ => rfl) (fun e L' hL => JV.idxArr0 (k := 4) rfl rfl Tryd.runUnderlying125 Tryd.sizeOf124 (by omega)),
                Ob.v rfl (fun _ _ h => by cases h) (fun _ _ _ => rfl) (fun e L' hL => JV.load1 6 rfl ((hL 6 (by decide)).trans rfl) Tryd.isAgg124 (rfl)),
                Ob.v rfl (fun _ _ h => by cases h) (fun _ _ _ => rfl) (fun e L' hL => JV.call Tryd.call88 (evs_cons rfl (evs_cons rfl evs_nil)) (rrotr _ 6 he (by omega) (by omega))),
                Ob.v rfl (fun _ _ h => by cases h) (fun _ _ _ => rfl) (fun e L' hL => JV.idxArr0 (k := 4) rfl rfl Tryd.runUnderlying125 Tryd.sizeOf124 (by omega)),
                Ob.v rfl (fun _ _ h => by cases h) (fun _ _ _ => rfl) (fun e L' hL => JV.load1 6 rfl ((hL 6 (by decide)).trans rfl) Tryd.isAgg124 (rfl)),
                Ob.v rfl (fun _ _ h => by cases h) (fun _ _ _ => rfl) (fun e L' hL => JV.call Tryd.call88 (evs_cons rfl (evs_cons rfl evs_nil)) (rrotr _ 11 he (by omega) (by omega))),
                Ob.v rfl (fun _ _ h => by cases h) (fun _ _ _ => rfl) (fun e L' hL => JV.xorU32 rfl rfl (by repeat (first | assumption | apply Pl.xor_lt | apply Pl.rotr_lt | apply Pl.and_lt | apply Pl.or_lt | exact Pl.mod_lt _ | decide)) (by repeat (first | assumption | apply Pl.xor_lt | apply Pl.rotr_lt | apply Pl.and_lt | apply Pl.or_lt | exact Pl.mod_lt _ | decide))),
                Ob.v rfl (fun _ _ h => by cases h) (fun _ _ _ => rfl) (fun e L' hL => JV.idxArr0 (k := 4) rfl rfl Tryd.runUnderlying125 Tryd.sizeOf124 (by omega)),
                Ob.v rfl (fun _ _ h => by cases h) (fun _ _ _ => rfl) (fun e L' hL => JV.load1 6 rfl ((hL 6 (by decide)).trans rfl) Tryd.isAgg124 (rfl)),
                Ob.v rfl (fun _ _ h => by cases h) (fun _ _ _ => rfl) (fun e L' hL => JV.call Tryd.call88 (evs_cons rfl (evs_cons rfl evs_nil)) (rrotr _ 25 he (by omega) (by omega))),
                Ob.v rfl (fun _ _ h => by cases h) (fun _ _ _ => rfl) (fun e L' hL => JV.xorU32 rfl rfl (by repeat (first | assumption | apply Pl.xor_lt | apply Pl.rotr_lt | apply Pl.and_lt | apply Pl.or_lt | exact Pl.mod_lt _ | decide)) (by repeat (first | assumption | apply Pl.xor_lt | apply Pl.rotr_lt | apply Pl.and_lt | apply Pl.or_lt | exact Pl.mod_lt _ | decide))),
                Ob.v rfl (fun _ _ h => by cases h) (fun _ _ _ => rfl) (fun e L' hL => JV.addU32 rfl rfl),
                Ob.v rfl (fun _ _ h => by cases h) (fun _ _ _ => rfl) (fun e L' hL => JV.idxArr0 (k := 4) rfl rfl Tryd.runUnderlying125 Tryd.sizeOf124 (by omega)),
                Ob.v rfl (fun _ _ h => by cases h) (fun _ _ _ => rfl) (fun e L' hL => JV.load1 6 rfl ((hL 6 (by decide)).trans rfl) Tryd.isAgg124 (rfl)),
                Ob.v rfl (fun _ _ h => by cases h) (fun _ _ _ => rfl) (fun e L' hL => JV.idxArr0 (k := 5) rfl rfl Tryd.runUnderlying125 Tryd.sizeOf124 (by omega)),
                Ob.v rfl (fun _ _ h => by cases h) (fun _ _ _ => rfl) (fun e L' hL => JV.load1 6 rfl ((hL 6 (by decide)).trans rfl) Tryd.isAgg124 (rfl)),
                Ob.v rfl (fun _ _ h => by cases h) (fun _ _ _ => rfl) (fun e L' hL => JV.andU32 rfl rfl (by repeat (first | assumption | apply Pl.xor_lt | apply Pl.rotr_lt | apply Pl.and_lt | apply Pl.or_lt | exact Pl.mod_lt _ | decide)) (by repeat (first | assumption | apply Pl.xor_lt | apply Pl.rotr_lt | apply Pl.and_lt | apply Pl.or_lt | exact Pl.mod_lt _ | decide))),
                Ob.v rfl (fun _ _ h => by cases h) (fun _ _ _ => rfl) (fun e L' hL => JV.idxArr0 (k := 4) rfl rfl Tryd.runUnderlying125 Tryd.sizeOf124 (by omega)),
                Ob.v rfl (fun _ _ h => by cases h) (fun _ _ _ => rfl) (fun e L' hL => JV.load1 6 rfl ((hL 6 (by decide)).trans rfl) Tryd.isAgg124 (rfl)),
                Ob.v rfl (fun _ _ h => by cases h) (fun _ _ _ => rfl) (fun e L' hL => JV.xorC32 (b := 4294967295) rfl rfl he (by decide)),
                Ob.v rfl (fun _ _ h => by cases h) (fun _ _ _ => rfl) (fun e L' hL => JV.idxArr0 (k := 6) rfl rfl Tryd.runUnderlying125 Tryd.sizeOf124 (by omega)),
                Ob.v rfl (fun _ _ h => by cases h) (fun _ _ _ => rfl) (fun e L' hL => JV.load1 6 rfl ((hL 6 (by decide)).trans rfl) Tryd.isAgg124 (rfl)),
                Ob.v rfl (fun _ _ h => by cases h) (fun _ _ _ => rfl) (fun e L' hL => JV.andU32 rfl rfl (by repeat (first | assumption | apply Pl.xor_lt | apply Pl.rotr_lt | apply Pl.and_lt | apply Pl.or_lt | exact Pl.mod_lt _ | decide)) (by repeat (first | assumption | apply Pl.xor_lt | apply Pl.rotr_lt | apply Pl.and_lt | apply Pl.or_lt | exact Pl.mod_lt _ | decide))),
                Ob.v rfl (fun _ _ h => by cases h) (fun _ _ _ => rfl) (fun e L' hL => JV.xorU32 rfl rfl (by repeat (first | assumption | apply Pl.xor_lt | apply Pl.rotr_lt | apply Pl.and_lt | apply Pl.or_lt | exact Pl.mod_lt _ | decide)) (by repeat (first | assumption | apply Pl.xor_lt | apply Pl.rotr_lt | apply Pl.and_lt | apply Pl.or_lt | exact Pl.mod_lt _ | decide))),
                Ob.v rfl (fun _ _ h => by cases h) (fun _ _ _ => rfl) (fun e L' hL => JV.addU32 rfl rfl),
                Ob.v rfl (fun _ _ h => by cases h) (fun _ _ _ => rfl) (fun e L' hL => JV.move rfl),
                Ob.v rfl (fun _ _ h => by cases h) (fun _ _ _ => rfl) (fun e L' hL => JV.idxArr0 rfl rfl Tryd.runUnderlying136 Tryd.sizeOf124 (by omega)),
                Ob.v rfl (fun _ _ h => by cases h) (fun _ _ _ => rfl) (fun e L' hL => JV.loadG1 901 rfl ((hL 901 (by decide)).trans rfl) Tryd.isAgg124 (getU _ _ (by rw [Pl.K_len]; omega))),
                Ob.v rfl (fun _ _ h => by cases h) (fun _ _ _ => rfl) (fun e L' hL => JV.addU32 rfl rfl),
                Ob.v rfl (fun _ _ h => by cases h) (fun _ _ _ => rfl) (fun e L' hL => JV.move rfl),
                Ob.v rfl (fun _ _ h => by cases h) (fun _ _ _ => rfl) (fun e L' hL => JV.idxArr0 rfl rfl Tryd.runUnderlying136 Tryd.sizeOf124 (by omega)),
                Ob.v rfl (fun _ _ h => by cases h) (fun _ _ _ => rfl) (fun e L' hL => JV.load1 5 rfl ((hL 5 (by decide)).trans rfl) Tryd.isAgg124 (getU _ _ (by rw [Pl.sched, Pl.W_len]; omega))),
                Ob.v rfl (fun _ _ h => by cases h) (fun _ _ _ => rfl) (fun e L' hL => JV.addU32 rfl rfl),
                Ob.v rfl (fun _ _ h => by cases h) (fun _ _ _ => rfl) (fun e L' hL => JV.assign rfl), trivial⟩ (fun ev11 => ?_)
      simp only [endF, endL, putF, List.nil_append, List.cons_append]
      refine JQ.n_then ?_
      refine JQ.seq ?_
      refine JQ.any [_, _, _, _, _, _, _, _, _, _, _, _, _, _, _, _, _, _, _, _, _, _, _, _, _, _, _, _, _, _] [fun _ => [], fun _ => [], fun _ => [], fun _ => [], fun _ => [], fun _ => [], fun _ => [], fun _ => [], fun _ => [], fun _ => [], fun _ => [], fun _ => [], fun _ => [], fun _ => [], fun _ => [], fun _ => [], fun _ => [], fun _ => [], fun _ => [], fun _ => [], fun _ => [], fun _ => [], fun _ => [], fun _ => [], fun _ => [], fun _ => [], fun _ => [], fun _ => [], fun _ => [], fun _ => []] [⟨[], [], [], []⟩, ⟨[6], [], [], [0]⟩, ⟨[], [], [], [0, 1]⟩, ⟨[], [], [], []⟩, ⟨[6], [], [], [3]⟩, ⟨[], [], [], [0, 1, 2, 3, 4]⟩, ⟨[], [], [], [0, 1, 2, 3, 4, 5]⟩, ⟨[], [], [], []⟩, ⟨[6], [], [], [7]⟩, ⟨[], [], [], [0, 1, 2, 3, 4, 5, 7, 8]⟩, ⟨[], [], [], [0, 1, 2, 3, 4, 5, 6, 7, 8, 9]⟩, ⟨[], [], [], []⟩, ⟨[6], [], [], [11]⟩, ⟨[], [], [], []⟩, ⟨[6], [], [], [13]⟩, ⟨[], [], [], [11, 12, 13, 14]⟩, ⟨[], [], [], []⟩, ⟨[6], [], [], [16]⟩, ⟨[], [], [], []⟩, ⟨[6], [], [], [18]⟩, ⟨[], [], [], [16, 17, 18, 19]⟩, ⟨[], [], [], [11, 12, 13, 14, 15, 16, 17, 18, 19, 20]⟩, ⟨[], [], [], []⟩, ⟨[6], [], [], [22]⟩, ⟨[], [], [], []⟩, ⟨[6], [], [], [24]⟩, ⟨[], [], [], [22, 23, 24, 25]⟩, ⟨[], [], [], [11, 12, 13, 14, 15, 16, 17, 18, 19, 20, 21, 22, 23, 24, 25, 26]⟩, ⟨[], [], [], [0, 1, 2, 3, 4, 5, 6, 7, 8, 9, 10, 11, 12, 13, 14, 15, 16, 17, 18, 19, 20, 21, 22, 23, 24, 25, 26, 27]⟩, ⟨[], [], [], [0, 1, 2, 3, 4, 5, 6, 7, 8, 9, 10, 11, 12, 13, 14, 15, 16, 17, 18, 19, 20, 21, 22, 23, 24, 25, 26, 27, 28]⟩] Tryd.mixed rfl (by kernel_rfl) ⟨Ob.v rfl (fun _ _ h => by cases h) (fun _ _ _ => rfl) (fun e L' hL => JV.idxArr0 (k := 0) rfl rfl Tryd.runUnderlying125 Tryd.sizeOf124 (by omega)),
                Ob.v rfl (fun _ _ h => by cases h) (fun _ _ _ => rfl) (fun e L' hL => JV.load1 6 rfl ((hL 6 (by decide)).trans rfl) Tryd.isAgg124 (rfl)),
                Ob.v rfl (fun _ _ h => by cases h) (fun _ _ _ => rfl) (fun e L' hL => JV.call Tryd.call88 (evs_cons rfl (evs_cons rfl evs_nil)) (rrotr _ 2 ha (by omega) (by omega))),
                Ob.v rfl (fun _ _ h => by cases h) (fun _ _ _ => rfl) (fun e L' hL => JV.idxArr0 (k := 0) rfl rfl Tryd.runUnderlying125 Tryd.sizeOf124 (by omega)),
                Ob.v rfl (fun _ _ h => by cases h) (fun _ _ _ => rfl) (fun e L' hL => JV.load1 6 rfl ((hL 6 (by decide)).trans rfl) Tryd.isAgg124 (rfl)),
                Ob.v rfl (fun _ _ h => by cases h) (fun _ _ _ => rfl) (fun e L' hL => JV.call Tryd.call88 (evs_cons rfl (evs_cons rfl evs_nil)) (rrotr _ 13 ha (by omega) (by omega))),
                Ob.v rfl (fun _ _ h => by cases h) (fun _ _ _ => rfl) (fun e L' hL => JV.xorU32 rfl rfl (by repeat (first | assumption | apply Pl.xor_lt | apply Pl.rotr_lt | apply Pl.and_lt | apply Pl.or_lt | exact Pl.mod_lt _ | decide)) (by repeat (first | assumption | apply Pl.xor_lt | apply Pl.rotr_lt | apply Pl.and_lt | apply Pl.or_lt | exact Pl.mod_lt _ | decide))),
                Ob.v rfl (fun _ _ h => by cases h) (fun _ _ _ => rfl) (fun e L' hL => JV.idxArr0 (k := 0) rfl rfl Tryd.runUnderlying125 Tryd.sizeOf124 (by omega)),
                Ob.v rfl (fun _ _ h => by cases h) (fun _ _ _ => rfl) (fun e L' hL => JV.load1 6 rfl ((hL 6 (by decide)).trans rfl) Tryd.isAgg124 (rfl)),
                Ob.v rfl (fun _ _ h => by cases h) (fun _ _ _ => rfl) (fun e L' hL => JV.call Tryd.call88 (evs_cons rfl (evs_cons rfl evs_nil)) (rrotr _ 22 ha (by omega) (by omega))),
                Ob.v rfl (fun _ _ h => by cases h) (fun _ _ _ => rfl) (fun e L' hL => JV.xorU32 rfl rfl (by repeat (first | assumption | apply Pl.xor_lt | apply Pl.rotr_lt | apply Pl.and_lt | apply Pl.or_lt | exact Pl.mod_lt _ | decide)) (by repeat (first | assumption | apply Pl.xor_lt | apply Pl.rotr_lt | apply Pl.and_lt | apply Pl.or_lt | exact Pl.mod_lt _ | decide))),
                Ob.v rfl (fun _ _ h => by cases h) (fun _ _ _ => rfl) (fun e L' hL => JV.idxArr0 (k := 0) rfl rfl Tryd.runUnderlying125 Tryd.sizeOf124 (by omega)),
                Ob.v rfl (fun _ _ h => by cases h) (fun _ _ _ => rfl) (fun e L' hL => JV.load1 6 rfl ((hL 6 (by decide)).trans rfl) Tryd.isAgg124 (rfl)),
                Ob.v rfl (fun _ _ h => by cases h) (fun _ _ _ => rfl) (fun e L' hL => JV.idxArr0 (k := 1) rfl rfl Tryd.runUnderlying125 Tryd.sizeOf124 (by omega)),
                Ob.v rfl (fun _ _ h => by cases h) (fun _ _ _ => rfl) (fun e L' hL => JV.load1 6 rfl ((hL 6 (by decide)).trans rfl) Tryd.isAgg124 (rfl)),
                Ob.v rfl (fun _ _ h => by cases h) (fun _ _ _ => rfl) (fun e L' hL => JV.andU32 rfl rfl (by repeat (first | assumption | apply Pl.xor_lt | apply Pl.rotr_lt | apply Pl.and_lt | apply Pl.or_lt | exact Pl.mod_lt _ | decide)) (by repeat (first | assumption | apply Pl.xor_lt | apply Pl.rotr_lt | apply Pl.and_lt | apply Pl.or_lt | exact Pl.mod_lt _ | decide))),
                Ob.v rfl (fun _ _ h => by cases h) (fun _ _ _ => rfl) (fun e L' hL => JV.idxArr0 (k := 0) rfl rfl Tryd.runUnderlying125 Tryd.sizeOf124 (by omega)),
                Ob.v rfl (fun _ _ h => by cases h) (fun _ _ _ => rfl) (fun e L' hL => JV.load1 6 rfl ((hL 6 (by decide)).trans rfl) Tryd.isAgg124 (rfl)),
                Ob.v rfl (fun _ _ h => by cases h) (fun _ _ _ => rfl) (fun e L' hL => JV.idxArr0 (k := 2) rfl rfl Tryd.runUnderlying125 Tryd.sizeOf124 (by omega)),
                Ob.v rfl (fun _ _ h => by cases h) (fun _ _ _ => rfl) (fun e L' hL => JV.load1 6 rfl ((hL 6 (by decide)).trans rfl) Tryd.isAgg124 (rfl)),
                Ob.v rfl (fun _ _ h => by cases h) (fun _ _ _ => rfl) (fun e L' hL => JV.andU32 rfl rfl (by repeat (first | assumption | apply Pl.xor_lt | apply Pl.rotr_lt | apply Pl.and_lt | apply Pl.or_lt | exact Pl.mod_lt _ | decide)) (by repeat (first | assumption | apply Pl.xor_lt | apply Pl.rotr_lt | apply Pl.and_lt | apply Pl.or_lt | exact Pl.mod_lt _ | decide))),
                Ob.v rfl (fun _ _ h => by cases h) (fun _ _ _ => rfl) (fun e L' hL => JV.xorU32 rfl rfl (by repeat (first | assumption | exact hB _ | apply Pl.xor_lt | apply Pl.mix_lt | apply Pl.rotr_lt | apply Pl.and_lt | apply Pl.or_lt | apply Pl.div_lt | exact Pl.mod_lt _ | exact Pl.byte_lt _ | omega)) (by repeat (first | assumption | exact hB _ | apply Pl.xor_lt | apply Pl.mix_lt | apply Pl.rotr_lt | apply Pl.and_lt | apply Pl.or_lt | apply Pl.div_lt | exact Pl.mod_lt _ | exact Pl.byte_lt _ | omega))),
                Ob.v rfl (fun _ _ h => by cases h) (fun _ _ _ => rfl) (fun e L' hL => JV.idxArr0 (k := 1) rfl rfl Tryd.runUnderlying125 Tryd.sizeOf124 (by omega)),
                Ob.v rfl (fun _ _ h => by cases h) (fun _ _ _ => rfl) (fun e L' hL => JV.load1 6 rfl ((hL 6 (by decide)).trans rfl) Tryd.isAgg124 (rfl)),
                Ob.v rfl (fun _ _ h => by cases h) (fun _ _ _ => rfl) (fun e L' hL => JV.idxArr0 (k := 2) rfl rfl Tryd.runUnderlying125 Tryd.sizeOf124 (by omega)),
                Ob.v rfl (fun _ _ h => by cases h) (fun _ _ _ => rfl) (fun e L' hL => JV.load1 6 rfl ((hL 6 (by decide)).trans rfl) Tryd.isAgg124 (rfl)),
                Ob.v rfl (fun _ _ h => by cases h) (fun _ _ _ => rfl) (fun e L' hL => JV.andU32 rfl rfl (by repeat (first | assumption | apply Pl.xor_lt | apply Pl.rotr_lt | apply Pl.and_lt | apply Pl.or_lt | exact Pl.mod_lt _ | decide)) (by repeat (first | assumption | apply Pl.xor_lt | apply Pl.rotr_lt | apply Pl.and_lt | apply Pl.or_lt | exact Pl.mod_lt _ | decide))),
                Ob.v rfl (fun _ _ h => by cases h) (fun _ _ _ => rfl) (fun e L' hL => JV.xorU32 rfl rfl (by repeat (first | assumption | apply Pl.xor_lt | apply Pl.rotr_lt | apply Pl.and_lt | apply Pl.or_lt | exact Pl.mod_lt _ | decide)) (by repeat (first | assumption | apply Pl.xor_lt | apply Pl.rotr_lt | apply Pl.and_lt | apply Pl.or_lt | exact Pl.mod_lt _ | decide))),
                Ob.v rfl (fun _ _ h => by cases h) (fun _ _ _ => rfl) (fun e L' hL => JV.addU32 rfl rfl),
                Ob.v rfl (fun _ _ h => by cases h) (fun _ _ _ => rfl) (fun e L' hL => JV.assign rfl), trivial⟩ (fun ev12 => ?_)
      simp only [endF, endL, putF, List.nil_append, List.cons_append]
      refine JQ.n_then ?_
      refine JQ.region ?_
      refine JQ.v (JV.move rfl) rfl ?_
      refine JQ.v (JV.move rfl) rfl ?_
      refine JQ.v (JV.addU32 rfl rfl) rfl ?_
      refine JQ.v (JV.idxArr0 (k := 0) rfl rfl Tryd.runUnderlying125 Tryd.sizeOf124 (by omega)) rfl ?_
      refine JQ.v (JV.load1 6 rfl rfl Tryd.isAgg124 (rfl)) rfl ?_
      refine JQ.v (JV.idxArr0 (k := 1) rfl rfl Tryd.runUnderlying125 Tryd.sizeOf124 (by omega)) rfl ?_
      refine JQ.v (JV.load1 6 rfl rfl Tryd.isAgg124 (rfl)) rfl ?_
      refine JQ.v (JV.idxArr0 (k := 2) rfl rfl Tryd.runUnderlying125 Tryd.sizeOf124 (by omega)) rfl ?_
      refine JQ.v (JV.load1 6 rfl rfl Tryd.isAgg124 (rfl)) rfl ?_
      refine JQ.v (JV.idxArr0 (k := 3) rfl rfl Tryd.runUnderlying125 Tryd.sizeOf124 (by omega)) rfl ?_
      refine JQ.v (JV.load1 6 rfl rfl Tryd.isAgg124 (rfl)) rfl ?_
      refine JQ.v (JV.move rfl) rfl ?_
      refine JQ.v (JV.addU32 rfl rfl) rfl ?_
      refine JQ.v (JV.idxArr0 (k := 4) rfl rfl Tryd.runUnderlying125 Tryd.sizeOf124 (by omega)) rfl ?_
      refine JQ.v (JV.load1 6 rfl rfl Tryd.isAgg124 (rfl)) rfl ?_
      refine JQ.v (JV.idxArr0 (k := 5) rfl rfl Tryd.runUnderlying125 Tryd.sizeOf124 (by omega)) rfl ?_
      refine JQ.v (JV.load1 6 rfl rfl Tryd.isAgg124 (rfl)) rfl ?_
      refine JQ.v (JV.idxArr0 (k := 6) rfl rfl Tryd.runUnderlying125 Tryd.sizeOf124 (by omega)) rfl ?_
      refine JQ.v (JV.load1 6 rfl rfl Tryd.isAgg124 (rfl)) rfl ?_
      refine JQ.v (JV.buildArr (evp_cons rfl (evp_cons rfl (evp_cons rfl (evp_cons rfl (evp_cons rfl (evp_cons rfl (evp_cons rfl (evp_cons rfl evp_nil)))))))) Tryd.runUnderlying125 Tryd.zeroValue125 Tryd.sizeOf124 rfl rfl rfl) rfl ?_
      refine JQ.s (JO.storeV 6 rfl rfl rfl (us := (Pl.R (Pl.sched (((Pl.padded m).drop (64 * q)).take 64)) (Pl.foldB q Pl.S0 (Pl.padded m)) (t + 1)).list.map u32) rfl Tryd.sizeOf125 rfl rfl) ?_
      refine JQ.nil ?_
      refine JQ.n_block ?_
      refine JQ.n_then ?_
      refine JQ.region ?_
      refine JQ.v (JV.move rfl) rfl ?_
      refine JQ.v (JV.addN (b := 1) rfl rfl (by omega)) rfl ?_
      refine JQ.v (JV.assign rfl) rfl ?_
      refine JQ.nil ?_
      refine JQ.n_then ?_
      exact JQ.nextI (t + 1) (by omega) (by omega) (subk_cons rfl (subk_cons rfl (subk_cons rfl (subk_cons rfl (subk_cons rfl (subk_cons rfl (subk_cons rfl subk_nil))))))) (subr_cons rfl (subr_cons rfl (subr_cons rfl (subr_cons rfl (subr_cons rfl (subr_cons rfl subr_nil))))))
    · refine JQ.exit ?_
      refine JQ.e_then ?_
      refine JQ.e_then ?_
      refine JQ.e_here ?_
      refine JQ.n_then ?_
      refine JQ.seq ?_
      refine JQ.region ?_
      refine JQ.v (JV.assign rfl) rfl ?_
      refine JQ.nil ?_
      refine JQ.n_then ?_
      refine JQ.block ?_
      rw [show t = 64 from by omega]
      refine JQ.rounds 9 ?_
      refine JQ.round ?_
      refine JQ.seq ?_
      refine JQ.seq ?_
      refine JQ.region ?_
      refine JQ.v (JV.move rfl) rfl ?_
      refine JQ.v (JV.lssN (a := 0) (b := 8) rfl rfl) rfl ?_
      refine JQ.nil ?_
      refine JQ.n_then ?_
      refine JQ.condT rfl ?_
      refine JQ.skip ?_
      refine JQ.n_then ?_
      refine JQ.seq ?_
      refine JQ.block ?_
      refine JQ.any [_, _, _, _, _, _, _, _, _, _] [fun _ => [], fun _ => [], fun _ => [], fun _ => [], fun _ => [], fun _ => [], fun _ => [], fun _ => [], fun _ => [], _] [⟨[], [], [], []⟩, ⟨[], [], [], []⟩, ⟨[], [], [], [1]⟩, ⟨[2], [], [], [1, 2]⟩, ⟨[], [], [], []⟩, ⟨[], [], [], [4]⟩, ⟨[6], [], [], [4, 5]⟩, ⟨[], [], [], [1, 2, 3, 4, 5, 6]⟩, ⟨[], [], [], [0, 1, 2, 3, 4, 5, 6, 7]⟩, ⟨[], [2], [], [0, 1, 2, 3, 4, 5, 6, 7, 8]⟩] Tryd.mixed rfl (by kernel_rfl) ⟨Ob.v rfl (fun _ _ h => by cases h) (fun _ _ _ => rfl) (fun e L' hL => JV.move rfl),
                Ob.v rfl (fun _ _ h => by cases h) (fun _ _ _ => rfl) (fun e L' hL => JV.move rfl),
                Ob.v rfl (fun _ _ h => by cases h) (fun _ _ _ => rfl) (fun e L' hL => JV.idxArr0 (k := 0) rfl rfl Tryd.runUnderlying125 Tryd.sizeOf124 (by omega)),
                Ob.v rfl (fun _ _ h => by cases h) (fun _ _ _ => rfl) (fun e L' hL => JV.load1 2 rfl ((hL 2 (by decide)).trans rfl) Tryd.isAgg124 (rfl)),
                Ob.v rfl (fun _ _ h => by cases h) (fun _ _ _ => rfl) (fun e L' hL => JV.move rfl),
                Ob.v rfl (fun _ _ h => by cases h) (fun _ _ _ => rfl) (fun e L' hL => JV.idxArr0 (k := 0) rfl rfl Tryd.runUnderlying125 Tryd.sizeOf124 (by omega)),
                Ob.v rfl (fun _ _ h => by cases h) (fun _ _ _ => rfl) (fun e L' hL => JV.load1 6 rfl ((hL 6 (by decide)).trans rfl) Tryd.isAgg124 (rfl)),
                Ob.v rfl (fun _ _ h => by cases h) (fun _ _ _ => rfl) (fun e L' hL => JV.addU32 rfl rfl),
                Ob.v rfl (fun _ _ h => by cases h) (fun _ _ _ => rfl) (fun e L' hL => JV.idxArr0 (k := 0) rfl rfl Tryd.runUnderlying125 Tryd.sizeOf124 (by omega)),
                Ob.s 2 rfl (fun _ _ h => by cases h) (fun _ _ _ => rfl) (fun e L' hL => JO.store1 2 rfl ((hL 2 (by decide)).trans rfl) rfl rfl Tryd.sizeOf124 (Nat.le_of_ble_eq_true rfl)), trivial⟩ (fun ev17 => ?_)
      simp only [endF, endL, putF, List.nil_append, List.cons_append]
      refine JQ.n_block ?_
      refine JQ.n_then ?_
      refine JQ.region ?_
      refine JQ.v (JV.move rfl) rfl ?_
      refine JQ.v (JV.addN (a := 0) (b := 1) rfl rfl (by omega)) rfl ?_
      refine JQ.v (JV.assign rfl) rfl ?_
      refine JQ.nil ?_
      refine JQ.n_then ?_
      refine JQ.round ?_
      refine JQ.seq ?_
      refine JQ.seq ?_
      refine JQ.region ?_
      refine JQ.v (JV.move rfl) rfl ?_
      refine JQ.v (JV.lssN (b := 8) rfl rfl) rfl ?_
      refine JQ.nil ?_
      refine JQ.n_then ?_
      refine JQ.condT rfl ?_
      refine JQ.skip ?_
      refine JQ.n_then ?_
      refine JQ.seq ?_
      refine JQ.block ?_
      refine JQ.any [_, _, _, _, _, _, _, _, _, _] [fun _ => [], fun _ => [], fun _ => [], fun _ => [], fun _ => [], fun _ => [], fun _ => [], fun _ => [], fun _ => [], _] [⟨[], [], [], []⟩, ⟨[], [], [], []⟩, ⟨[], [], [], [1]⟩, ⟨[2], [], [], [1, 2]⟩, ⟨[], [], [], []⟩, ⟨[], [], [], [4]⟩, ⟨[6], [], [], [4, 5]⟩, ⟨[], [], [], [1, 2, 3, 4, 5, 6]⟩, ⟨[], [], [], [0, 1, 2, 3, 4, 5, 6, 7]⟩, ⟨[], [2], [], [0, 1, 2, 3, 4, 5, 6, 7, 8]⟩] Tryd.mixed rfl (by kernel_rfl) ⟨Ob.v rfl (fun _ _ h => by cases h) (fun _ _ _ => rfl) (fun e L' hL => JV.move rfl),
                Ob.v rfl (fun _ _ h => by cases h) (fun _ _ _ => rfl) (fun e L' hL => JV.move rfl),
                Ob.v rfl (fun _ _ h => by cases h) (fun _ _ _ => rfl) (fun e L' hL => JV.idxArr0 rfl rfl Tryd.runUnderlying125 Tryd.sizeOf124 (by omega)),
                Ob.v rfl (fun _ _ h => by cases h) (fun _ _ _ => rfl) (fun e L' hL => JV.load1 2 rfl ((hL 2 (by decide)).trans rfl) Tryd.isAgg124 (rfl)),
                Ob.v rfl (fun _ _ h => by cases h) (fun _ _ _ => rfl) (fun e L' hL => JV.move rfl),
                Ob.v rfl (fun _ _ h => by cases h) (fun _ _ _ => rfl) (fun e L' hL => JV.idxArr0 rfl rfl Tryd.runUnderlying125 Tryd.sizeOf124 (by omega)),
                Ob.v rfl (fun _ _ h => by cases h) (fun _ _ _ => rfl) (fun e L' hL => JV.load1 6 rfl ((hL 6 (by decide)).trans rfl) Tryd.isAgg124 (rfl)),
                Ob.v rfl (fun _ _ h => by cases h) (fun _ _ _ => rfl) (fun e L' hL => JV.addU32 rfl rfl),
                Ob.v rfl (fun _ _ h => by cases h) (fun _ _ _ => rfl) (fun e L' hL => JV.idxArr0 rfl rfl Tryd.runUnderlying125 Tryd.sizeOf124 (by omega)),
                Ob.s 2 rfl (fun _ _ h => by cases h) (fun _ _ _ => rfl) (fun e L' hL => JO.store1 2 rfl ((hL 2 (by decide)).trans rfl) rfl rfl Tryd.sizeOf124 (Nat.le_of_ble_eq_true rfl)), trivial⟩ (fun ev17 => ?_)
      simp only [endF, endL, putF, List.nil_append, List.cons_append]
      refine JQ.n_block ?_
      refine JQ.n_then ?_
      refine JQ.region ?_
      refine JQ.v (JV.move rfl) rfl ?_
      refine JQ.v (JV.addN (b := 1) rfl rfl (by omega)) rfl ?_
      refine JQ.v (JV.assign rfl) rfl ?_
      refine JQ.nil ?_
      refine JQ.n_then ?_
      refine JQ.round ?_
      refine JQ.seq ?_
      refine JQ.seq ?_
      refine JQ.region ?_
      refine JQ.v (JV.move rfl) rfl ?_
      refine JQ.v (JV.lssN (b := 8) rfl rfl) rfl ?_
      refine JQ.nil ?_
      refine JQ.n_then ?_
      refine JQ.condT rfl ?_
      refine JQ.skip ?_
      refine JQ.n_then ?_
      refine JQ.seq ?_
      refine JQ.block ?_
      refine JQ.any [_, _, _, _, _, _, _, _, _, _] [fun _ => [], fun _ => [], fun _ => [], fun _ => [], fun _ => [], fun _ => [], fun _ => [], fun _ => [], fun _ => [], _] [⟨[], [], [], []⟩, ⟨[], [], [], []⟩, ⟨[], [], [], [1]⟩, ⟨[2], [], [], [1, 2]⟩, ⟨[], [], [], []⟩, ⟨[], [], [], [4]⟩, ⟨[6], [], [], [4, 5]⟩, ⟨[], [], [], [1, 2, 3, 4, 5, 6]⟩, ⟨[], [], [], [0, 1, 2, 3, 4, 5, 6, 7]⟩, ⟨[], [2], [], [0, 1, 2, 3, 4, 5, 6, 7, 8]⟩] Tryd.mixed rfl (by kernel_rfl) ⟨Ob.v rfl (fun _ _ h => by cases h) (fun _ _ _ => rfl) (fun e L' hL => JV.move rfl),
                Ob.v rfl (fun _ _ h => by cases h) (fun _ _ _ => rfl) (fun e L' hL => JV.move rfl),
                Ob.v rfl (fun _ _ h => by cases h) (fun _ _ _ => rfl) (fun e L' hL => JV.idxArr0 rfl rfl Tryd.runUnderlying125 Tryd.sizeOf124 (by omega)),
                Ob.v rfl (fun _ _ h => by cases h) (fun _ _ _ => rfl) (fun e L' hL => JV.load1 2 rfl ((hL 2 (by decide)).trans rfl) Tryd.isAgg124 (rfl)),
                Ob.v rfl (fun _ _ h => by cases h) (fun _ _ _ => rfl) (fun e L' hL => JV.move rfl),
                Ob.v rfl (fun _ _ h => by cases h) (fun _ _ _ => rfl) (fun e L' hL => JV.idxArr0 rfl rfl Tryd.runUnderlying125 Tryd.sizeOf124 (by omega)),
                Ob.v rfl (fun _ _ h => by cases h) (fun _ _ _ => rfl) (fun e L' hL => JV.load1 6 rfl ((hL 6 (by decide)).trans rfl) Tryd.isAgg124 (rfl)),
                Ob.v rfl (fun _ _ h => by cases h) (fun _ _ _ => rfl) (fun e L' hL => JV.addU32 rfl rfl),
                Ob.v rfl (fun _ _ h => by cases h) (fun _ _ _ => rfl) (fun e L' hL => JV.idxArr0 rfl rfl Tryd.runUnderlying125 Tryd.sizeOf124 (by omega)),
                Ob.s 2 rfl (fun _ _ h => by cases h) (fun _ _ _ => rfl) (fun e L' hL => JO.store1 2 rfl ((hL 2 (by decide)).trans rfl) rfl rfl Tryd.sizeOf124 (Nat.le_of_ble_eq_true rfl)), trivial⟩ (fun ev17 => ?_)
      simp only [endF, endL, putF, List.nil_append, List.cons_append]
      refine JQ.n_block ?_
      refine JQ.n_then ?_
      refine JQ.region ?_
      refine JQ.v (JV.move rfl) rfl ?_
      refine JQ.v (JV.addN (b := 1) rfl rfl (by omega)) rfl ?_
      refine JQ.v (JV.assign rfl) rfl ?_
      refine JQ.nil ?_
      refine JQ.n_then ?_
      refine JQ.round ?_
      refine JQ.seq ?_
      refine JQ.seq ?_
      refine JQ.region ?_
      refine JQ.v (JV.move rfl) rfl ?_
      refine JQ.v (JV.lssN (b := 8) rfl rfl) rfl ?_
      refine JQ.nil ?_
      refine JQ.n_then ?_
      refine JQ.condT rfl ?_
      refine JQ.skip ?_
      refine JQ.n_then ?_
      refine JQ.seq ?_
      refine JQ.block ?_
      refine JQ.any [_, _, _, _, _, _, _, _, _, _] [fun _ => [], fun _ => [], fun _ => [], fun _ => [], fun _ => [], fun _ => [], fun _ => [], fun _ => [], fun _ => [], _] [⟨[], [], [], []⟩, ⟨[], [], [], []⟩, ⟨[], [], [], [1]⟩, ⟨[2], [], [], [1, 2]⟩, ⟨[], [], [], []⟩, ⟨[], [], [], [4]⟩, ⟨[6], [], [], [4, 5]⟩, ⟨[], [], [], [1, 2, 3, 4, 5, 6]⟩, ⟨[], [], [], [0, 1, 2, 3, 4, 5, 6, 7]⟩, ⟨[], [2], [], [0, 1, 2, 3, 4, 5, 6, 7, 8]⟩] Tryd.mixed rfl (by kernel_rfl) ⟨Ob.v rfl (fun _ _ h => by cases h) (fun _ _ _ => rfl) (fun e L' hL => JV.move rfl),
                Ob.v rfl (fun _ _ h => by cases h) (fun _ _ _ => rfl) (fun e L' hL => JV.move rfl),
                Ob.v rfl (fun _ _ h => by cases h) (fun _ _ _ => rfl) (fun e L' hL => JV.idxArr0 rfl rfl Tryd.runUnderlying125 Tryd.sizeOf124 (by omega)),
                Ob.v rfl (fun _ _ h => by cases h) (fun _ _ _ => rfl) (fun e L' hL => JV.load1 2 rfl ((hL 2 (by decide)).trans rfl) Tryd.isAgg124 (rfl)),
                Ob.v rfl (fun _ _ h => by cases h) (fun _ _ _ => rfl) (fun e L' hL => JV.move rfl),
                Ob.v rfl (fun _ _ h => by cases h) (fun _ _ _ => rfl) (fun e L' hL => JV.idxArr0 rfl rfl Tryd.runUnderlying125 Tryd.sizeOf124 (by omega)),
                Ob.v rfl (fun _ _ h => by cases h) (fun _ _ _ => rfl) (fun e L' hL => JV.load1 6 rfl ((hL 6 (by decide)).trans rfl) Tryd.isAgg124 (rfl)),
                Ob.v rfl (fun _ _ h => by cases h) (fun _ _ _ => rfl) (fun e L' hL => JV.addU32 rfl rfl),
                Ob.v rfl (fun _ _ h => by cases h) (fun _ _ _ => rfl) (fun e L' hL => JV.idxArr0 rfl rfl Tryd.runUnderlying125 Tryd.sizeOf124 (by omega)),
                Ob.s 2 rfl (fun _ _ h => by cases h) (fun _ _ _ => rfl) (fun e L' hL => JO.store1 2 rfl ((hL 2 (by decide)).trans rfl) rfl rfl Tryd.sizeOf124 (Nat.le_of_ble_eq_true rfl)), trivial⟩ (fun ev17 => ?_)
      simp only [endF, endL, putF, List.nil_append, List.cons_append]
      refine JQ.n_block ?_
      refine JQ.n_then ?_
      refine JQ.region ?_
      refine JQ.v (JV.move rfl) rfl ?_
      refine JQ.v (JV.addN (b := 1) rfl rfl (by omega)) rfl ?_
      refine JQ.v (JV.assign rfl) rfl ?_
      refine JQ.nil ?_
      refine JQ.n_then ?_
      refine JQ.round ?_
      refine JQ.seq ?_
      refine JQ.seq ?_
      refine JQ.region ?_
      refine JQ.v (JV.move rfl) rfl ?_
      refine JQ.v (JV.lssN (b := 8) rfl rfl) rfl ?_
      refine JQ.nil ?_
      refine JQ.n_then ?_
      refine JQ.condT rfl ?_
      refine JQ.skip ?_
      refine JQ.n_then ?_
      refine JQ.seq ?_
      refine JQ.block ?_
      refine JQ.any [_, _, _, _, _, _, _, _, _, _] [fun _ => [], fun _ => [], fun _ => [], fun _ => [], fun _ => [], fun _ => [], fun _ => [], fun _ => [], fun _ => [], _] [⟨[], [], [], []⟩, ⟨[], [], [], []⟩, ⟨[], [], [], [1]⟩, ⟨[2], [], [], [1, 2]⟩, ⟨[], [], [], []⟩, ⟨[], [], [], [4]⟩, ⟨[6], [], [], [4, 5]⟩, ⟨[], [], [], [1, 2, 3, 4, 5, 6]⟩, ⟨[], [], [], [0, 1, 2, 3, 4, 5, 6, 7]⟩, ⟨[], [2], [], [0, 1, 2, 3, 4, 5, 6, 7, 8]⟩] Tryd.mixed rfl (by kernel_rfl) ⟨Ob.v rfl (fun _ _ h => by cases h) (fun _ _ _ => rfl) (fun e L' hL => JV.move rfl),
                Ob.v rfl (fun _ _ h => by cases h) (fun _ _ _ => rfl) (fun e L' hL => JV.move rfl),
                Ob.v rfl (fun _ _ h => by cases h) (fun _ _ _ => rfl) (fun e L' hL => JV.idxArr0 rfl rfl Tryd.runUnderlying125 Tryd.sizeOf124 (by omega)),
                Ob.v rfl (fun _ _ h => by cases h) (fun _ _ _ => rfl) (fun e L' hL => JV.load1 2 rfl ((hL 2 (by decide)).trans rfl) Tryd.isAgg124 (rfl)),
                Ob.v rfl (fun _ _ h => by cases h) (fun _ _ _ => rfl) (fun e L' hL => JV.move rfl),
                Ob.v rfl (fun _ _ h => by cases h) (fun _ _ _ => rfl) (fun e L' hL => JV.idxArr0 rfl rfl Tryd.runUnderlying125 Tryd.sizeOf124 (by omega)),
                Ob.v rfl (fun _ _ h => by cases h) (fun _ _ _ => rfl) (fun e L' hL => JV.load1 6 rfl ((hL 6 (by decide)).trans rfl) Tryd.isAgg124 (rfl)),
                Ob.v rfl (fun _ _ h => by cases h) (fun _ _ _ => rfl) (fun e L' hL => JV.addU32 rfl rfl),
                Ob.v rfl (fun _ _ h => by cases h) (fun _ _ _ => rfl) (fun e L' hL => JV.idxArr0 rfl rfl Tryd.runUnderlying125 Tryd.sizeOf124 (by omega)),
                Ob.s 2 rfl (fun _ _ h => by cases h) (fun _ _ _ => rfl) (fun e L' hL => JO.store1 2 rfl ((hL 2 (by decide)).trans rfl) rfl rfl Tryd.sizeOf124 (Nat.le_of_ble_eq_true rfl)), trivial⟩ (fun ev17 => ?_)
      simp only [endF, endL, putF, List.nil_append, List.cons_append]
      refine JQ.n_block ?_
      refine JQ.n_then ?_
      refine JQ.region ?_
      refine JQ.v (JV.move rfl) rfl ?_
      refine JQ.v (JV.addN (b := 1) rfl rfl (by omega)) rfl ?_
      refine JQ.v (JV.assign rfl) rfl ?_
      refine JQ.nil ?_
      refine JQ.n_then ?_
      refine JQ.round ?_
      refine JQ.seq ?_
      refine JQ.seq ?_
      refine JQ.region ?_
      refine JQ.v (JV.move rfl) rfl ?_
      refine JQ.v (JV.lssN (b := 8) rfl rfl) rfl ?_
      refine JQ.nil ?_
      refine JQ.n_then ?_
      refine JQ.condT rfl ?_
      refine JQ.skip ?_
      refine JQ.n_then ?_
      refine JQ.seq ?_
      refine JQ.block ?_
      refine JQ.any [_, _, _, _, _, _, _, _, _, _] [fun _ => [], fun _ => [], fun _ => [], fun _ => [], fun _ => [], fun _ => [], fun _ => [], fun _ => [], fun _ => [], _] [⟨[], [], [], []⟩, ⟨[], [], [], []⟩, ⟨[], [], [], [1]⟩, ⟨[2], [], [], [1, 2]⟩, ⟨[], [], [], []⟩, ⟨[], [], [], [4]⟩, ⟨[6], [], [], [4, 5]⟩, ⟨[], [], [], [1, 2, 3, 4, 5, 6]⟩, ⟨[], [], [], [0, 1, 2, 3, 4, 5, 6, 7]⟩, ⟨[], [2], [], [0, 1, 2, 3, 4, 5, 6, 7, 8]⟩] Tryd.mixed rfl (by kernel_rfl) ⟨Ob.v rfl (fun _ _ h => by cases h) (fun _ _ _ => rfl) (fun e L' hL => JV.move rfl),
                Ob.v rfl (fun _ _ h => by cases h) (fun _ _ _ => rfl) (fun e L' hL => JV.move rfl),
                Ob.v rfl (fun _ _ h => by cases h) (fun _ _ _ => rfl) (fun e L' hL => JV.idxArr0 rfl rfl Tryd.runUnderlying125 Tryd.sizeOf124 (by omega)),
                Ob.v rfl (fun _ _ h => by cases h) (fun _ _ _ => rfl) (fun e L' hL => JV.load1 2 rfl ((hL 2 (by decide)).trans rfl) Tryd.isAgg124 (rfl)),
                Ob.v rfl (fun _ _ h => by cases h) (fun _ _ _ => rfl) (fun e L' hL => JV.move rfl),
                Ob.v rfl (fun _ _ h => by cases h) (fun _ _ _ => rfl) (fun e L' hL => JV.idxArr0 rfl rfl Tryd.runUnderlying125 Tryd.sizeOf124 (by omega)),
                Ob.v rfl (fun _ _ h => by cases h) (fun _ _ _ => rfl) (fun e L' hL => JV.load1 6 rfl ((hL 6 (by decide)).trans rfl) Tryd.isAgg124 (rfl)),
                Ob.v rfl (fun _ _ h => by cases h) (fun _ _ _ => rfl) (fun e L' hL => JV.addU32 rfl rfl),
                Ob.v rfl (fun _ _ h => by cases h) (fun _ _ _ => rfl) (fun e L' hL => JV.idxArr0 rfl rfl Tryd.runUnderlying125 Tryd.sizeOf124 (by omega)),
                Ob.s 2 rfl (fun _ _ h => by cases h) (fun _ _ _ => rfl) (fun e L' hL => JO.store1 2 rfl ((hL 2 (by decide)).trans rfl) rfl rfl Tryd.sizeOf124 (Nat.le_of_ble_eq_true rfl)), trivial⟩ (fun ev17 => ?_)
      simp only [endF, endL, putF, List.nil_append, List.cons_append]
      refine JQ.n_block ?_
      refine JQ.n_then ?_
      refine JQ.region ?_
      refine JQ.v (JV.move rfl) rfl ?_
      refine JQ.v (JV.addN (b := 1) rfl rfl (by omega)) rfl ?_
      refine JQ.v (JV.assign rfl) rfl ?_
      refine JQ.nil ?_
      refine JQ.n_then ?_
      refine JQ.round ?_
      refine JQ.seq ?_
      refine JQ.seq ?_
      refine JQ.region ?_
      refine JQ.v (JV.move rfl) rfl ?_
      refine JQ.v (JV.lssN (b := 8) rfl rfl) rfl ?_
      refine JQ.nil ?_
      refine JQ.n_then ?_
      refine JQ.condT rfl ?_
      refine JQ.skip ?_
      refine JQ.n_then ?_
      refine JQ.seq ?_
      refine JQ.block ?_
      refine JQ.any [_, _, _, _, _, _, _, _, _, _] [fun _ => [], fun _ => [], fun _ => [], fun _ => [], fun _ => [], fun _ => [], fun _ => [], fun _ => [], fun _ => [], _] [⟨[], [], [], []⟩, ⟨[], [], [], []⟩, ⟨[], [], [], [1]⟩, ⟨[2], [], [], [1, 2]⟩, ⟨[], [], [], []⟩, ⟨[], [], [], [4]⟩, ⟨[6], [], [], [4, 5]⟩, ⟨[], [], [], [1, 2, 3, 4, 5, 6]⟩, ⟨[], [], [], [0, 1, 2, 3, 4, 5, 6, 7]⟩, ⟨[], [2], [], [0, 1, 2, 3, 4, 5, 6, 7, 8]⟩] Tryd.mixed rfl (by kernel_rfl) ⟨Ob.v rfl (fun _ _ h => by cases h) (fun _ _ _ => rfl) (fun e L' hL => JV.move rfl),
                Ob.v rfl (fun _ _ h => by cases h) (fun _ _ _ => rfl) (fun e L' hL => JV.move rfl),
                Ob.v rfl (fun _ _ h => by cases h) (fun _ _ _ => rfl) (fun e L' hL => JV.idxArr0 rfl rfl Tryd.runUnderlying125 Tryd.sizeOf124 (by omega)),
                Ob.v rfl (fun _ _ h => by cases h) (fun _ _ _ => rfl) (fun e L' hL => JV.load1 2 rfl ((hL 2 (by decide)).trans rfl) Tryd.isAgg124 (rfl)),
                Ob.v rfl (fun _ _ h => by cases h) (fun _ _ _ => rfl) (fun e L' hL => JV.move rfl),
                Ob.v rfl (fun _ _ h => by cases h) (fun _ _ _ => rfl) (fun e L' hL => JV.idxArr0 rfl rfl Tryd.runUnderlying125 Tryd.sizeOf124 (by omega)),
                Ob.v rfl (fun _ _ h => by cases h) (fun _ _ _ => rfl) (fun e L' hL => JV.load1 6 rfl ((hL 6 (by decide)).trans rfl) Tryd.isAgg124 (rfl)),
                Ob.v rfl (fun _ _ h => by cases h) (fun _ _ _ => rfl) (fun e L' hL => JV.addU32 rfl rfl),
                Ob.v rfl (fun _ _ h => by cases h) (fun _ _ _ => rfl) (fun e L' hL => JV.idxArr0 rfl rfl Tryd.runUnderlying125 Tryd.sizeOf124 (by omega)),
                Ob.s 2 rfl (fun _ _ h => by cases h) (fun _ _ _ => rfl) (fun e L' hL => JO.store1 2 rfl ((hL 2 (by decide)).trans rfl) rfl rfl Tryd.sizeOf124 (Nat.le_of_ble_eq_true rfl)), trivial⟩ (fun ev17 => ?_)
      simp only [endF, endL, putF, List.nil_append, List.cons_append]
      refine JQ.n_block ?_
      refine JQ.n_then ?_
      refine JQ.region ?_
      refine JQ.v (JV.move rfl) rfl ?_
      refine JQ.v (JV.addN (b := 1) rfl rfl (by omega)) rfl ?_
      refine JQ.v (JV.assign rfl) rfl ?_
      refine JQ.nil ?_
      refine JQ.n_then ?_
      refine JQ.round ?_
      refine JQ.seq ?_
      refine JQ.seq ?_
      refine JQ.region ?_
      refine JQ.v (JV.move rfl) rfl ?_
      refine JQ.v (JV.lssN (b := 8) rfl rfl) rfl ?_
      refine JQ.nil ?_
      refine JQ.n_then ?_
      refine JQ.condT rfl ?_
      refine JQ.skip ?_
      refine JQ.n_then ?_
      refine JQ.seq ?_
      refine JQ.block ?_
      refine JQ.any [_, _, _, _, _, _, _, _, _, _] [fun _ => [], fun _ => [], fun _ => [], fun _ => [], fun _ => [], fun _ => [], fun _ => [], fun _ => [], fun _ => [], _] [⟨[], [], [], []⟩, ⟨[], [], [], []⟩, ⟨[], [], [], [1]⟩, ⟨[2], [], [], [1, 2]⟩, ⟨[], [], [], []⟩, ⟨[], [], [], [4]⟩, ⟨[6], [], [], [4, 5]⟩, ⟨[], [], [], [1, 2, 3, 4, 5, 6]⟩, ⟨[], [], [], [0, 1, 2, 3, 4, 5, 6, 7]⟩, ⟨[], [2], [], [0, 1, 2, 3, 4, 5, 6, 7, 8]⟩] Tryd.mixed rfl (by kernel_rfl) ⟨Ob.v rfl (fun _ _ h => by cases h) (fun _ _ _ => rfl) (fun e L' hL => JV.move rfl),
                Ob.v rfl (fun _ _ h => by cases h) (fun _ _ _ => rfl) (fun e L' hL => JV.move rfl),
                Ob.v rfl (fun _ _ h => by cases h) (fun _ _ _ => rfl) (fun e L' hL => JV.idxArr0 rfl rfl Tryd.runUnderlying125 Tryd.sizeOf124 (by omega)),
                Ob.v rfl (fun _ _ h => by cases h) (fun _ _ _ => rfl) (fun e L' hL => JV.load1 2 rfl ((hL 2 (by decide)).trans rfl) Tryd.isAgg124 (rfl)),
                Ob.v rfl (fun _ _ h => by cases h) (fun _ _ _ => rfl) (fun e L' hL => JV.move rfl),
                Ob.v rfl (fun _ _ h => by cases h) (fun _ _ _ => rfl) (fun e L' hL => JV.idxArr0 rfl rfl Tryd.runUnderlying125 Tryd.sizeOf124 (by omega)),
                Ob.v rfl (fun _ _ h => by cases h) (fun _ _ _ => rfl) (fun e L' hL => JV.load1 6 rfl ((hL 6 (by decide)).trans rfl) Tryd.isAgg124 (rfl)),
                Ob.v rfl (fun _ _ h => by cases h) (fun _ _ _ => rfl) (fun e L' hL => JV.addU32 rfl rfl),
                Ob.v rfl (fun _ _ h => by cases h) (fun _ _ _ => rfl) (fun e L' hL => JV.idxArr0 rfl rfl Tryd.runUnderlying125 Tryd.sizeOf124 (by omega)),
                Ob.s 2 rfl (fun _ _ h => by cases h) (fun _ _ _ => rfl) (fun e L' hL => JO.store1 2 rfl ((hL 2 (by decide)).trans rfl) rfl rfl Tryd.sizeOf124 (Nat.le_of_ble_eq_true rfl)), trivial⟩ (fun ev17 => ?_)
      simp only [endF, endL, putF, List.nil_append, List.cons_append]
      refine JQ.n_block ?_
      refine JQ.n_then ?_
      refine JQ.region ?_
      refine JQ.v (JV.move rfl) rfl ?_
      refine JQ.v (JV.addN (b := 1) rfl rfl (by omega)) rfl ?_
      refine JQ.v (JV.assign rfl) rfl ?_
      refine JQ.nil ?_
      refine JQ.n_then ?_
      refine JQ.round ?_
      refine JQ.seq ?_
      refine JQ.seq ?_
      refine JQ.region ?_
      refine JQ.v (JV.move rfl) rfl ?_
      refine JQ.v (JV.lssN (b := 8) rfl rfl) rfl ?_
      refine JQ.nil ?_
      refine JQ.n_then ?_
      refine JQ.condF rfl ?_
      refine JQ.exit ?_
      refine JQ.e_then ?_
      refine JQ.e_then ?_
      refine JQ.e_here ?_
      refine JQ.n_block ?_
      refine JQ.n_then ?_
      refine JQ.region ?_
      refine JQ.v (JV.move rfl) rfl ?_
      refine JQ.v (JV.addN (b := 64) rfl rfl (by omega)) rfl ?_
      refine JQ.v (JV.assign rfl) rfl ?_
      refine JQ.nil ?_
      refine JQ.n_then ?_
      exact JQ.nextI (q + 1) (by omega) (by omega) (subk_cons rfl (subk_cons rfl (subk_cons rfl (subk_cons rfl subk_nil)))) (subr_cons rfl (subr_cons (by rw [Pl.foldB_succ]; rfl) (subr_cons rfl (subr_cons rfl subr_nil))))
  · refine JQ.exit ?_
    refine JQ.e_then ?_
    refine JQ.e_then ?_
    refine JQ.e_here ?_
    refine JQ.n_then ?_
    refine JQ.seq ?_
    refine JQ.region ?_
    refine JQ.x (JO.alloc 4 (zs := ((List.replicate 32 0).map b8)) Tryd.zeroValue121 rfl) rfl ?_
    intro i18_0
    refine JQ.nil ?_
    refine JQ.n_then ?_
    refine JQ.seq ?_
    refine JQ.seq ?_
    refine JQ.region ?_
    refine JQ.v (JV.assign rfl) rfl ?_
    refine JQ.nil ?_
    refine JQ.n_then ?_
    refine JQ.block ?_
    rw [show q = ((Pl.padded m).length / 64) from by omega]
    refine JQ.loopI (ι := Nat) (fun i => [(2, .pointer (some ⟨i0_0, 0, none⟩)), (3, .pointer (some ⟨i1_1, 0, none⟩)), (12, .pointer (some ⟨i18_0, 0, none⟩)), (13, .int .i64 ((i : Nat) : Int))]) (fun i => [(1, .cells i0_0 ((List.replicate 32 0).map b8) 121 (0, 0)), (2, .cells i1_1 ((Pl.foldB ((Pl.padded m).length / 64) Pl.S0 (Pl.padded m)).list.map u32) 125 (0, 0)), (4, .cells i18_0 (((Pl.out (Pl.foldB ((Pl.padded m).length / 64) Pl.S0 (Pl.padded m))).take i ++ List.replicate (32 - i) 0).map b8) 121 (0, 0))]) (fun i => i ≤ 32) (fun i => 32 - i) 0 (by omega) (subk_cons rfl (subk_cons rfl (subk_cons rfl (subk_cons rfl subk_nil)))) (subr_cons rfl (subr_cons rfl (subr_cons rfl subr_nil))) ?_
    intro j hj
    refine JQ.seq ?_
    refine JQ.seq ?_
    refine JQ.region ?_
    refine JQ.v (JV.move rfl) rfl ?_
    refine JQ.v (JV.lssN (b := 32) rfl rfl) rfl ?_
    refine JQ.nil ?_
    refine JQ.n_then ?_
    refine JQ.condP rfl (fun h132 => ?_) (fun h132 => ?_)
    · refine JQ.skip ?_
      refine JQ.n_then ?_
      refine JQ.seq ?_
      refine JQ.block ?_
      refine JQ.region ?_
      refine JQ.v (JV.move rfl) rfl ?_
      refine JQ.v (JV.move rfl) rfl ?_
      refine JQ.v (JV.quoN (b := 4) rfl rfl (by omega)) rfl ?_
      refine JQ.v (JV.idxArr0 rfl rfl Tryd.runUnderlying125 Tryd.sizeOf124 (by omega)) rfl ?_
      refine JQ.v (JV.load1 2 rfl rfl Tryd.isAgg124 (getU _ _ (by rw [Pl.S8.len]; omega))) rfl ?_
      refine JQ.v (JV.move rfl) rfl ?_
      refine JQ.v (JV.remN (b := 4) rfl rfl (by omega)) rfl ?_
      refine JQ.v (JV.mulN (a := 8) rfl rfl (by omega)) rfl ?_
      refine JQ.v (JV.subN (a := 24) rfl rfl (by omega)) rfl ?_
      refine JQ.v (JV.shrU32 rfl rfl (by omega)) rfl ?_
      refine JQ.v (JV.convU8 Tryd.runUnderlying124 Tryd.runUnderlying5 rfl) rfl ?_
      refine JQ.v (JV.idxArr0 rfl rfl Tryd.runUnderlying121 Tryd.sizeOf5 (by omega)) rfl ?_
      refine JQ.s (JO.store1 4 rfl rfl rfl rfl Tryd.sizeOf5 (by simp [Pl.out_len]; omega)) ?_
      rw [setBN, show (UInt8.ofNat (_ / 2 ^ (24 - 8 * (j % 4)))) = Pl.outB (Pl.foldB ((Pl.padded m).length / 64) Pl.S0 (Pl.padded m)) j from rfl, Pl.out_set _ _ h132]
      refine JQ.nil ?_
      refine JQ.n_block ?_
      refine JQ.n_then ?_
      refine JQ.region ?_
      refine JQ.v (JV.move rfl) rfl ?_
      refine JQ.v (JV.addN (b := 1) rfl rfl (by omega)) rfl ?_
      refine JQ.v (JV.assign rfl) rfl ?_
      refine JQ.nil ?_
      refine JQ.n_then ?_
      exact JQ.nextI (j + 1) (by omega) (by omega) (subk_cons rfl (subk_cons rfl (subk_cons rfl (subk_cons rfl subk_nil)))) (subr_cons rfl (subr_cons rfl (subr_cons rfl subr_nil)))
    · refine JQ.exit ?_
      refine JQ.e_then ?_
      refine JQ.e_then ?_
      refine JQ.e_here ?_
      refine JQ.n_then ?_
      refine JQ.seq ?_
      refine JQ.region ?_
      refine JQ.v (JV.loadV 4 rfl rfl Tryd.isAgg121 Tryd.sizeOf121 (by simp [Pl.out_len]; omega)) rfl ?_
      refine JQ.s (JO.storeV 1 rfl rfl rfl (allB _) Tryd.sizeOf121 (by simp [Pl.out_len]; omega) rfl) ?_
      refine JQ.nil ?_
      refine JQ.n_then ?_
      refine JQ.ret ?_
      rw [show j = 32 from by omega, List.take_of_length_le (by simp [Pl.out_len])]
      refine JQ.doneC 1 Tryd.results83 rfl rfl Tryd.isAgg121 Tryd.sizeOf121 (by simp [Pl.out_len]) ?_
      exact fun w hw => ⟨by simp only [Nat.sub_self, List.replicate_zero, List.append_nil]; rfl, hw.below⟩
end Go.Fw
end
section
open Go.RowKit
set_option maxRecDepth 100000
set_option linter.unusedVariables false
set_option linter.unusedSimpArgs false
namespace Go.Fw
open Go.Proofs
theorem take_snoc (l : List UInt8) (i : Nat) (h : i < l.length) : l.take (i + 1) = l.take i ++ [l.getD i 0] := by
  rw [List.take_succ_eq_append_getElem h]; simp [h]
theorem b32_pure (l : List UInt8) (hl : l.length = 32) :
    Pure Tryd.prog 82 #[.agg (l.map b8).toArray] (str l) := by
  intro w
  refine enterA (vs := [_]) Tryd.func82 rfl 17 rfl [] (MemOk.start w) ?_
  refine JQ.seq ?_
  refine JQ.region ?_
  refine JQ.x (JO.box 1 rfl rfl) rfl ?_
  intro i0_0
  refine JQ.v (JV.assign rfl) rfl ?_
  refine JQ.nil ?_
  refine JQ.n_then ?_
  refine JQ.seq ?_
  refine JQ.region ?_
  refine JQ.v (JV.assign rfl) rfl ?_
  refine JQ.nilRow 2 5 1 ?_
  refine JQ.nil ?_
  refine JQ.n_then ?_
  refine JQ.seq ?_
  refine JQ.seq ?_
  refine JQ.region ?_
  refine JQ.v (JV.assign rfl) rfl ?_
  refine JQ.nil ?_
  refine JQ.n_then ?_
  refine JQ.block ?_
  refine JQ.loopI (ι := Nat × Value) (fun i => [(1, .pointer (some ⟨i0_0, 0, none⟩)), (3, i.2), (4, .int .i64 ((i.1 : Nat) : Int))]) (fun i => [(1, .cells i0_0 (l.map b8) 121 (0, 0)), (2, .row i.2 5 1 i.1 ((l.take i.1).map b8))]) (fun i => i.1 ≤ 32) (fun i => 32 - i.1) (0, _) (Nat.zero_le _) (subk_cons rfl (subk_cons rfl (subk_cons rfl subk_nil))) (subr_cons rfl (subr_cons rfl subr_nil)) ?_
  intro i hi
  refine JQ.seq ?_
  refine JQ.seq ?_
  refine JQ.region ?_
  refine JQ.v (JV.move rfl) rfl ?_
  refine JQ.v (JV.lssN (b := 32) rfl rfl) rfl ?_
  refine JQ.nil ?_
  refine JQ.n_then ?_
  refine JQ.condP rfl (fun h6 => ?_) (fun h6 => ?_)
  · refine JQ.skip ?_
    refine JQ.n_then ?_
    refine JQ.seq ?_
    refine JQ.block ?_
    refine JQ.region ?_
    refine JQ.v (JV.move rfl) rfl ?_
    refine JQ.v (JV.move rfl) rfl ?_
    refine JQ.v (JV.idxArr0 rfl rfl Tryd.runUnderlying121 Tryd.sizeOf5 (by omega)) rfl ?_
    refine JQ.v (JV.load1 1 rfl rfl Tryd.isAgg5 (getB _ _ (by omega))) rfl ?_
    refine JQ.x (JO.buildSlice 3 (us := [.int .u8 ((l.getD i.1 0).toNat : Int)]) (e := 5) (evp_cons rfl evp_nil) (fun w => by kernel_rfl)) rfl ?_
    intro i5_4
    refine JQ.x (JO.append 2 elem5 rfl rfl rfl (fun w hw => Src.ro Tryd.underlying30 (reads_cells (hw.blk (id := 3) rfl) (show (_ : List Value) = ([.int .u8 ((l.getD i.1 0).toNat : Int)] : List Value) from rfl) rfl (by decide))) rfl (by omega) (by omega)) rfl ?_
    intro i5_5
    rw [snocC, ← take_snoc l _ (by omega)]
    refine JQ.v (JV.assign rfl) rfl ?_
    refine JQ.nil ?_
    refine JQ.n_block ?_
    refine JQ.n_then ?_
    refine JQ.region ?_
    refine JQ.v (JV.move rfl) rfl ?_
    refine JQ.v (JV.addN (b := 1) rfl rfl (by omega)) rfl ?_
    refine JQ.v (JV.assign rfl) rfl ?_
    refine JQ.nil ?_
    refine JQ.n_then ?_
    exact JQ.nextI (i.1 + 1, i5_5) (by show i.1 + 1 ≤ 32; omega) (by show 32 - (i.1 + 1) < 32 - i.1; omega) (subk_cons rfl (subk_cons rfl (subk_cons rfl subk_nil))) (subr_cons rfl (subr_cons rfl subr_nil))
  · refine JQ.exit ?_
    refine JQ.e_then ?_
    refine JQ.e_then ?_
    refine JQ.e_here ?_
    refine JQ.n_then ?_
    refine JQ.seq ?_
    rw [show i.1 = 32 from by omega, List.take_of_length_le (by omega)]
    refine JQ.region ?_
    refine JQ.v (JV.move rfl) rfl ?_
    refine JQ.v (JV.bytesStrW 2 (l := l) Tryd.runUnderlying30 Tryd.runUnderlying5 Tryd.runUnderlying9 rfl rfl) rfl ?_
    refine JQ.v (JV.assign rfl) rfl ?_
    refine JQ.nil ?_
    refine JQ.n_then ?_
    refine JQ.ret ?_
    refine JQ.done1 Tryd.results82 rfl ?_
    exact fun w hw => ⟨rfl, hw.below⟩

theorem padkey_spec (k : List UInt8) (hk : k.length ≤ 1099511627776) (c : UInt8) (w : World) (hG : Gl 1 (Pl.K.map u32) w) :
    Calls Tryd.prog 81 #[str k, .int .u8 (c.toNat : Int)] w fun e w' => ∃ v, e = .returned v ∧ w'.ownsRow w.heap.size 5 1 v (Pl.padK (Pl.key k) c).length ((Pl.padK (Pl.key k) c).map b8) ∧ Below w.heap.size w w' := by
  
  refine enterA (vs := [_, _]) Tryd.func81 rfl 35 rfl [(901, .ro (gv 1 64) 1 64 (Pl.K.map u32))] (MemOk.start1 901 hG) ?_
  refine JQ.seq ?_
  refine JQ.region ?_
  refine JQ.v (JV.assign rfl) rfl ?_
  refine JQ.nil ?_
  refine JQ.n_then ?_
  refine JQ.seq ?_
  refine JQ.region ?_
  refine JQ.v (JV.move rfl) rfl ?_
  refine JQ.v (JV.assign rfl) rfl ?_
  refine JQ.nil ?_
  refine JQ.n_then ?_
  refine JQ.seq ?_
  refine JQ.seq ?_
  refine JQ.region ?_
  refine JQ.v (JV.move rfl) rfl ?_
  refine JQ.v (JV.lenStr rfl Tryd.runUnderlying9) rfl ?_
  refine JQ.v (JV.gtrN (b := 64) rfl rfl) rfl ?_
  refine JQ.nil ?_
  refine JQ.n_then ?_
  refine JQ.condP rfl (fun h12 => ?_) (fun h12 => ?_)
  · refine JQ.region ?_
    refine JQ.v (JV.move rfl) rfl ?_
    refine JQ.x (JO.strBytes 1  Tryd.runUnderlying9 Tryd.runUnderlying30 Tryd.runUnderlying5 rfl (by omega)) rfl ?_
    intro i3_1
    refine JQ.v (JV.callM Tryd.call83 (evs_cons rfl evs_nil) (fun w hw => rsum_spec _ k (by omega) w (hw.reads (id := 901) rfl) (hw.reads (id := 1) rfl))) rfl ?_
    refine JQ.v (JV.call Tryd.call82 (evs_cons rfl evs_nil) (b32_pure _ (Pl.sha_len k))) rfl ?_
    refine JQ.v (JV.assign rfl) rfl ?_
    refine JQ.nil ?_
    refine JQ.n_then ?_
    refine JQ.seq ?_
    refine JQ.region ?_
    refine JQ.v (JV.assign rfl) rfl ?_
    refine JQ.nilRow 50 5 1 ?_
    refine JQ.nil ?_
    refine JQ.n_then ?_
    refine JQ.seq ?_
    refine JQ.seq ?_
    refine JQ.region ?_
    refine JQ.v (JV.assign rfl) rfl ?_
    refine JQ.nil ?_
    refine JQ.n_then ?_
    refine JQ.block ?_
    refine JQ.loopI (ι := Nat × Value) (fun i => [(1, .int .u8 (c.toNat : Int)), (5, str (Pl.sha k)), (6, i.2), (7, .int .i64 ((i.1 : Nat) : Int))]) (fun i => [(50, .row i.2 5 1 i.1 (((Pl.padK (Pl.sha k) c).take i.1).map b8))]) (fun i => i.1 ≤ 64) (fun i => 64 - i.1) (0, _) (Nat.zero_le _) (subk_cons rfl (subk_cons rfl (subk_cons rfl (subk_cons rfl subk_nil)))) (subr_cons rfl subr_nil) ?_
    intro i hi
    refine JQ.seq ?_
    refine JQ.seq ?_
    refine JQ.region ?_
    refine JQ.v (JV.move rfl) rfl ?_
    refine JQ.v (JV.lssN (b := 64) rfl rfl) rfl ?_
    refine JQ.nil ?_
    refine JQ.n_then ?_
    refine JQ.condP rfl (fun h18 => ?_) (fun h18 => ?_)
    · refine JQ.skip ?_
      refine JQ.n_then ?_
      refine JQ.seq ?_
      refine JQ.block ?_
      refine JQ.seq ?_
      refine JQ.region ?_
      refine JQ.v (JV.assign rfl) rfl ?_
      refine JQ.nil ?_
      refine JQ.n_then ?_
      refine JQ.seq ?_
      refine JQ.seq ?_
      refine JQ.region ?_
      refine JQ.v (JV.move rfl) rfl ?_
      refine JQ.v (JV.move rfl) rfl ?_
      refine JQ.v (JV.lenStr rfl Tryd.runUnderlying9) rfl ?_
      refine JQ.v (JV.lssN rfl rfl) rfl ?_
      refine JQ.nil ?_
      refine JQ.n_then ?_
      refine JQ.condP rfl (fun h24 => ?_) (fun h24 => ?_)
      · refine JQ.region ?_
        refine JQ.v (JV.move rfl) rfl ?_
        refine JQ.v (JV.move rfl) rfl ?_
        refine JQ.v (JV.idxStrD rfl rfl Tryd.runUnderlying9 (by omega)) rfl ?_
        refine JQ.v (JV.assign rfl) rfl ?_
        refine JQ.nil ?_
        refine JQ.n_then ?_
        refine JQ.region ?_
        refine JQ.v (JV.move rfl) rfl ?_
        refine JQ.v (JV.move rfl) rfl ?_
        refine JQ.v (JV.move rfl) rfl ?_
        refine JQ.v (JV.xorU8 rfl rfl (by first | exact UInt8.toNat_lt _ | decide) (UInt8.toNat_lt _)) rfl ?_
        refine JQ.x (JO.buildSlice 51 (us := [.int .u8 (((((Pl.sha k).getD i.1 0).toNat) ^^^ c.toNat : Nat) : Int)]) (e := 5) (evp_cons rfl evp_nil) (fun w => by kernel_rfl)) rfl ?_
        intro i11_4
        refine JQ.x (JO.append 50 elem5 rfl rfl rfl (fun w hw => Src.ro Tryd.underlying30 (reads_cells (hw.blk (id := 51) rfl) (show (_ : List Value) = ([.int .u8 (((((Pl.sha k).getD i.1 0).toNat) ^^^ c.toNat : Nat) : Int)] : List Value) from rfl) rfl (by decide))) rfl (by omega) (by omega)) rfl ?_
        intro i11_5
        rw [snocX, ← Pl.pad0_getA _ _ h24, ← Pl.padK_take (Pl.sha k) c i.1 (by rw [Pl.sha_len]; omega) (by omega)]
        refine JQ.v (JV.assign rfl) rfl ?_
        refine JQ.nil ?_
        refine JQ.n_block ?_
        refine JQ.n_then ?_
        refine JQ.region ?_
        refine JQ.v (JV.move rfl) rfl ?_
        refine JQ.v (JV.addN (b := 1) rfl rfl (by omega)) rfl ?_
        refine JQ.v (JV.assign rfl) rfl ?_
        refine JQ.nil ?_
        refine JQ.n_then ?_
        exact JQ.nextI (i.1 + 1, i11_5) (by show i.1 + 1 ≤ 64; omega) (by show 64 - (i.1 + 1) < 64 - i.1; omega) (subk_cons rfl (subk_cons rfl (subk_cons rfl (subk_cons rfl subk_nil)))) (subr_cons rfl subr_nil)
      · refine JQ.skip ?_
        refine JQ.n_then ?_
        refine JQ.region ?_
        refine JQ.v (JV.move rfl) rfl ?_
        refine JQ.v (JV.move rfl) rfl ?_
        refine JQ.v (JV.move rfl) rfl ?_
        refine JQ.v (JV.xorU8 (a := 0) rfl rfl (by first | exact UInt8.toNat_lt _ | decide) (UInt8.toNat_lt _)) rfl ?_
        refine JQ.x (JO.buildSlice 51 (us := [.int .u8 ((((0 : Nat)) ^^^ c.toNat : Nat) : Int)]) (e := 5) (evp_cons rfl evp_nil) (fun w => by kernel_rfl)) rfl ?_
        intro i11_4
        refine JQ.x (JO.append 50 elem5 rfl rfl rfl (fun w hw => Src.ro Tryd.underlying30 (reads_cells (hw.blk (id := 51) rfl) (show (_ : List Value) = ([.int .u8 ((((0 : Nat)) ^^^ c.toNat : Nat) : Int)] : List Value) from rfl) rfl (by decide))) rfl (by omega) (by omega)) rfl ?_
        intro i11_5
        rw [snocX0, ← Pl.pad0_getB _ _ h24, ← Pl.padK_take (Pl.sha k) c i.1 (by rw [Pl.sha_len]; omega) (by omega)]
        refine JQ.v (JV.assign rfl) rfl ?_
        refine JQ.nil ?_
        refine JQ.n_block ?_
        refine JQ.n_then ?_
        refine JQ.region ?_
        refine JQ.v (JV.move rfl) rfl ?_
        refine JQ.v (JV.addN (b := 1) rfl rfl (by omega)) rfl ?_
        refine JQ.v (JV.assign rfl) rfl ?_
        refine JQ.nil ?_
        refine JQ.n_then ?_
        exact JQ.nextI (i.1 + 1, i11_5) (by show i.1 + 1 ≤ 64; omega) (by show 64 - (i.1 + 1) < 64 - i.1; omega) (subk_cons rfl (subk_cons rfl (subk_cons rfl (subk_cons rfl subk_nil)))) (subr_cons rfl subr_nil)
    · refine JQ.exit ?_
      refine JQ.e_then ?_
      refine JQ.e_then ?_
      refine JQ.e_here ?_
      refine JQ.n_then ?_
      refine JQ.seq ?_
      refine JQ.region ?_
      refine JQ.v (JV.move rfl) rfl ?_
      refine JQ.v (JV.assign rfl) rfl ?_
      refine JQ.nil ?_
      refine JQ.n_then ?_
      refine JQ.ret ?_
      refine JQ.done1 Tryd.results81 rfl ?_
      exact fun w hw => ⟨_, rfl, by have h := hw.row (id := 50) rfl; rw [show i.1 = 64 from by omega, List.take_of_length_le (by rw [Pl.padK_len _ _ (by rw [Pl.sha_len]; omega)]; omega)] at h; rw [show Pl.key k = (Pl.sha k) from by unfold Pl.key; exact if_pos h12]; rwa [show (Pl.padK (Pl.sha k) c).length = 64 from Pl.padK_len _ _ (by rw [Pl.sha_len]; omega)], hw.below⟩
  · refine JQ.skip ?_
    refine JQ.n_then ?_
    refine JQ.seq ?_
    refine JQ.region ?_
    refine JQ.v (JV.assign rfl) rfl ?_
    refine JQ.nilRow 50 5 1 ?_
    refine JQ.nil ?_
    refine JQ.n_then ?_
    refine JQ.seq ?_
    refine JQ.seq ?_
    refine JQ.region ?_
    refine JQ.v (JV.assign rfl) rfl ?_
    refine JQ.nil ?_
    refine JQ.n_then ?_
    refine JQ.block ?_
    refine JQ.loopI (ι := Nat × Value) (fun i => [(1, .int .u8 (c.toNat : Int)), (5, str k), (6, i.2), (7, .int .i64 ((i.1 : Nat) : Int))]) (fun i => [(50, .row i.2 5 1 i.1 (((Pl.padK k c).take i.1).map b8))]) (fun i => i.1 ≤ 64) (fun i => 64 - i.1) (0, _) (Nat.zero_le _) (subk_cons rfl (subk_cons rfl (subk_cons rfl (subk_cons rfl subk_nil)))) (subr_cons rfl subr_nil) ?_
    intro i hi
    refine JQ.seq ?_
    refine JQ.seq ?_
    refine JQ.region ?_
    refine JQ.v (JV.move rfl) rfl ?_
    refine JQ.v (JV.lssN (b := 64) rfl rfl) rfl ?_
    refine JQ.nil ?_
    refine JQ.n_then ?_
    refine JQ.condP rfl (fun h18 => ?_) (fun h18 => ?_)
    · refine JQ.skip ?_
      refine JQ.n_then ?_
      refine JQ.seq ?_
      refine JQ.block ?_
      refine JQ.seq ?_
      refine JQ.region ?_
      refine JQ.v (JV.assign rfl) rfl ?_
      refine JQ.nil ?_
      refine JQ.n_then ?_
      refine JQ.seq ?_
      refine JQ.seq ?_
      refine JQ.region ?_
      refine JQ.v (JV.move rfl) rfl ?_
      refine JQ.v (JV.move rfl) rfl ?_
      refine JQ.v (JV.lenStr rfl Tryd.runUnderlying9) rfl ?_
      refine JQ.v (JV.lssN rfl rfl) rfl ?_
      refine JQ.nil ?_
      refine JQ.n_then ?_
      refine JQ.condP rfl (fun h24 => ?_) (fun h24 => ?_)
      · refine JQ.region ?_
        refine JQ.v (JV.move rfl) rfl ?_
        refine JQ.v (JV.move rfl) rfl ?_
        refine JQ.v (JV.idxStrD rfl rfl Tryd.runUnderlying9 (by omega)) rfl ?_
        refine JQ.v (JV.assign rfl) rfl ?_
        refine JQ.nil ?_
        refine JQ.n_then ?_
        refine JQ.region ?_
        refine JQ.v (JV.move rfl) rfl ?_
        refine JQ.v (JV.move rfl) rfl ?_
        refine JQ.v (JV.move rfl) rfl ?_
        refine JQ.v (JV.xorU8 rfl rfl (by first | exact UInt8.toNat_lt _ | decide) (UInt8.toNat_lt _)) rfl ?_
        refine JQ.x (JO.buildSlice 51 (us := [.int .u8 ((((k.getD i.1 0).toNat) ^^^ c.toNat : Nat) : Int)]) (e := 5) (evp_cons rfl evp_nil) (fun w => by kernel_rfl)) rfl ?_
        intro i11_4
        refine JQ.x (JO.append 50 elem5 rfl rfl rfl (fun w hw => Src.ro Tryd.underlying30 (reads_cells (hw.blk (id := 51) rfl) (show (_ : List Value) = ([.int .u8 ((((k.getD i.1 0).toNat) ^^^ c.toNat : Nat) : Int)] : List Value) from rfl) rfl (by decide))) rfl (by omega) (by omega)) rfl ?_
        intro i11_5
        rw [snocX, ← Pl.pad0_getA _ _ h24, ← Pl.padK_take k c i.1 (by omega) (by omega)]
        refine JQ.v (JV.assign rfl) rfl ?_
        refine JQ.nil ?_
        refine JQ.n_block ?_
        refine JQ.n_then ?_
        refine JQ.region ?_
        refine JQ.v (JV.move rfl) rfl ?_
        refine JQ.v (JV.addN (b := 1) rfl rfl (by omega)) rfl ?_
        refine JQ.v (JV.assign rfl) rfl ?_
        refine JQ.nil ?_
        refine JQ.n_then ?_
        exact JQ.nextI (i.1 + 1, i11_5) (by show i.1 + 1 ≤ 64; omega) (by show 64 - (i.1 + 1) < 64 - i.1; omega) (subk_cons rfl (subk_cons rfl (subk_cons rfl (subk_cons rfl subk_nil)))) (subr_cons rfl subr_nil)
      · refine JQ.skip ?_
        refine JQ.n_then ?_
        refine JQ.region ?_
        refine JQ.v (JV.move rfl) rfl ?_
        refine JQ.v (JV.move rfl) rfl ?_
        refine JQ.v (JV.move rfl) rfl ?_
        refine JQ.v (JV.xorU8 (a := 0) rfl rfl (by first | exact UInt8.toNat_lt _ | decide) (UInt8.toNat_lt _)) rfl ?_
        refine JQ.x (JO.buildSlice 51 (us := [.int .u8 ((((0 : Nat)) ^^^ c.toNat : Nat) : Int)]) (e := 5) (evp_cons rfl evp_nil) (fun w => by kernel_rfl)) rfl ?_
        intro i11_4
        refine JQ.x (JO.append 50 elem5 rfl rfl rfl (fun w hw => Src.ro Tryd.underlying30 (reads_cells (hw.blk (id := 51) rfl) (show (_ : List Value) = ([.int .u8 ((((0 : Nat)) ^^^ c.toNat : Nat) : Int)] : List Value) from rfl) rfl (by decide))) rfl (by omega) (by omega)) rfl ?_
        intro i11_5
        rw [snocX0, ← Pl.pad0_getB _ _ h24, ← Pl.padK_take k c i.1 (by omega) (by omega)]
        refine JQ.v (JV.assign rfl) rfl ?_
        refine JQ.nil ?_
        refine JQ.n_block ?_
        refine JQ.n_then ?_
        refine JQ.region ?_
        refine JQ.v (JV.move rfl) rfl ?_
        refine JQ.v (JV.addN (b := 1) rfl rfl (by omega)) rfl ?_
        refine JQ.v (JV.assign rfl) rfl ?_
        refine JQ.nil ?_
        refine JQ.n_then ?_
        exact JQ.nextI (i.1 + 1, i11_5) (by show i.1 + 1 ≤ 64; omega) (by show 64 - (i.1 + 1) < 64 - i.1; omega) (subk_cons rfl (subk_cons rfl (subk_cons rfl (subk_cons rfl subk_nil)))) (subr_cons rfl subr_nil)
    · refine JQ.exit ?_
      refine JQ.e_then ?_
      refine JQ.e_then ?_
      refine JQ.e_here ?_
      refine JQ.n_then ?_
      refine JQ.seq ?_
      refine JQ.region ?_
      refine JQ.v (JV.move rfl) rfl ?_
      refine JQ.v (JV.assign rfl) rfl ?_
      refine JQ.nil ?_
      refine JQ.n_then ?_
      refine JQ.ret ?_
      refine JQ.done1 Tryd.results81 rfl ?_
      exact fun w hw => ⟨_, rfl, by have h := hw.row (id := 50) rfl; rw [show i.1 = 64 from by omega, List.take_of_length_le (by rw [Pl.padK_len _ _ (by omega)]; omega)] at h; rw [show Pl.key k = k from by unfold Pl.key; exact if_neg h12]; rwa [show (Pl.padK k c).length = 64 from Pl.padK_len _ _ (by omega)], hw.below⟩

theorem rmac_spec (k m : List UInt8) (hk : k.length ≤ 1099511627000) (hm : m.length ≤ 2199023255000) (w : World) (hG : Gl 1 (Pl.K.map u32) w) :
    Calls Tryd.prog 73 #[str k, str m] w fun e w' => e = .returned (str (Pl.mac k m)) ∧ Below w.heap.size w w' := by
  
  refine enterA (vs := [_, _]) Tryd.func73 rfl 22 rfl [(901, .ro (gv 1 64) 1 64 (Pl.K.map u32))] (MemOk.start1 901 hG) ?_
  refine JQ.seq ?_
  refine JQ.region ?_
  refine JQ.v (JV.assign rfl) rfl ?_
  refine JQ.nil ?_
  refine JQ.n_then ?_
  refine JQ.seq ?_
  refine JQ.region ?_
  refine JQ.v (JV.move rfl) rfl ?_
  refine JQ.x (JO.callRow 1 Tryd.call81 (evs_cons rfl (evs_cons rfl evs_nil)) (fun w hw => padkey_spec k (by omega) 54 w (hw.reads (id := 901) rfl))) rfl ?_
  intro i1_1
  refine JQ.v (JV.assign rfl) rfl ?_
  refine JQ.nil ?_
  refine JQ.n_then ?_
  refine JQ.seq ?_
  refine JQ.region ?_
  refine JQ.v (JV.move rfl) rfl ?_
  refine JQ.v (JV.move rfl) rfl ?_
  refine JQ.x (JO.append 1 elem5 rfl rfl rfl (fun w hw => Src.str Tryd.underlying9) (allB _) (by rw [Pl.padK_len _ _ (Pl.key_len k)]; omega) (by rw [Pl.padK_len _ _ (Pl.key_len k)]; omega)) rfl ?_
  intro i2_2
  rw [← List.map_append, ← List.length_append]
  refine JQ.v (JV.assign rfl) rfl ?_
  refine JQ.nil ?_
  refine JQ.n_then ?_
  refine JQ.seq ?_
  refine JQ.region ?_
  refine JQ.v (JV.move rfl) rfl ?_
  refine JQ.x (JO.callRow 2 Tryd.call81 (evs_cons rfl (evs_cons rfl evs_nil)) (fun w hw => padkey_spec k (by omega) 92 w (hw.reads (id := 901) rfl))) rfl ?_
  intro i3_1
  refine JQ.v (JV.assign rfl) rfl ?_
  refine JQ.nil ?_
  refine JQ.n_then ?_
  refine JQ.seq ?_
  refine JQ.region ?_
  refine JQ.v (JV.move rfl) rfl ?_
  refine JQ.v (JV.move rfl) rfl ?_
  refine JQ.v (JV.callM Tryd.call83 (evs_cons rfl evs_nil) (fun w hw => rsum_spec _ (Pl.padK (Pl.key k) 54 ++ m) (by simp only [List.length_append, Pl.padK_len _ _ (Pl.key_len k), Pl.sha_len]; omega) w (hw.reads (id := 901) rfl) (hw.readsRow (id := 1) rfl))) rfl ?_
  refine JQ.v (JV.call Tryd.call82 (evs_cons rfl evs_nil) (b32_pure _ (Pl.sha_len _))) rfl ?_
  refine JQ.x (JO.append 2 elem5 rfl rfl rfl (fun w hw => Src.str Tryd.underlying9) (allB _) (by rw [Pl.sha_len, Pl.padK_len _ _ (Pl.key_len k)]; omega) (by rw [Pl.sha_len, Pl.padK_len _ _ (Pl.key_len k)]; omega)) rfl ?_
  intro i4_4
  rw [← List.map_append, ← List.length_append]
  refine JQ.v (JV.assign rfl) rfl ?_
  refine JQ.nil ?_
  refine JQ.n_then ?_
  refine JQ.seq ?_
  refine JQ.region ?_
  refine JQ.v (JV.move rfl) rfl ?_
  refine JQ.v (JV.callM Tryd.call83 (evs_cons rfl evs_nil) (fun w hw => rsum_spec _ (Pl.padK (Pl.key k) 92 ++ Pl.sha (Pl.padK (Pl.key k) 54 ++ m)) (by simp only [List.length_append, Pl.padK_len _ _ (Pl.key_len k), Pl.sha_len]; omega) w (hw.reads (id := 901) rfl) (hw.readsRow (id := 2) rfl))) rfl ?_
  refine JQ.v (JV.call Tryd.call82 (evs_cons rfl evs_nil) (b32_pure _ (Pl.sha_len _))) rfl ?_
  refine JQ.v (JV.assign rfl) rfl ?_
  refine JQ.nil ?_
  refine JQ.n_then ?_
  refine JQ.ret ?_
  refine JQ.done1 Tryd.results73 rfl ?_
  exact fun w hw => ⟨rfl, hw.below⟩
end Go.Fw
end
section
open Go.RowKit
set_option maxRecDepth 100000
set_option linter.unusedVariables false
set_option linter.unusedSimpArgs false
namespace Go.Fw
open Go.Proofs
theorem short_set (l : List UInt8) (i : Nat) (hl : l.length = 32) (h : i < 16) : (l.take i ++ List.replicate (16 - i) 0).set i (l.getD i 0) = l.take (i + 1) ++ List.replicate (16 - (i + 1)) 0 := by
  rw [List.set_append_right _ _ (by simp; omega)]
  have e1 : i - (l.take i).length = 0 := by simp; omega
  rw [e1, show 16 - i = (16 - (i + 1)) + 1 from by omega, List.replicate_succ, List.set_cons_zero, take_snoc l i (by omega)]
  simp
theorem rint_spec (n : Nat) (hn : n ≤ 4611686018427387904) (w : World) :
    Calls Tryd.prog 89 #[.int .i64 ((n : Nat) : Int)] w fun e w' => ∃ v, e = .returned v ∧ w'.ownsRow w.heap.size 5 1 v (Pl.enc n).length ((Pl.enc n).map b8) ∧ Below w.heap.size w w' := by
  
  refine enterA (vs := [_]) Tryd.func89 rfl 59 rfl [] (MemOk.start w) ?_
  refine JQ.seq ?_
  refine JQ.region ?_
  refine JQ.v (JV.assign rfl) rfl ?_
  refine JQ.nil ?_
  refine JQ.n_then ?_
  refine JQ.seq ?_
  refine JQ.region ?_
  refine JQ.v (JV.move rfl) rfl ?_
  refine JQ.v (JV.assign rfl) rfl ?_
  refine JQ.nil ?_
  refine JQ.n_then ?_
  refine JQ.seq ?_
  refine JQ.seq ?_
  refine JQ.region ?_
  refine JQ.v (JV.move rfl) rfl ?_
  refine JQ.v (JV.lssN (b := 0) rfl rfl) rfl ?_
  refine JQ.nil ?_
  refine JQ.n_then ?_
  refine JQ.condP rfl (fun h11 => ?_) (fun h11 => ?_)
  · exact absurd h11 (by omega)
  · refine JQ.skip ?_
    refine JQ.n_then ?_
    refine JQ.seq ?_
    refine JQ.region ?_
    refine JQ.v (JV.assign rfl) rfl ?_
    refine JQ.nilRow 1 5 1 ?_
    refine JQ.nil ?_
    refine JQ.n_then ?_
    refine JQ.seq ?_
    refine JQ.block ?_
    refine JQ.loopI (ι := Nat × List UInt8 × Value) (fun i => [(0, .int .i64 ((n : Nat) : Int)), (3, .int .i64 ((i.1 : Nat) : Int)), (4, i.2.2)]) (fun i => [(1, .row i.2.2 5 1 i.2.1.length (i.2.1.map b8))]) (fun i => i.1 ≤ 4611686018427387904 ∧ Pl.be i.1 (Pl.nb i.1) ++ i.2.1.reverse = Pl.be n (Pl.nb n) ∧ Pl.nb i.1 + i.2.1.length = Pl.nb n) (fun i => i.1) (n, [], _) ⟨hn, by simp, rfl⟩ (subk_cons rfl (subk_cons rfl (subk_cons rfl subk_nil))) (subr_cons rfl subr_nil) ?_
    intro i hi
    have hi1 := hi.1
    have hi3 := hi.2.2
    have hnb := Pl.nb_le n
    refine JQ.seq ?_
    refine JQ.seq ?_
    refine JQ.region ?_
    refine JQ.v (JV.move rfl) rfl ?_
    refine JQ.v (JV.gtrN (b := 0) rfl rfl) rfl ?_
    refine JQ.nil ?_
    refine JQ.n_then ?_
    refine JQ.condP rfl (fun h15 => ?_) (fun h15 => ?_)
    · refine JQ.skip ?_
      refine JQ.n_then ?_
      refine JQ.block ?_
      refine JQ.seq ?_
      refine JQ.region ?_
      refine JQ.v (JV.move rfl) rfl ?_
      refine JQ.v (JV.move rfl) rfl ?_
      refine JQ.v (JV.remN (b := 256) rfl rfl (by omega)) rfl ?_
      refine JQ.v (JV.convU8 Tryd.runUnderlying3 Tryd.runUnderlying5 rfl) rfl ?_
      refine JQ.x (JO.buildSlice 2 (us := [.int .u8 ((i.1 % 256 % 256 : Nat) : Int)]) (e := 5) (evp_cons rfl evp_nil) (fun w => by kernel_rfl)) rfl ?_
      intro i6_4
      refine JQ.x (JO.append 1 elem5 rfl rfl rfl (fun w hw => Src.ro Tryd.underlying30 (reads_cells (hw.blk (id := 2) rfl) (show (_ : List Value) = ([.int .u8 ((i.1 % 256 % 256 : Nat) : Int)] : List Value) from rfl) rfl (by decide))) rfl (by omega) (by omega)) rfl ?_
      intro i6_5
      rw [show i.1 % 256 % 256 = i.1 % 256 from by omega, snocN]
      refine JQ.v (JV.assign rfl) rfl ?_
      refine JQ.nil ?_
      refine JQ.n_then ?_
      refine JQ.region ?_
      refine JQ.v (JV.move rfl) rfl ?_
      refine JQ.v (JV.quoN (b := 256) rfl rfl (by omega)) rfl ?_
      refine JQ.v (JV.assign rfl) rfl ?_
      refine JQ.nil ?_
      refine JQ.n_block ?_
      refine JQ.n_then ?_
      exact JQ.nextI (i.1 / 256, i.2.1 ++ [UInt8.ofNat i.1], i6_5) (by exact ⟨by show i.1 / 256 ≤ _; omega, by rw [← hi.2.1, Pl.be_digit h15 hi1]; simp, by have := Pl.nb_div h15 hi1; show Pl.nb (i.1 / 256) + (i.2.1 ++ [UInt8.ofNat i.1]).length = _; rw [List.length_append]; simp only [List.length_singleton]; omega⟩) (by show i.1 / 256 < i.1; omega) (subk_cons rfl (subk_cons rfl (subk_cons rfl subk_nil))) (subr_cons (by simp; rfl) subr_nil)
    · refine JQ.exit ?_
      refine JQ.e_then ?_
      refine JQ.e_then ?_
      refine JQ.e_here ?_
      refine JQ.n_then ?_
      refine JQ.seq ?_
      have hnil : Pl.be n (Pl.nb n) = i.2.1.reverse := by rw [← hi.2.1, show i.1 = 0 from by omega]; rfl
      have hlen := congrArg List.length hnil
      rw [Pl.be_len, List.length_reverse] at hlen
      refine JQ.roOf 1 rfl ?_
      refine JQ.region ?_
      refine JQ.v (JV.move rfl) rfl ?_
      refine JQ.v (JV.lenRo 1 rfl rfl Tryd.runUnderlying30) rfl ?_
      refine JQ.v (JV.assign rfl) rfl ?_
      refine JQ.nil ?_
      refine JQ.n_then ?_
      refine JQ.seq ?_
      refine JQ.region ?_
      refine JQ.v (JV.assign rfl) rfl ?_
      refine JQ.nilRow 2 5 1 ?_
      refine JQ.nil ?_
      refine JQ.n_then ?_
      refine JQ.seq ?_
      refine JQ.seq ?_
      refine JQ.region ?_
      refine JQ.v (JV.move rfl) rfl ?_
      refine JQ.v (JV.geqN (b := 0) rfl rfl) rfl ?_
      refine JQ.nil ?_
      refine JQ.n_then ?_
      refine JQ.condP rfl (fun h27 => ?_) (fun h27 => ?_)
      · refine JQ.region ?_
        refine JQ.v (JV.move rfl) rfl ?_
        refine JQ.v (JV.move rfl) rfl ?_
        refine JQ.v (JV.addN (a := 128) rfl rfl (by omega)) rfl ?_
        refine JQ.v (JV.convU8 Tryd.runUnderlying3 Tryd.runUnderlying5 rfl) rfl ?_
        refine JQ.x (JO.buildSlice 3 (us := [.int .u8 (((128 + i.2.1.length) % 256 : Nat) : Int)]) (e := 5) (evp_cons rfl evp_nil) (fun w => by kernel_rfl)) rfl ?_
        intro i11_4
        refine JQ.x (JO.append 2 elem5 rfl rfl rfl (fun w hw => Src.ro Tryd.underlying30 (reads_cells (hw.blk (id := 3) rfl) (show (_ : List Value) = ([.int .u8 (((128 + i.2.1.length) % 256 : Nat) : Int)] : List Value) from rfl) rfl (by decide))) rfl (by omega) (by omega)) rfl ?_
        intro i11_5
        refine JQ.v (JV.assign rfl) rfl ?_
        refine JQ.nil ?_
        refine JQ.n_then ?_
        refine JQ.seq ?_
        refine JQ.seq ?_
        refine JQ.region ?_
        refine JQ.v (JV.move rfl) rfl ?_
        refine JQ.v (JV.subI rfl rfl (by omega)) rfl ?_
        refine JQ.v (JV.assign rfl) rfl ?_
        refine JQ.nil ?_
        refine JQ.n_then ?_
        refine JQ.block ?_
        refine JQ.loopI (ι := Nat × List UInt8 × Value) (fun j => [(0, .int .i64 ((n : Nat) : Int)), (4, i.2.2), (6, j.2.2), (7, .int .i64 ((j.1 : Int) - 1))]) (fun j => [(1, .ro i.2.2 1 i.2.1.length (i.2.1.map b8)), (2, .row j.2.2 5 1 j.2.1.length (j.2.1.map b8))]) (fun j => j.1 ≤ i.2.1.length ∧ j.2.1 ++ (i.2.1.take j.1).reverse = Pl.enc n) (fun j => j.1) (i.2.1.length, [UInt8.ofNat (128 + i.2.1.length)], _) ⟨Nat.le_refl _, by rw [List.take_of_length_le (Nat.le_refl _), ← hnil, ← hlen]; rfl⟩ (subk_cons rfl (subk_cons rfl (subk_cons rfl (subk_cons rfl subk_nil)))) (subr_cons rfl (subr_cons (by simp [b8]; rfl) subr_nil)) ?_
        intro j hj0
        have hj1 := hj0.1
        have hjl := congrArg List.length hj0.2
        rw [List.length_append, List.length_reverse, List.length_take, Pl.enc_len] at hjl
        refine JQ.seq ?_
        refine JQ.seq ?_
        refine JQ.region ?_
        refine JQ.v (JV.move rfl) rfl ?_
        refine JQ.v (JV.geq rfl rfl) rfl ?_
        refine JQ.nil ?_
        refine JQ.n_then ?_
        refine JQ.condP rfl (fun h43 => ?_) (fun h43 => ?_)
        · refine JQ.skip ?_
          refine JQ.n_then ?_
          refine JQ.seq ?_
          refine JQ.block ?_
          refine JQ.seq ?_
          have hj : 0 < j.1 := by omega
          rw [show ((j.1 : Int) - 1) = ((j.1 - 1 : Nat) : Int) from by omega]
          refine JQ.region ?_
          refine JQ.v (JV.move rfl) rfl ?_
          refine JQ.v (JV.move rfl) rfl ?_
          refine JQ.v (JV.idxRo1 1 rfl rfl rfl Tryd.runUnderlying30 Tryd.sizeOf5 (by decide) (by omega)) rfl ?_
          refine JQ.v (JV.loadR 1 rfl rfl Tryd.isAgg5 (getB _ _ (by omega))) rfl ?_
          refine JQ.v (JV.assign rfl) rfl ?_
          refine JQ.nil ?_
          refine JQ.n_then ?_
          refine JQ.seq ?_
          refine JQ.seq ?_
          refine JQ.region ?_
          refine JQ.v (JV.move rfl) rfl ?_
          refine JQ.v (JV.lssN (b := 0) rfl rfl) rfl ?_
          refine JQ.nil ?_
          refine JQ.n_then ?_
          refine JQ.condP rfl (fun h51 => ?_) (fun h51 => ?_)
          · exact absurd h51 (by omega)
          · refine JQ.skip ?_
            refine JQ.n_then ?_
            refine JQ.region ?_
            refine JQ.v (JV.move rfl) rfl ?_
            refine JQ.v (JV.move rfl) rfl ?_
            refine JQ.x (JO.buildSlice 4 (us := [.int .u8 ((i.2.1.getD (j.1 - 1) 0).toNat : Int)]) (e := 5) (evp_cons rfl evp_nil) (fun w => by kernel_rfl)) rfl ?_
            intro i19_2
            refine JQ.x (JO.append 2 elem5 rfl rfl rfl (fun w hw => Src.ro Tryd.underlying30 (reads_cells (hw.blk (id := 4) rfl) (show (_ : List Value) = ([.int .u8 ((i.2.1.getD (j.1 - 1) 0).toNat : Int)] : List Value) from rfl) rfl (by decide))) rfl (by omega) (by omega)) rfl ?_
            intro i19_3
            rw [snocC]
            refine JQ.v (JV.assign rfl) rfl ?_
            refine JQ.nil ?_
            refine JQ.n_block ?_
            refine JQ.n_then ?_
            refine JQ.region ?_
            refine JQ.v (JV.move rfl) rfl ?_
            refine JQ.v (JV.subI rfl rfl (by omega)) rfl ?_
            refine JQ.v (JV.assign rfl) rfl ?_
            refine JQ.nil ?_
            refine JQ.n_then ?_
            exact JQ.nextI (j.1 - 1, j.2.1 ++ [i.2.1.getD (j.1 - 1) 0], i19_3) (by exact ⟨by show j.1 - 1 ≤ _; omega, by rw [← hj0.2, Pl.rev_step hj hj1, List.append_assoc]; rfl⟩) (by show j.1 - 1 < j.1; omega) (subk_cons rfl (subk_cons rfl (subk_cons rfl (subk_cons rfl subk_nil)))) (subr_cons rfl (subr_cons (by simp; rfl) subr_nil))
        · refine JQ.exit ?_
          refine JQ.e_then ?_
          refine JQ.e_then ?_
          refine JQ.e_here ?_
          refine JQ.n_then ?_
          refine JQ.seq ?_
          refine JQ.region ?_
          refine JQ.v (JV.move rfl) rfl ?_
          refine JQ.v (JV.assign rfl) rfl ?_
          refine JQ.nil ?_
          refine JQ.n_then ?_
          refine JQ.ret ?_
          have he : j.2.1 = Pl.enc n := by rw [← hj0.2, show j.1 = 0 from by omega]; simp
          refine JQ.done1 Tryd.results89 rfl ?_
          exact fun w hw => ⟨_, rfl, by rw [← he]; exact hw.row (id := 2) rfl, hw.below⟩
      · exact absurd (by omega) h27

theorem rbytes_spec (m : List UInt8) (hm : m.length ≤ 1099511627776) (w : World) :
    Calls Tryd.prog 84 #[str m] w fun e w' => ∃ v, e = .returned v ∧ w'.ownsRow w.heap.size 5 1 v (Pl.encB m).length ((Pl.encB m).map b8) ∧ Below w.heap.size w w' := by
  
  refine enterA (vs := [_]) Tryd.func84 rfl 9 rfl [] (MemOk.start w) ?_
  refine JQ.seq ?_
  refine JQ.region ?_
  refine JQ.v (JV.assign rfl) rfl ?_
  refine JQ.nil ?_
  refine JQ.n_then ?_
  refine JQ.seq ?_
  refine JQ.region ?_
  refine JQ.v (JV.move rfl) rfl ?_
  refine JQ.v (JV.lenStr rfl Tryd.runUnderlying9) rfl ?_
  refine JQ.x (JO.callRow 1 Tryd.call89 (evs_cons rfl evs_nil) (fun w hw => rint_spec m.length (by omega) w)) rfl ?_
  intro i1_2
  refine JQ.v (JV.move rfl) rfl ?_
  refine JQ.x (JO.strBytes 2  Tryd.runUnderlying9 Tryd.runUnderlying30 Tryd.runUnderlying5 rfl (by omega)) rfl ?_
  intro i1_4
  refine JQ.x (JO.append 1 elem5 rfl rfl rfl (fun w hw => Src.rd Tryd.underlying30 (hw.reads (id := 2) rfl)) (allB _) (by have := Pl.enc_len m.length; have := Pl.nb_le m.length; omega) (by have := Pl.enc_len m.length; have := Pl.nb_le m.length; omega)) rfl ?_
  intro i1_5
  refine JQ.v (JV.assign rfl) rfl ?_
  refine JQ.nil ?_
  refine JQ.n_then ?_
  refine JQ.ret ?_
  refine JQ.done1 Tryd.results84 rfl ?_
  exact fun w hw => ⟨_, rfl, by have h := hw.row (id := 1) rfl; rwa [← List.map_append, ← List.length_append] at h, hw.below⟩
end Go.Fw
end
