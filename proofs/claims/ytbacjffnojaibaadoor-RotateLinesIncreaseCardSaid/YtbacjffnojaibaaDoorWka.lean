/- What the hash functions of the program compute, walked; the condition is that the table of constants reads as it is laid. -/
import Derived.Test.YtbacjffnojaibaaDoorFwb
import Derived.Test.YtbacjffnojaibaaDoorProg
import Derived.KernelRfl
import Derived.Test.YtbacjffnojaibaaDoorPla
section
open Go.RowKit
set_option maxRecDepth 100000
namespace Go.Fw
open Go.Proofs
theorem Tryd.mixed : Tryd.prog.follows .mixedOrders = true := by kernel_rfl
theorem wrapneg (n : Nat) (h1 : 1 ≤ n) (h2 : n ≤ 31) : IntKind.u64.wrap (-(n : Int)) = ((18446744073709551616 - n : Nat) : Int) := by
  rw [wrap_u64_mod]; omega
theorem wrapB32 (c : UInt8) : IntKind.u32.wrap (c.toNat : Int) = c.toNat := by
  have := c.toNat_lt
  exact wrap_u32 ⟨by omega, by omega⟩
end Go.Fw
end
section
open Go.RowKit
set_option maxRecDepth 100000
namespace Go.Fw
open Go.Proofs
theorem elem5 : Elem Tryd.prog 30 5 1 1 := ⟨Tryd.underlying30, ⟨Tryd.t5, _, by kernel_rfl, rfl, rfl, rfl, rfl⟩, by decide⟩
theorem Tryd.zeroValue128 (w : World) : (zeroValue 128).run Tryd.prog w = .ok (.agg ((List.replicate 8 0).map u32 ++ ((List.replicate 64 0).map b8 ++ [u64 0])).toArray) w := by kernel_rfl
theorem scells_n3 (a : Pl.S8) (b : List UInt8) (n : Nat) (h : b.length = 64) : (scells ⟨a, b, n⟩)[72]? = some (.int .u64 (n : Int)) := scells_n ⟨a, b, n⟩ h
theorem scells_setn3 (a : Pl.S8) (b : List UInt8) (n m : Nat) (h : b.length = 64) : (scells ⟨a, b, n⟩).set 72 (.int .u64 (m : Int)) = scells ⟨a, b, m⟩ := scells_setn ⟨a, b, n⟩ h m
theorem scells_st3 (a c : Pl.S8) (b : List UInt8) (n : Nat) : (scells ⟨a, b, n⟩).take 0 ++ c.list.map u32 ++ (scells ⟨a, b, n⟩).drop (0 + 8) = scells ⟨c, b, n⟩ := scells_st ⟨a, b, n⟩ c
theorem scells_blk3 (a : Pl.S8) (b : List UInt8) (n : Nat) (h : b.length = 64) : ((scells ⟨a, b, n⟩).drop (8 + 0 * 1)).take (64 - 0) = b.map b8 := scells_blk ⟨a, b, n⟩ h
theorem scells_copy3 (s : Pl.Stm) (t : List UInt8) (h : s.blk.length = 64) : (scells s).take (8 + s.n % 64 * 1) ++ (t.take (Pl.kOf s t)).map b8 ++ (scells s).drop (8 + s.n % 64 * 1 + Pl.kOf s t) = scells ⟨s.st, Pl.blkOf s t, s.n⟩ :=
  scells_copy s h (s.n % 64) (Pl.kOf s t) t (Pl.kOf_le s t).2
end Go.Fw
end
section
open Go.RowKit
set_option maxRecDepth 100000
set_option linter.unusedVariables false
set_option linter.unusedSimpArgs false
namespace Go.Fw
open Go.Proofs
theorem rotl (x n : Nat) (hx : x < 4294967296) (h1 : 1 ≤ n) (h2 : n ≤ 31) :
    Pure Tryd.prog 92 #[.int .u32 (x : Int), .int .i64 (-(n : Int))] (.int .u32 ((Pl.rotr x n : Nat) : Int)) := by
  intro w
  refine enterA (vs := [_, _]) Tryd.func92 rfl 17 rfl [] (MemOk.start w) ?_
  refine JQ.seq ?_
  refine JQ.region ?_
  refine JQ.v (JV.assign rfl) rfl ?_
  refine JQ.nil ?_
  refine JQ.n_then ?_
  refine JQ.seq ?_
  refine JQ.region ?_
  refine JQ.v (JV.move rfl) rfl ?_
  refine JQ.v (JV.convW Tryd.runUnderlying3 Tryd.runUnderlying113 rfl) rfl ?_
  rw [wrapneg n h1 h2]
  refine JQ.v (JV.andU64 (b := 31) rfl rfl (by repeat (first | assumption | exact hB _ | apply Pl.xor_lt | apply Pl.mix_lt | apply Pl.rotr_lt | apply Pl.and_lt | apply Pl.or_lt | apply Pl.div_lt | exact Pl.mod_lt _ | exact Pl.byte_lt _ | omega)) (by repeat (first | assumption | exact hB _ | apply Pl.xor_lt | apply Pl.mix_lt | apply Pl.rotr_lt | apply Pl.and_lt | apply Pl.or_lt | apply Pl.div_lt | exact Pl.mod_lt _ | exact Pl.byte_lt _ | omega))) rfl ?_
  rw [Pl.u31 n h1 h2]
  refine JQ.v (JV.assign rfl) rfl ?_
  refine JQ.nil ?_
  refine JQ.n_then ?_
  refine JQ.seq ?_
  refine JQ.region ?_
  refine JQ.v (JV.move rfl) rfl ?_
  refine JQ.v (JV.move rfl) rfl ?_
  refine JQ.v (JV.shlU32 rfl rfl (by omega)) rfl ?_
  refine JQ.v (JV.move rfl) rfl ?_
  refine JQ.v (JV.move rfl) rfl ?_
  refine JQ.v (JV.subU64 (a := 32) rfl rfl (by omega)) rfl ?_
  refine JQ.v (JV.shrU32 rfl rfl (by omega)) rfl ?_
  refine JQ.v (JV.orU32 rfl rfl (Nat.mod_lt _ (by decide)) (Nat.lt_of_le_of_lt (Nat.div_le_self _ _) hx)) rfl ?_
  refine JQ.v (JV.assign rfl) rfl ?_
  refine JQ.nil ?_
  refine JQ.n_then ?_
  refine JQ.ret ?_
  refine JQ.done1 Tryd.results92 rfl ?_
  exact fun w hw => ⟨by simp only [Pl.rotr]; rw [show 32 - (32 - n) = n from by omega], hw.below⟩

theorem mix_pure (x i j k : Nat) (hx : x < 4294967296) (hi : 1 ≤ i ∧ i ≤ 31) (hj : 1 ≤ j ∧ j ≤ 31) (hk : 1 ≤ k ∧ k ≤ 31) :
    Pure Tryd.prog 91 #[.int .u32 (x : Int), .int .i64 (i : Int), .int .i64 (j : Int), .int .i64 (k : Int)] (.int .u32 ((Pl.mix x i j k : Nat) : Int)) := by
  intro w
  refine enterA (vs := [_, _, _, _]) Tryd.func91 rfl 23 rfl [] (MemOk.start w) ?_
  refine JQ.seq ?_
  refine JQ.region ?_
  refine JQ.v (JV.assign rfl) rfl ?_
  refine JQ.nil ?_
  refine JQ.n_then ?_
  refine JQ.seq ?_
  refine JQ.region ?_
  refine JQ.v (JV.move rfl) rfl ?_
  refine JQ.v (JV.move rfl) rfl ?_
  refine JQ.v (JV.negI rfl (by omega)) rfl ?_
  refine JQ.v (JV.call Tryd.call92 (evs_cons rfl (evs_cons rfl evs_nil)) (rotl x i hx (by omega) (by omega))) rfl ?_
  refine JQ.v (JV.move rfl) rfl ?_
  refine JQ.v (JV.move rfl) rfl ?_
  refine JQ.v (JV.negI rfl (by omega)) rfl ?_
  refine JQ.v (JV.call Tryd.call92 (evs_cons rfl (evs_cons rfl evs_nil)) (rotl x j hx (by omega) (by omega))) rfl ?_
  refine JQ.v (JV.xorU32 rfl rfl (Pl.rotr_lt hx) (Pl.rotr_lt hx)) rfl ?_
  refine JQ.v (JV.move rfl) rfl ?_
  refine JQ.v (JV.move rfl) rfl ?_
  refine JQ.v (JV.negI rfl (by omega)) rfl ?_
  refine JQ.v (JV.call Tryd.call92 (evs_cons rfl (evs_cons rfl evs_nil)) (rotl x k hx (by omega) (by omega))) rfl ?_
  refine JQ.v (JV.xorU32 rfl rfl (Pl.xor_lt (Pl.rotr_lt hx) (Pl.rotr_lt hx)) (Pl.rotr_lt hx)) rfl ?_
  refine JQ.v (JV.assign rfl) rfl ?_
  refine JQ.nil ?_
  refine JQ.n_then ?_
  refine JQ.ret ?_
  refine JQ.done1 Tryd.results91 rfl ?_
  exact fun w hw => ⟨rfl, hw.below⟩

theorem rrotr (x n : Nat) (hx : x < 4294967296) (h1 : 1 ≤ n) (h2 : n ≤ 31) :
    Pure Tryd.prog 88 #[.int .u32 (x : Int), .int .i64 (n : Int)] (.int .u32 ((Pl.rotr x n : Nat) : Int)) := by
  intro w
  refine enterA (vs := [_, _]) Tryd.func88 rfl 13 rfl [] (MemOk.start w) ?_
  refine JQ.seq ?_
  refine JQ.region ?_
  refine JQ.v (JV.assign rfl) rfl ?_
  refine JQ.nil ?_
  refine JQ.n_then ?_
  refine JQ.seq ?_
  refine JQ.any [_, _, _, _, _, _, _, _, _] [fun _ => [], fun _ => [], fun _ => [], fun _ => [], fun _ => [], fun _ => [], fun _ => [], fun _ => [], fun _ => []] [⟨[], [], [], []⟩, ⟨[], [], [], []⟩, ⟨[], [], [], [0, 1]⟩, ⟨[], [], [], []⟩, ⟨[], [], [], []⟩, ⟨[], [], [], [4]⟩, ⟨[], [], [], [3, 4, 5]⟩, ⟨[], [], [], [0, 1, 2, 3, 4, 5, 6]⟩, ⟨[], [], [], [0, 1, 2, 3, 4, 5, 6, 7]⟩] Tryd.mixed rfl (by kernel_rfl) ⟨Ob.v rfl (fun _ _ h => by cases h) (fun _ _ _ => rfl) (fun e L' hL => JV.move rfl),
        Ob.v rfl (fun _ _ h => by cases h) (fun _ _ _ => rfl) (fun e L' hL => JV.move rfl),
        Ob.v rfl (fun _ _ h => by cases h) (fun _ _ _ => rfl) (fun e L' hL => JV.shrU32 rfl rfl (by omega)),
        Ob.v rfl (fun _ _ h => by cases h) (fun _ _ _ => rfl) (fun e L' hL => JV.move rfl),
        Ob.v rfl (fun _ _ h => by cases h) (fun _ _ _ => rfl) (fun e L' hL => JV.move rfl),
        Ob.v rfl (fun _ _ h => by cases h) (fun _ _ _ => rfl) (fun e L' hL => JV.subN (a := 32) rfl rfl (by omega)),
        Ob.v rfl (fun _ _ h => by cases h) (fun _ _ _ => rfl) (fun e L' hL => JV.shlU32 rfl rfl (by omega)),
        Ob.v rfl (fun _ _ h => by cases h) (fun _ _ _ => rfl) (fun e L' hL => JV.orU32 rfl rfl (Nat.lt_of_le_of_lt (Nat.div_le_self _ _) hx) (Nat.mod_lt _ (by decide))),
        Ob.v rfl (fun _ _ h => by cases h) (fun _ _ _ => rfl) (fun e L' hL => JV.assign rfl), trivial⟩ (fun ev1 => ?_)
  simp only [endF, endL, putF, List.nil_append, List.cons_append]
  refine JQ.n_then ?_
  refine JQ.ret ?_
  refine JQ.done1 Tryd.results88 rfl ?_
  exact fun w hw => ⟨by simp only [Pl.rotr]; rw [Nat.or_comm], hw.below⟩

theorem schedule_spec (v : Value) (bs : List UInt8) (hbs : bs.length = 64) (w : World) (hr : Reads w v 1 64 (bs.map b8)) :
    Calls Tryd.prog 90 #[v] w fun e w' => e = .returned (.agg ((Pl.sched bs).map u32).toArray) ∧ Below w.heap.size w w' := by
  
  refine enterA (vs := [_]) Tryd.func90 rfl 79 rfl [(100, .ro v 1 64 (bs.map b8))] (MemOk.start1 100 hr) ?_
  refine JQ.seq ?_
  refine JQ.region ?_
  refine JQ.x (JO.alloc 1 (zs := ((List.replicate 64 0).map u32)) Tryd.zeroValue136 rfl) rfl ?_
  intro i0_0
  refine JQ.nil ?_
  refine JQ.n_then ?_
  refine JQ.seq ?_
  refine JQ.region ?_
  refine JQ.x (JO.alloc 2 (zs := ((List.replicate 64 0).map u32)) Tryd.zeroValue136 rfl) rfl ?_
  intro i1_0
  refine JQ.nil ?_
  refine JQ.n_then ?_
  refine JQ.seq ?_
  refine JQ.seq ?_
  refine JQ.region ?_
  refine JQ.v (JV.move rfl) rfl ?_
  refine JQ.nil ?_
  refine JQ.n_then ?_
  refine JQ.block ?_
  refine JQ.loopI (ι := Nat) (fun i => [(0, v), (2, .pointer (some ⟨i0_0, 0, none⟩)), (3, .pointer (some ⟨i1_0, 0, none⟩)), (11, .int .i64 ((i : Nat) : Int))]) (fun i => [(2, .cells i1_0 ((Pl.W bs i).map u32) 136 (0, 0)), (1, .cells i0_0 ((List.replicate 64 0).map u32) 136 (0, 0)), (100, .ro v 1 64 (bs.map b8))]) (fun i => i ≤ 64) (fun i => 64 - i) 0 (by omega) (subk_cons rfl (subk_cons rfl (subk_cons rfl (subk_cons rfl subk_nil)))) (subr_cons rfl (subr_cons rfl (subr_cons rfl subr_nil))) ?_
  intro t ht
  have hB := Pl.W_lt bs t
  refine JQ.seq ?_
  refine JQ.region ?_
  refine JQ.v (JV.lssN (b := 64) rfl rfl) rfl ?_
  refine JQ.nil ?_
  refine JQ.n_then ?_
  refine JQ.seq ?_
  refine JQ.condP rfl (fun h12 => ?_) (fun h12 => ?_)
  · refine JQ.skip ?_
    refine JQ.n_then ?_
    refine JQ.seq ?_
    refine JQ.block ?_
    refine JQ.seq ?_
    refine JQ.region ?_
    refine JQ.v (JV.move rfl) rfl ?_
    refine JQ.v (JV.assign rfl) rfl ?_
    refine JQ.nil ?_
    refine JQ.n_then ?_
    refine JQ.seq ?_
    refine JQ.seq ?_
    refine JQ.region ?_
    refine JQ.v (JV.move rfl) rfl ?_
    refine JQ.v (JV.lssN (b := 16) rfl rfl) rfl ?_
    refine JQ.nil ?_
    refine JQ.n_then ?_
    refine JQ.condP rfl (fun h15 => ?_) (fun h15 => ?_)
    · refine JQ.seq ?_
      refine JQ.seq ?_
      refine JQ.region ?_
      refine JQ.v (JV.move rfl) rfl ?_
      refine JQ.v (JV.move rfl) rfl ?_
      refine JQ.v (JV.mulN (a := 4) rfl rfl (by omega)) rfl ?_
      refine JQ.v (JV.move rfl) rfl ?_
      refine JQ.v (JV.mulN (a := 4) rfl rfl (by omega)) rfl ?_
      refine JQ.v (JV.addN (b := 4) rfl rfl (by omega)) rfl ?_
      refine JQ.x (JO.sliceRo 100 3 (us := ((bs.drop (4 * t)).take 4).map b8) rfl rfl Tryd.runUnderlying30 Tryd.sizeOf5 (bnd_some rfl) (bnd_some rfl) (by omega) (by omega) (by rw [List.map_take, List.map_drop, show 4 * t + 4 - 4 * t = 4 from by omega]) (by decide)) rfl ?_
      intro i6_6
      refine JQ.v (JV.lenRo 3 rfl rfl Tryd.runUnderlying30) rfl ?_
      refine JQ.v (JV.move rfl) rfl ?_
      refine JQ.nil ?_
      refine JQ.n_then ?_
      refine JQ.block ?_
      rw [show (4 : Nat) * t + 4 - 4 * t = 4 from by omega]
      refine JQ.loopI (ι := Nat) (fun i => [(0, v), (2, .pointer (some ⟨i0_0, 0, none⟩)), (3, .pointer (some ⟨i1_0, 0, none⟩)), (4, .int .i64 ((t : Nat) : Int)), (11, .int .i64 ((t : Nat) : Int)), (22, i6_6), (23, .int .i64 ((4 : Nat) : Int)), (24, .int .i64 ((i : Nat) : Int))]) (fun i => [(2, .cells i1_0 (((Pl.W bs t).set t (Pl.acc bs t i)).map u32) 136 (0, 0)), (1, .cells i0_0 ((List.replicate 64 0).map u32) 136 (0, 0)), (100, .ro v 1 64 (bs.map b8)), (3, .ro i6_6 1 4 (((bs.drop (4 * t)).take 4).map b8))]) (fun i => i ≤ 4) (fun i => 4 - i) 0 (by omega) (subk_cons rfl (subk_cons rfl (subk_cons rfl (subk_cons rfl (subk_cons rfl (subk_cons rfl (subk_cons rfl (subk_cons rfl subk_nil)))))))) (subr_cons (by rw [show Pl.acc bs t 0 = 0 from rfl, Pl.W_set0 bs t (by omega)]; rfl) (subr_cons rfl (subr_cons rfl (subr_cons rfl subr_nil)))) ?_
      intro j hj
      refine JQ.seq ?_
      refine JQ.region ?_
      refine JQ.v (JV.lssN rfl rfl) rfl ?_
      refine JQ.nil ?_
      refine JQ.n_then ?_
      refine JQ.seq ?_
      refine JQ.condP rfl (fun h25 => ?_) (fun h25 => ?_)
      · refine JQ.skip ?_
        refine JQ.n_then ?_
        refine JQ.seq ?_
        refine JQ.block ?_
        refine JQ.seq ?_
        refine JQ.region ?_
        refine JQ.v (JV.idxRo1 3 rfl rfl rfl Tryd.runUnderlying30 Tryd.sizeOf5 (by decide) (by omega)) rfl ?_
        refine JQ.v (JV.loadR 3 rfl rfl Tryd.isAgg5 (getB _ _ (by simp; omega))) rfl ?_
        refine JQ.v (JV.assign rfl) rfl ?_
        refine JQ.nil ?_
        refine JQ.n_then ?_
        refine JQ.region ?_
        refine JQ.v (JV.move rfl) rfl ?_
        refine JQ.v (JV.move rfl) rfl ?_
        refine JQ.v (JV.idxArr0 rfl rfl Tryd.runUnderlying136 Tryd.sizeOf124 (by omega)) rfl ?_
        refine JQ.v (JV.load1 2 rfl rfl Tryd.isAgg124 (getU _ _ (by rw [List.length_set, Pl.W_len]; omega))) rfl ?_
        refine JQ.v (JV.shlU32 (b := 8) rfl rfl (by omega)) rfl ?_
        refine JQ.v (JV.move rfl) rfl ?_
        refine JQ.v (JV.convK Tryd.runUnderlying5 Tryd.runUnderlying124 rfl (wrapB32 _)) rfl ?_
        refine JQ.v (JV.orU32 rfl rfl (by repeat (first | assumption | exact hB _ | apply Pl.xor_lt | apply Pl.mix_lt | apply Pl.rotr_lt | apply Pl.and_lt | apply Pl.or_lt | apply Pl.div_lt | exact Pl.mod_lt _ | exact Pl.byte_lt _ | omega)) (by repeat (first | assumption | exact hB _ | apply Pl.xor_lt | apply Pl.mix_lt | apply Pl.rotr_lt | apply Pl.and_lt | apply Pl.or_lt | apply Pl.div_lt | exact Pl.mod_lt _ | exact Pl.byte_lt _ | omega))) rfl ?_
        refine JQ.v (JV.idxArr0 rfl rfl Tryd.runUnderlying136 Tryd.sizeOf124 (by omega)) rfl ?_
        refine JQ.s (JO.store1 2 rfl rfl rfl rfl Tryd.sizeOf124 (by simp [Pl.W_len]; omega)) ?_
        rw [setU, Pl.set_getD_self _ _ _ (by rw [Pl.W_len]; omega), List.set_set, Pl.take_drop_getD _ _ _ _ (by omega)]
        refine JQ.nil ?_
        refine JQ.n_block ?_
        refine JQ.n_then ?_
        refine JQ.region ?_
        refine JQ.v (JV.addN (b := 1) rfl rfl (by omega)) rfl ?_
        refine JQ.v (JV.move rfl) rfl ?_
        refine JQ.nil ?_
        refine JQ.n_then ?_
        exact JQ.nextI (j + 1) (by omega) (by omega) (subk_cons rfl (subk_cons rfl (subk_cons rfl (subk_cons rfl (subk_cons rfl (subk_cons rfl (subk_cons rfl (subk_cons rfl subk_nil)))))))) (subr_cons rfl (subr_cons rfl (subr_cons rfl (subr_cons rfl subr_nil))))
      · refine JQ.exit ?_
        refine JQ.e_then ?_
        refine JQ.e_then ?_
        refine JQ.e_here ?_
        refine JQ.n_then ?_
        refine JQ.exit ?_
        refine JQ.e_then ?_
        refine JQ.e_here ?_
        refine JQ.n_then ?_
        refine JQ.region ?_
        refine JQ.v (JV.addN (b := 1) rfl rfl (by omega)) rfl ?_
        refine JQ.v (JV.move rfl) rfl ?_
        refine JQ.nil ?_
        refine JQ.n_then ?_
        exact JQ.nextI (t + 1) (by omega) (by omega) (subk_cons rfl (subk_cons rfl (subk_cons rfl (subk_cons rfl subk_nil)))) (subr_cons (by rw [show j = 4 from by omega]; simp only [Pl.W, Pl.nxt, if_pos h15]; rfl) (subr_cons rfl (subr_cons rfl subr_nil)))
    · refine JQ.skip ?_
      refine JQ.n_then ?_
      refine JQ.seq ?_
      refine JQ.any [_, _, _, _, _, _, _, _, _, _] [fun _ => [], fun _ => [], fun _ => [], fun _ => [], fun _ => [], fun _ => [], fun _ => [], fun _ => [], fun _ => [], fun _ => []] [⟨[], [], [], []⟩, ⟨[], [], [], [0]⟩, ⟨[], [], [], [0, 1]⟩, ⟨[2], [], [], [0, 1, 2]⟩, ⟨[], [], [], []⟩, ⟨[], [], [], [4]⟩, ⟨[], [], [], [4, 5]⟩, ⟨[2], [], [], [4, 5, 6]⟩, ⟨[], [], [], [0, 1, 2, 3]⟩, ⟨[], [], [], [0, 1, 2, 3, 4, 5, 6, 7, 8]⟩] Tryd.mixed rfl (by kernel_rfl) ⟨Ob.v rfl (fun _ _ h => by cases h) (fun _ _ _ => rfl) (fun e L' hL => JV.move rfl),
                Ob.v rfl (fun _ _ h => by cases h) (fun _ _ _ => rfl) (fun e L' hL => JV.subN (b := 15) rfl rfl (by omega)),
                Ob.v rfl (fun _ _ h => by cases h) (fun _ _ _ => rfl) (fun e L' hL => JV.idxArr0 rfl rfl Tryd.runUnderlying136 Tryd.sizeOf124 (by omega)),
                Ob.v rfl (fun _ _ h => by cases h) (fun _ _ _ => rfl) (fun e L' hL => JV.load1 2 rfl ((hL 2 (by decide)).trans rfl) Tryd.isAgg124 (getU _ _ (by rw [Pl.W_len]; omega))),
                Ob.v rfl (fun _ _ h => by cases h) (fun _ _ _ => rfl) (fun e L' hL => JV.move rfl),
                Ob.v rfl (fun _ _ h => by cases h) (fun _ _ _ => rfl) (fun e L' hL => JV.subN (b := 2) rfl rfl (by omega)),
                Ob.v rfl (fun _ _ h => by cases h) (fun _ _ _ => rfl) (fun e L' hL => JV.idxArr0 rfl rfl Tryd.runUnderlying136 Tryd.sizeOf124 (by omega)),
                Ob.v rfl (fun _ _ h => by cases h) (fun _ _ _ => rfl) (fun e L' hL => JV.load1 2 rfl ((hL 2 (by decide)).trans rfl) Tryd.isAgg124 (getU _ _ (by rw [Pl.W_len]; omega))),
                Ob.v rfl (fun _ _ h => by cases h) (fun _ _ _ => rfl) (fun e L' hL => JV.assign rfl),
                Ob.v rfl (fun _ _ h => by cases h) (fun _ _ _ => rfl) (fun e L' hL => JV.assign rfl), trivial⟩ (fun ev11 => ?_)
      simp only [endF, endL, putF, List.nil_append, List.cons_append]
      refine JQ.n_then ?_
      refine JQ.seq ?_
      refine JQ.region ?_
      refine JQ.v (JV.move rfl) rfl ?_
      refine JQ.v (JV.call Tryd.call92 (evs_cons rfl (evs_cons rfl evs_nil)) (rotl _ 7 (hB _) (by omega) (by omega))) rfl ?_
      refine JQ.v (JV.move rfl) rfl ?_
      refine JQ.v (JV.call Tryd.call92 (evs_cons rfl (evs_cons rfl evs_nil)) (rotl _ 18 (hB _) (by omega) (by omega))) rfl ?_
      refine JQ.v (JV.xorU32 rfl rfl (by repeat (first | assumption | exact hB _ | apply Pl.xor_lt | apply Pl.mix_lt | apply Pl.rotr_lt | apply Pl.and_lt | apply Pl.or_lt | apply Pl.div_lt | exact Pl.mod_lt _ | exact Pl.byte_lt _ | omega)) (by repeat (first | assumption | exact hB _ | apply Pl.xor_lt | apply Pl.mix_lt | apply Pl.rotr_lt | apply Pl.and_lt | apply Pl.or_lt | apply Pl.div_lt | exact Pl.mod_lt _ | exact Pl.byte_lt _ | omega))) rfl ?_
      refine JQ.v (JV.move rfl) rfl ?_
      refine JQ.v (JV.shrU32 (b := 3) rfl rfl (by omega)) rfl ?_
      refine JQ.v (JV.xorU32 rfl rfl (by repeat (first | assumption | exact hB _ | apply Pl.xor_lt | apply Pl.mix_lt | apply Pl.rotr_lt | apply Pl.and_lt | apply Pl.or_lt | apply Pl.div_lt | exact Pl.mod_lt _ | exact Pl.byte_lt _ | omega)) (by repeat (first | assumption | exact hB _ | apply Pl.xor_lt | apply Pl.mix_lt | apply Pl.rotr_lt | apply Pl.and_lt | apply Pl.or_lt | apply Pl.div_lt | exact Pl.mod_lt _ | exact Pl.byte_lt _ | omega))) rfl ?_
      refine JQ.v (JV.assign rfl) rfl ?_
      refine JQ.nil ?_
      refine JQ.n_then ?_
      refine JQ.seq ?_
      refine JQ.region ?_
      refine JQ.v (JV.move rfl) rfl ?_
      refine JQ.v (JV.call Tryd.call92 (evs_cons rfl (evs_cons rfl evs_nil)) (rotl _ 17 (hB _) (by omega) (by omega))) rfl ?_
      refine JQ.v (JV.move rfl) rfl ?_
      refine JQ.v (JV.call Tryd.call92 (evs_cons rfl (evs_cons rfl evs_nil)) (rotl _ 19 (hB _) (by omega) (by omega))) rfl ?_
      refine JQ.v (JV.xorU32 rfl rfl (by repeat (first | assumption | exact hB _ | apply Pl.xor_lt | apply Pl.mix_lt | apply Pl.rotr_lt | apply Pl.and_lt | apply Pl.or_lt | apply Pl.div_lt | exact Pl.mod_lt _ | exact Pl.byte_lt _ | omega)) (by repeat (first | assumption | exact hB _ | apply Pl.xor_lt | apply Pl.mix_lt | apply Pl.rotr_lt | apply Pl.and_lt | apply Pl.or_lt | apply Pl.div_lt | exact Pl.mod_lt _ | exact Pl.byte_lt _ | omega))) rfl ?_
      refine JQ.v (JV.move rfl) rfl ?_
      refine JQ.v (JV.shrU32 (b := 10) rfl rfl (by omega)) rfl ?_
      refine JQ.v (JV.xorU32 rfl rfl (by repeat (first | assumption | exact hB _ | apply Pl.xor_lt | apply Pl.mix_lt | apply Pl.rotr_lt | apply Pl.and_lt | apply Pl.or_lt | apply Pl.div_lt | exact Pl.mod_lt _ | exact Pl.byte_lt _ | omega)) (by repeat (first | assumption | exact hB _ | apply Pl.xor_lt | apply Pl.mix_lt | apply Pl.rotr_lt | apply Pl.and_lt | apply Pl.or_lt | apply Pl.div_lt | exact Pl.mod_lt _ | exact Pl.byte_lt _ | omega))) rfl ?_
      refine JQ.v (JV.assign rfl) rfl ?_
      refine JQ.nil ?_
      refine JQ.n_then ?_
      refine JQ.any [_, _, _, _, _, _, _, _, _, _, _, _, _, _, _, _] [fun _ => [], fun _ => [], fun _ => [], fun _ => [], fun _ => [], fun _ => [], fun _ => [], fun _ => [], fun _ => [], fun _ => [], fun _ => [], fun _ => [], fun _ => [], fun _ => [], fun _ => [], _] [⟨[], [], [], []⟩, ⟨[], [], [], []⟩, ⟨[], [], [], [1]⟩, ⟨[], [], [], [1, 2]⟩, ⟨[2], [], [], [1, 2, 3]⟩, ⟨[], [], [], []⟩, ⟨[], [], [], [1, 2, 3, 4, 5]⟩, ⟨[], [], [], []⟩, ⟨[], [], [], [7]⟩, ⟨[], [], [], [7, 8]⟩, ⟨[2], [], [], [7, 8, 9]⟩, ⟨[], [], [], [1, 2, 3, 4, 5, 6, 7, 8, 9, 10]⟩, ⟨[], [], [], []⟩, ⟨[], [], [], [1, 2, 3, 4, 5, 6, 7, 8, 9, 10, 11, 12]⟩, ⟨[], [], [], [0, 1, 2, 3, 4, 5, 6, 7, 8, 9, 10, 11, 12, 13]⟩, ⟨[], [2], [], [0, 1, 2, 3, 4, 5, 6, 7, 8, 9, 10, 11, 12, 13, 14]⟩] Tryd.mixed rfl (by kernel_rfl) ⟨Ob.v rfl (fun _ _ h => by cases h) (fun _ _ _ => rfl) (fun e L' hL => JV.move rfl),
                Ob.v rfl (fun _ _ h => by cases h) (fun _ _ _ => rfl) (fun e L' hL => JV.move rfl),
                Ob.v rfl (fun _ _ h => by cases h) (fun _ _ _ => rfl) (fun e L' hL => JV.subN (b := 16) rfl rfl (by omega)),
                Ob.v rfl (fun _ _ h => by cases h) (fun _ _ _ => rfl) (fun e L' hL => JV.idxArr0 rfl rfl Tryd.runUnderlying136 Tryd.sizeOf124 (by omega)),
                Ob.v rfl (fun _ _ h => by cases h) (fun _ _ _ => rfl) (fun e L' hL => JV.load1 2 rfl ((hL 2 (by decide)).trans rfl) Tryd.isAgg124 (getU _ _ (by rw [Pl.W_len]; omega))),
                Ob.v rfl (fun _ _ h => by cases h) (fun _ _ _ => rfl) (fun e L' hL => JV.move rfl),
                Ob.v rfl (fun _ _ h => by cases h) (fun _ _ _ => rfl) (fun e L' hL => JV.addU32 rfl rfl),
                Ob.v rfl (fun _ _ h => by cases h) (fun _ _ _ => rfl) (fun e L' hL => JV.move rfl),
                Ob.v rfl (fun _ _ h => by cases h) (fun _ _ _ => rfl) (fun e L' hL => JV.subN (b := 7) rfl rfl (by omega)),
                Ob.v rfl (fun _ _ h => by cases h) (fun _ _ _ => rfl) (fun e L' hL => JV.idxArr0 rfl rfl Tryd.runUnderlying136 Tryd.sizeOf124 (by omega)),
                Ob.v rfl (fun _ _ h => by cases h) (fun _ _ _ => rfl) (fun e L' hL => JV.load1 2 rfl ((hL 2 (by decide)).trans rfl) Tryd.isAgg124 (getU _ _ (by rw [Pl.W_len]; omega))),
                Ob.v rfl (fun _ _ h => by cases h) (fun _ _ _ => rfl) (fun e L' hL => JV.addU32 rfl rfl),
                Ob.v rfl (fun _ _ h => by cases h) (fun _ _ _ => rfl) (fun e L' hL => JV.move rfl),
                Ob.v rfl (fun _ _ h => by cases h) (fun _ _ _ => rfl) (fun e L' hL => JV.addU32 rfl rfl),
                Ob.v rfl (fun _ _ h => by cases h) (fun _ _ _ => rfl) (fun e L' hL => JV.idxArr0 rfl rfl Tryd.runUnderlying136 Tryd.sizeOf124 (by omega)),
                Ob.s 2 rfl (fun _ _ h => by cases h) (fun _ _ _ => rfl) (fun e L' hL => JO.store1 2 rfl ((hL 2 (by decide)).trans rfl) rfl rfl Tryd.sizeOf124 (by simp [Pl.W_len]; omega)), trivial⟩ (fun ev14 => ?_)
      simp only [endF, endL, putF, List.nil_append, List.cons_append]
      rw [setU]
      refine JQ.n_block ?_
      refine JQ.n_then ?_
      refine JQ.region ?_
      refine JQ.v (JV.addN (b := 1) rfl rfl (by omega)) rfl ?_
      refine JQ.v (JV.move rfl) rfl ?_
      refine JQ.nil ?_
      refine JQ.n_then ?_
      exact JQ.nextI (t + 1) (by omega) (by omega) (subk_cons rfl (subk_cons rfl (subk_cons rfl (subk_cons rfl subk_nil)))) (subr_cons (by simp only [Pl.W, Pl.nxt, if_neg h15]; rfl) (subr_cons rfl (subr_cons rfl subr_nil)))
  · refine JQ.exit ?_
    refine JQ.e_then ?_
    refine JQ.e_then ?_
    refine JQ.e_here ?_
    refine JQ.n_then ?_
    refine JQ.seq ?_
    refine JQ.region ?_
    refine JQ.v (JV.loadV 2 rfl rfl Tryd.isAgg136 Tryd.sizeOf136 (by simp [Pl.W_len])) rfl ?_
    refine JQ.s (JO.storeV 1 rfl rfl rfl (allU _) Tryd.sizeOf136 (by simp [Pl.W_len]) (by simp)) ?_
    refine JQ.nil ?_
    refine JQ.n_then ?_
    refine JQ.ret ?_
    refine JQ.doneC 1 Tryd.results90 rfl rfl Tryd.isAgg136 Tryd.sizeOf136 (by simp [Pl.W_len]) ?_
    exact fun w hw => ⟨by rw [show t = 64 from by omega]; rfl, hw.below⟩

theorem compress_spec (v : Value) (st : Pl.S8) (hst : st.ok) (bs : List UInt8) (hbs : bs.length = 64) (w : World) (hG : Gl 2 (Pl.K.map u32) w) (hr : Reads w v 1 64 (bs.map b8)) :
    Calls Tryd.prog 85 #[.agg (st.list.map u32).toArray, v] w fun e w' => e = .returned (.agg ((Pl.comp st bs).list.map u32).toArray) ∧ Below w.heap.size w w' := by
  
  refine enterA (vs := [_, _]) Tryd.func85 rfl 116 rfl [(902, .ro (gv 2 64) 1 64 (Pl.K.map u32)), (100, .ro v 1 64 (bs.map b8))] ((MemOk.start1 100 hr).addRo 902 hG (by intro j s hj; rw [lr_cons] at hj; split at hj; (cases hj; rfl); cases hj)) ?_
  refine JQ.seq ?_
  refine JQ.region ?_
  refine JQ.x (JO.box 1 rfl rfl) rfl ?_
  intro i0_0
  refine JQ.x (JO.alloc 2 (zs := ((List.replicate 8 0).map u32)) Tryd.zeroValue125 rfl) rfl ?_
  intro i0_1
  refine JQ.nil ?_
  refine JQ.n_then ?_
  refine JQ.seq ?_
  refine JQ.region ?_
  refine JQ.v (JV.move rfl) rfl ?_
  refine JQ.v (JV.callM Tryd.call90 (evs_cons rfl evs_nil) (fun w hw => schedule_spec v bs hbs w (hw.reads (id := 100) rfl))) rfl ?_
  refine JQ.x (JO.alloc 3 (zs := ((List.replicate 64 0).map u32)) Tryd.zeroValue136 rfl) rfl ?_
  intro i1_2
  refine JQ.s (JO.storeV 3 rfl rfl rfl (allU _) Tryd.sizeOf136 (by simp [Pl.sched, Pl.W_len]) rfl) ?_
  refine JQ.nil ?_
  refine JQ.n_then ?_
  refine JQ.seq ?_
  refine JQ.any [_, _, _, _, _, _, _, _, _, _] [fun _ => [], fun _ => [], fun _ => [], fun _ => [], fun _ => [], fun _ => [], _, _, _, _] [⟨[], [], [], []⟩, ⟨[], [], [], [0]⟩, ⟨[1], [], [], [0, 1]⟩, ⟨[], [], [], []⟩, ⟨[], [], [], [3]⟩, ⟨[1], [], [], [3, 4]⟩, ⟨[], [4], [], []⟩, ⟨[], [5], [], []⟩, ⟨[], [4], [6], [0, 1, 2, 6, 7]⟩, ⟨[], [5], [7], [0, 1, 2, 3, 4, 5, 6, 7, 8]⟩] Tryd.mixed rfl (by kernel_rfl) ⟨Ob.v rfl (fun _ _ h => by cases h) (fun _ _ _ => rfl) (fun e L' hL => JV.sliceArr rfl Tryd.runUnderlying125 Tryd.sizeOf124 rfl (bnd_some (n := 4) rfl) (by omega) (by omega) (by omega)),
        Ob.v rfl (fun _ _ h => by cases h) (fun _ _ _ => rfl) (fun e L' hL => JV.toArr rfl Tryd.runUnderlying139 (by omega)),
        Ob.v rfl (fun _ _ h => by cases h) (fun _ _ _ => rfl) (fun e L' hL => JV.loadA 1 rfl ((hL 1 (by decide)).trans rfl) Tryd.isAgg139 Tryd.sizeOf139 (us := [u32 st.a, u32 st.b, u32 st.c, u32 st.d]) rfl rfl),
        Ob.v rfl (fun _ _ h => by cases h) (fun _ _ _ => rfl) (fun e L' hL => JV.sliceArr rfl Tryd.runUnderlying125 Tryd.sizeOf124 (bnd_some (n := 4) rfl) rfl (by omega) (by omega) (by omega)),
        Ob.v rfl (fun _ _ h => by cases h) (fun _ _ _ => rfl) (fun e L' hL => JV.toArr rfl Tryd.runUnderlying139 (by omega)),
        Ob.v rfl (fun _ _ h => by cases h) (fun _ _ _ => rfl) (fun e L' hL => JV.loadA 1 rfl ((hL 1 (by decide)).trans rfl) Tryd.isAgg139 Tryd.sizeOf139 (us := [u32 st.e, u32 st.f, u32 st.g, u32 st.h]) rfl rfl),
        Ob.nb 4 rfl (fun _ _ h => by cases h) (fun _ _ _ => ⟨rfl, rfl⟩) (by decide) (fun e L' hL => JO.alloc 4 (zs := [u32 0, u32 0, u32 0, u32 0]) Tryd.zeroValue139 rfl),
        Ob.nb 5 rfl (fun _ _ h => by cases h) (fun _ _ _ => ⟨rfl, rfl⟩) (by decide) (fun e L' hL => JO.alloc 5 (zs := [u32 0, u32 0, u32 0, u32 0]) Tryd.zeroValue139 rfl),
        Ob.s 4 rfl (fun _ _ h => by cases h) (fun e e' he => by simp only [he 6 (by decide)]) (fun e L' hL => JO.storeV 4 rfl ((hL 4 (by decide)).trans rfl) rfl rfl Tryd.sizeOf139 rfl rfl),
        Ob.s 5 rfl (fun _ _ h => by cases h) (fun e e' he => by simp only [he 7 (by decide)]) (fun e L' hL => JO.storeV 5 rfl ((hL 5 (by decide)).trans rfl) rfl rfl Tryd.sizeOf139 rfl rfl), trivial⟩ (fun ev2 => ?_)
  simp only [endF, endL, putF, List.nil_append, List.cons_append]
  refine JQ.n_then ?_
  refine JQ.seq ?_
  refine JQ.seq ?_
  refine JQ.region ?_
  refine JQ.v (JV.loadGA 902 rfl rfl Tryd.isAgg136 Tryd.sizeOf136 rfl (by decide)) rfl ?_
  refine JQ.v (JV.move rfl) rfl ?_
  refine JQ.nil ?_
  refine JQ.n_then ?_
  refine JQ.block ?_
  refine JQ.loopI (ι := Nat) (fun i => [(2, .pointer (some ⟨i0_0, 0, none⟩)), (4, .pointer (some ⟨i0_1, 0, none⟩)), (5, .pointer (some ⟨i1_2, 0, none⟩)), (6, .pointer (some ⟨(ev2 6).1, 0, none⟩)), (7, .pointer (some ⟨(ev2 7).1, 0, none⟩)), (21, .agg (Pl.K.map u32).toArray), (22, .int .i64 ((i : Nat) : Int))]) (fun i => [(1, .cells i0_0 (st.list.map u32) 125 (0, 0)), (2, .cells i0_1 ((List.replicate 8 0).map u32) 125 (0, 0)), (3, .cells i1_2 ((Pl.sched bs).map u32) 136 (0, 0)), (4, .cells (ev2 6).1 [u32 (Pl.R (Pl.sched bs) st i).a, u32 (Pl.R (Pl.sched bs) st i).b, u32 (Pl.R (Pl.sched bs) st i).c, u32 (Pl.R (Pl.sched bs) st i).d] 139 (0, 0)), (5, .cells (ev2 7).1 [u32 (Pl.R (Pl.sched bs) st i).e, u32 (Pl.R (Pl.sched bs) st i).f, u32 (Pl.R (Pl.sched bs) st i).g, u32 (Pl.R (Pl.sched bs) st i).h] 139 (0, 0))]) (fun i => i ≤ 64) (fun i => 64 - i) 0 (by omega) (subk_cons rfl (subk_cons rfl (subk_cons rfl (subk_cons rfl (subk_cons rfl (subk_cons rfl (subk_cons rfl subk_nil))))))) (subr_cons rfl (subr_cons rfl (subr_cons rfl (subr_cons rfl (subr_cons rfl subr_nil))))) ?_
  intro t ht
  obtain ⟨ha, hb, hc, hd, he, hf, hg, hh⟩ := Pl.R_ok (Pl.sched bs) st hst t
  refine JQ.seq ?_
  refine JQ.region ?_
  refine JQ.v (JV.lssN (b := 64) rfl rfl) rfl ?_
  refine JQ.nil ?_
  refine JQ.n_then ?_
  refine JQ.seq ?_
  refine JQ.condP rfl (fun h23 => ?_) (fun h23 => ?_)
  · refine JQ.skip ?_
    refine JQ.n_then ?_
    refine JQ.seq ?_
    refine JQ.block ?_
    refine JQ.seq ?_
    refine JQ.region ?_
    refine JQ.v (JV.move rfl) rfl ?_
    refine JQ.v (JV.idxAgg rfl rfl Tryd.runUnderlying136 Tryd.sizeOf124 Tryd.isAgg124 (by omega) (getU _ _ (by rw [Pl.K_len]; omega))) rfl ?_
    refine JQ.v (JV.assign rfl) rfl ?_
    refine JQ.v (JV.assign rfl) rfl ?_
    refine JQ.nil ?_
    refine JQ.n_then ?_
    refine JQ.seq ?_
    refine JQ.any [_, _, _, _, _, _, _, _, _, _, _, _, _, _, _, _, _, _, _, _, _, _, _, _, _, _] [fun _ => [], fun _ => [], fun _ => [], fun _ => [], fun _ => [], fun _ => [], fun _ => [], fun _ => [], fun _ => [], fun _ => [], fun _ => [], fun _ => [], fun _ => [], fun _ => [], fun _ => [], fun _ => [], fun _ => [], fun _ => [], fun _ => [], fun _ => [], fun _ => [], fun _ => [], fun _ => [], fun _ => [], fun _ => [], fun _ => []] [⟨[], [], [], []⟩, ⟨[5], [], [], [0]⟩, ⟨[], [], [], []⟩, ⟨[5], [], [], [2]⟩, ⟨[], [], [], [2, 3]⟩, ⟨[], [], [], [0, 1, 2, 3, 4]⟩, ⟨[], [], [], []⟩, ⟨[5], [], [], [6]⟩, ⟨[], [], [], []⟩, ⟨[5], [], [], [8]⟩, ⟨[], [], [], [6, 7, 8, 9]⟩, ⟨[], [], [], []⟩, ⟨[5], [], [], [11]⟩, ⟨[], [], [], [11, 12]⟩, ⟨[], [], [], []⟩, ⟨[5], [], [], [14]⟩, ⟨[], [], [], [11, 12, 13, 14, 15]⟩, ⟨[], [], [], [6, 7, 8, 9, 10, 11, 12, 13, 14, 15, 16]⟩, ⟨[], [], [], [0, 1, 2, 3, 4, 5, 6, 7, 8, 9, 10, 11, 12, 13, 14, 15, 16, 17]⟩, ⟨[], [], [], []⟩, ⟨[], [], [], [0, 1, 2, 3, 4, 5, 6, 7, 8, 9, 10, 11, 12, 13, 14, 15, 16, 17, 18, 19]⟩, ⟨[], [], [], []⟩, ⟨[], [], [], [21]⟩, ⟨[3], [], [], [21, 22]⟩, ⟨[], [], [], [0, 1, 2, 3, 4, 5, 6, 7, 8, 9, 10, 11, 12, 13, 14, 15, 16, 17, 18, 19, 20, 21, 22, 23]⟩, ⟨[], [], [], [0, 1, 2, 3, 4, 5, 6, 7, 8, 9, 10, 11, 12, 13, 14, 15, 16, 17, 18, 19, 20, 21, 22, 23, 24]⟩] Tryd.mixed rfl (by kernel_rfl) ⟨Ob.v rfl (fun _ _ h => by cases h) (fun _ _ _ => rfl) (fun e L' hL => JV.idxArr0 (k := 3) rfl rfl Tryd.runUnderlying139 Tryd.sizeOf124 (by omega)),
            Ob.v rfl (fun _ _ h => by cases h) (fun _ _ _ => rfl) (fun e L' hL => JV.load1 5 rfl ((hL 5 (by decide)).trans rfl) Tryd.isAgg124 (rfl)),
            Ob.v rfl (fun _ _ h => by cases h) (fun _ _ _ => rfl) (fun e L' hL => JV.idxArr0 (k := 0) rfl rfl Tryd.runUnderlying139 Tryd.sizeOf124 (by omega)),
            Ob.v rfl (fun _ _ h => by cases h) (fun _ _ _ => rfl) (fun e L' hL => JV.load1 5 rfl ((hL 5 (by decide)).trans rfl) Tryd.isAgg124 (rfl)),
            Ob.v rfl (fun _ _ h => by cases h) (fun _ _ _ => rfl) (fun e L' hL => JV.call Tryd.call91 (evs_cons rfl (evs_cons rfl (evs_cons rfl (evs_cons rfl evs_nil)))) (mix_pure _ 6 11 25 he (by omega) (by omega) (by omega))),
            Ob.v rfl (fun _ _ h => by cases h) (fun _ _ _ => rfl) (fun e L' hL => JV.addU32 rfl rfl),
            Ob.v rfl (fun _ _ h => by cases h) (fun _ _ _ => rfl) (fun e L' hL => JV.idxArr0 (k := 0) rfl rfl Tryd.runUnderlying139 Tryd.sizeOf124 (by omega)),
            Ob.v rfl (fun _ _ h => by cases h) (fun _ _ _ => rfl) (fun e L' hL => JV.load1 5 rfl ((hL 5 (by decide)).trans rfl) Tryd.isAgg124 (rfl)),
            Ob.v rfl (fun _ _ h => by cases h) (fun _ _ _ => rfl) (fun e L' hL => JV.idxArr0 (k := 1) rfl rfl Tryd.runUnderlying139 Tryd.sizeOf124 (by omega)),
            Ob.v rfl (fun _ _ h => by cases h) (fun _ _ _ => rfl) (fun e L' hL => JV.load1 5 rfl ((hL 5 (by decide)).trans rfl) Tryd.isAgg124 (rfl)),
            Ob.v rfl (fun _ _ h => by cases h) (fun _ _ _ => rfl) (fun e L' hL => JV.andU32 rfl rfl (by repeat (first | assumption | exact hB _ | apply Pl.xor_lt | apply Pl.mix_lt | apply Pl.rotr_lt | apply Pl.and_lt | apply Pl.or_lt | apply Pl.div_lt | exact Pl.mod_lt _ | exact Pl.byte_lt _ | omega)) (by repeat (first | assumption | exact hB _ | apply Pl.xor_lt | apply Pl.mix_lt | apply Pl.rotr_lt | apply Pl.and_lt | apply Pl.or_lt | apply Pl.div_lt | exact Pl.mod_lt _ | exact Pl.byte_lt _ | omega))),
            Ob.v rfl (fun _ _ h => by cases h) (fun _ _ _ => rfl) (fun e L' hL => JV.idxArr0 (k := 0) rfl rfl Tryd.runUnderlying139 Tryd.sizeOf124 (by omega)),
            Ob.v rfl (fun _ _ h => by cases h) (fun _ _ _ => rfl) (fun e L' hL => JV.load1 5 rfl ((hL 5 (by decide)).trans rfl) Tryd.isAgg124 (rfl)),
            Ob.v rfl (fun _ _ h => by cases h) (fun _ _ _ => rfl) (fun e L' hL => JV.notU32 rfl (by repeat (first | assumption | exact hB _ | apply Pl.xor_lt | apply Pl.mix_lt | apply Pl.rotr_lt | apply Pl.and_lt | apply Pl.or_lt | apply Pl.div_lt | exact Pl.mod_lt _ | exact Pl.byte_lt _ | omega))),
            Ob.v rfl (fun _ _ h => by cases h) (fun _ _ _ => rfl) (fun e L' hL => JV.idxArr0 (k := 2) rfl rfl Tryd.runUnderlying139 Tryd.sizeOf124 (by omega)),
            Ob.v rfl (fun _ _ h => by cases h) (fun _ _ _ => rfl) (fun e L' hL => JV.load1 5 rfl ((hL 5 (by decide)).trans rfl) Tryd.isAgg124 (rfl)),
            Ob.v rfl (fun _ _ h => by cases h) (fun _ _ _ => rfl) (fun e L' hL => JV.andU32 rfl rfl (by repeat (first | assumption | exact hB _ | apply Pl.xor_lt | apply Pl.mix_lt | apply Pl.rotr_lt | apply Pl.and_lt | apply Pl.or_lt | apply Pl.div_lt | exact Pl.mod_lt _ | exact Pl.byte_lt _ | omega)) (by repeat (first | assumption | exact hB _ | apply Pl.xor_lt | apply Pl.mix_lt | apply Pl.rotr_lt | apply Pl.and_lt | apply Pl.or_lt | apply Pl.div_lt | exact Pl.mod_lt _ | exact Pl.byte_lt _ | omega))),
            Ob.v rfl (fun _ _ h => by cases h) (fun _ _ _ => rfl) (fun e L' hL => JV.xorU32 rfl rfl (by repeat (first | assumption | exact hB _ | apply Pl.xor_lt | apply Pl.mix_lt | apply Pl.rotr_lt | apply Pl.and_lt | apply Pl.or_lt | apply Pl.div_lt | exact Pl.mod_lt _ | exact Pl.byte_lt _ | omega)) (by repeat (first | assumption | exact hB _ | apply Pl.xor_lt | apply Pl.mix_lt | apply Pl.rotr_lt | apply Pl.and_lt | apply Pl.or_lt | apply Pl.div_lt | exact Pl.mod_lt _ | exact Pl.byte_lt _ | omega))),
            Ob.v rfl (fun _ _ h => by cases h) (fun _ _ _ => rfl) (fun e L' hL => JV.addU32 rfl rfl),
            Ob.v rfl (fun _ _ h => by cases h) (fun _ _ _ => rfl) (fun e L' hL => JV.move rfl),
            Ob.v rfl (fun _ _ h => by cases h) (fun _ _ _ => rfl) (fun e L' hL => JV.addU32 rfl rfl),
            Ob.v rfl (fun _ _ h => by cases h) (fun _ _ _ => rfl) (fun e L' hL => JV.move rfl),
            Ob.v rfl (fun _ _ h => by cases h) (fun _ _ _ => rfl) (fun e L' hL => JV.idxArr0 rfl rfl Tryd.runUnderlying136 Tryd.sizeOf124 (by omega)),
            Ob.v rfl (fun _ _ h => by cases h) (fun _ _ _ => rfl) (fun e L' hL => JV.load1 3 rfl ((hL 3 (by decide)).trans rfl) Tryd.isAgg124 (getU _ _ (by rw [Pl.sched, Pl.W_len]; omega))),
            Ob.v rfl (fun _ _ h => by cases h) (fun _ _ _ => rfl) (fun e L' hL => JV.addU32 rfl rfl),
            Ob.v rfl (fun _ _ h => by cases h) (fun _ _ _ => rfl) (fun e L' hL => JV.assign rfl), trivial⟩ (fun ev6 => ?_)
    simp only [endF, endL, putF, List.nil_append, List.cons_append]
    refine JQ.n_then ?_
    refine JQ.seq ?_
    refine JQ.any [_, _, _, _, _, _, _, _, _, _, _, _, _, _, _, _, _, _, _, _, _, _] [fun _ => [], fun _ => [], fun _ => [], fun _ => [], fun _ => [], fun _ => [], fun _ => [], fun _ => [], fun _ => [], fun _ => [], fun _ => [], fun _ => [], fun _ => [], fun _ => [], fun _ => [], fun _ => [], fun _ => [], fun _ => [], fun _ => [], fun _ => [], fun _ => [], fun _ => []] [⟨[], [], [], []⟩, ⟨[4], [], [], [0]⟩, ⟨[], [], [], [0, 1]⟩, ⟨[], [], [], []⟩, ⟨[4], [], [], [3]⟩, ⟨[], [], [], []⟩, ⟨[4], [], [], [5]⟩, ⟨[], [], [], [3, 4, 5, 6]⟩, ⟨[], [], [], []⟩, ⟨[4], [], [], [8]⟩, ⟨[], [], [], []⟩, ⟨[4], [], [], [10]⟩, ⟨[], [], [], [8, 9, 10, 11]⟩, ⟨[], [], [], [3, 4, 5, 6, 7, 8, 9, 10, 11, 12]⟩, ⟨[], [], [], []⟩, ⟨[4], [], [], [14]⟩, ⟨[], [], [], []⟩, ⟨[4], [], [], [16]⟩, ⟨[], [], [], [14, 15, 16, 17]⟩, ⟨[], [], [], [3, 4, 5, 6, 7, 8, 9, 10, 11, 12, 13, 14, 15, 16, 17, 18]⟩, ⟨[], [], [], [0, 1, 2, 3, 4, 5, 6, 7, 8, 9, 10, 11, 12, 13, 14, 15, 16, 17, 18, 19]⟩, ⟨[], [], [], [0, 1, 2, 3, 4, 5, 6, 7, 8, 9, 10, 11, 12, 13, 14, 15, 16, 17, 18, 19, 20]⟩] Tryd.mixed rfl (by kernel_rfl) ⟨Ob.v rfl (fun _ _ h => by cases h) (fun _ _ _ => rfl) (fun e L' hL => JV.idxArr0 (k := 0) rfl rfl Tryd.runUnderlying139 Tryd.sizeOf124 (by omega)),
            Ob.v rfl (fun _ _ h => by cases h) (fun _ _ _ => rfl) (fun e L' hL => JV.load1 4 rfl ((hL 4 (by decide)).trans rfl) Tryd.isAgg124 (rfl)),
            Ob.v rfl (fun _ _ h => by cases h) (fun _ _ _ => rfl) (fun e L' hL => JV.call Tryd.call91 (evs_cons rfl (evs_cons rfl (evs_cons rfl (evs_cons rfl evs_nil)))) (mix_pure _ 2 13 22 ha (by omega) (by omega) (by omega))),
            Ob.v rfl (fun _ _ h => by cases h) (fun _ _ _ => rfl) (fun e L' hL => JV.idxArr0 (k := 0) rfl rfl Tryd.runUnderlying139 Tryd.sizeOf124 (by omega)),
            Ob.v rfl (fun _ _ h => by cases h) (fun _ _ _ => rfl) (fun e L' hL => JV.load1 4 rfl ((hL 4 (by decide)).trans rfl) Tryd.isAgg124 (rfl)),
            Ob.v rfl (fun _ _ h => by cases h) (fun _ _ _ => rfl) (fun e L' hL => JV.idxArr0 (k := 1) rfl rfl Tryd.runUnderlying139 Tryd.sizeOf124 (by omega)),
            Ob.v rfl (fun _ _ h => by cases h) (fun _ _ _ => rfl) (fun e L' hL => JV.load1 4 rfl ((hL 4 (by decide)).trans rfl) Tryd.isAgg124 (rfl)),
            Ob.v rfl (fun _ _ h => by cases h) (fun _ _ _ => rfl) (fun e L' hL => JV.andU32 rfl rfl (by repeat (first | assumption | exact hB _ | apply Pl.xor_lt | apply Pl.mix_lt | apply Pl.rotr_lt | apply Pl.and_lt | apply Pl.or_lt | apply Pl.div_lt | exact Pl.mod_lt _ | exact Pl.byte_lt _ | omega)) (by repeat (first | assumption | exact hB _ | apply Pl.xor_lt | apply Pl.mix_lt | apply Pl.rotr_lt | apply Pl.and_lt | apply Pl.or_lt | apply Pl.div_lt | exact Pl.mod_lt _ | exact Pl.byte_lt _ | omega))),
            Ob.v rfl (fun _ _ h => by cases h) (fun _ _ _ => rfl) (fun e L' hL => JV.idxArr0 (k := 0) rfl rfl Tryd.runUnderlying139 Tryd.sizeOf124 (by omega)),
            Ob.v rfl (fun _ _ h => by cases h) (fun _ _ _ => rfl) (fun e L' hL => JV.load1 4 rfl ((hL 4 (by decide)).trans rfl) Tryd.isAgg124 (rfl)),
            Ob.v rfl (fun _ _ h => by cases h) (fun _ _ _ => rfl) (fun e L' hL => JV.idxArr0 (k := 2) rfl rfl Tryd.runUnderlying139 Tryd.sizeOf124 (by omega)),
            Ob.v rfl (fun _ _ h => by cases h) (fun _ _ _ => rfl) (fun e L' hL => JV.load1 4 rfl ((hL 4 (by decide)).trans rfl) Tryd.isAgg124 (rfl)),
            Ob.v rfl (fun _ _ h => by cases h) (fun _ _ _ => rfl) (fun e L' hL => JV.andU32 rfl rfl (by repeat (first | assumption | exact hB _ | apply Pl.xor_lt | apply Pl.mix_lt | apply Pl.rotr_lt | apply Pl.and_lt | apply Pl.or_lt | apply Pl.div_lt | exact Pl.mod_lt _ | exact Pl.byte_lt _ | omega)) (by repeat (first | assumption | exact hB _ | apply Pl.xor_lt | apply Pl.mix_lt | apply Pl.rotr_lt | apply Pl.and_lt | apply Pl.or_lt | apply Pl.div_lt | exact Pl.mod_lt _ | exact Pl.byte_lt _ | omega))),
            Ob.v rfl (fun _ _ h => by cases h) (fun _ _ _ => rfl) (fun e L' hL => JV.xorU32 rfl rfl (by repeat (first | assumption | exact hB _ | apply Pl.xor_lt | apply Pl.mix_lt | apply Pl.rotr_lt | apply Pl.and_lt | apply Pl.or_lt | apply Pl.div_lt | exact Pl.mod_lt _ | exact Pl.byte_lt _ | omega)) (by repeat (first | assumption | exact hB _ | apply Pl.xor_lt | apply Pl.mix_lt | apply Pl.rotr_lt | apply Pl.and_lt | apply Pl.or_lt | apply Pl.div_lt | exact Pl.mod_lt _ | exact Pl.byte_lt _ | omega))),
            Ob.v rfl (fun _ _ h => by cases h) (fun _ _ _ => rfl) (fun e L' hL => JV.idxArr0 (k := 1) rfl rfl Tryd.runUnderlying139 Tryd.sizeOf124 (by omega)),
            Ob.v rfl (fun _ _ h => by cases h) (fun _ _ _ => rfl) (fun e L' hL => JV.load1 4 rfl ((hL 4 (by decide)).trans rfl) Tryd.isAgg124 (rfl)),
            Ob.v rfl (fun _ _ h => by cases h) (fun _ _ _ => rfl) (fun e L' hL => JV.idxArr0 (k := 2) rfl rfl Tryd.runUnderlying139 Tryd.sizeOf124 (by omega)),
            Ob.v rfl (fun _ _ h => by cases h) (fun _ _ _ => rfl) (fun e L' hL => JV.load1 4 rfl ((hL 4 (by decide)).trans rfl) Tryd.isAgg124 (rfl)),
            Ob.v rfl (fun _ _ h => by cases h) (fun _ _ _ => rfl) (fun e L' hL => JV.andU32 rfl rfl (by repeat (first | assumption | exact hB _ | apply Pl.xor_lt | apply Pl.mix_lt | apply Pl.rotr_lt | apply Pl.and_lt | apply Pl.or_lt | apply Pl.div_lt | exact Pl.mod_lt _ | exact Pl.byte_lt _ | omega)) (by repeat (first | assumption | exact hB _ | apply Pl.xor_lt | apply Pl.mix_lt | apply Pl.rotr_lt | apply Pl.and_lt | apply Pl.or_lt | apply Pl.div_lt | exact Pl.mod_lt _ | exact Pl.byte_lt _ | omega))),
            Ob.v rfl (fun _ _ h => by cases h) (fun _ _ _ => rfl) (fun e L' hL => JV.xorU32 rfl rfl (by repeat (first | assumption | exact hB _ | apply Pl.xor_lt | apply Pl.mix_lt | apply Pl.rotr_lt | apply Pl.and_lt | apply Pl.or_lt | apply Pl.div_lt | exact Pl.mod_lt _ | exact Pl.byte_lt _ | omega)) (by repeat (first | assumption | exact hB _ | apply Pl.xor_lt | apply Pl.mix_lt | apply Pl.rotr_lt | apply Pl.and_lt | apply Pl.or_lt | apply Pl.div_lt | exact Pl.mod_lt _ | exact Pl.byte_lt _ | omega))),
            Ob.v rfl (fun _ _ h => by cases h) (fun _ _ _ => rfl) (fun e L' hL => JV.addU32 rfl rfl),
            Ob.v rfl (fun _ _ h => by cases h) (fun _ _ _ => rfl) (fun e L' hL => JV.assign rfl), trivial⟩ (fun ev7 => ?_)
    simp only [endF, endL, putF, List.nil_append, List.cons_append]
    refine JQ.n_then ?_
    refine JQ.seq ?_
    refine JQ.region ?_
    refine JQ.v (JV.idxArr0 (k := 3) rfl rfl Tryd.runUnderlying139 Tryd.sizeOf124 (by omega)) rfl ?_
    refine JQ.v (JV.load1 4 rfl rfl Tryd.isAgg124 (rfl)) rfl ?_
    refine JQ.v (JV.move rfl) rfl ?_
    refine JQ.v (JV.addU32 rfl rfl) rfl ?_
    refine JQ.v (JV.idxArr0 (k := 0) rfl rfl Tryd.runUnderlying139 Tryd.sizeOf124 (by omega)) rfl ?_
    refine JQ.v (JV.load1 5 rfl rfl Tryd.isAgg124 (rfl)) rfl ?_
    refine JQ.v (JV.idxArr0 (k := 1) rfl rfl Tryd.runUnderlying139 Tryd.sizeOf124 (by omega)) rfl ?_
    refine JQ.v (JV.load1 5 rfl rfl Tryd.isAgg124 (rfl)) rfl ?_
    refine JQ.v (JV.idxArr0 (k := 2) rfl rfl Tryd.runUnderlying139 Tryd.sizeOf124 (by omega)) rfl ?_
    refine JQ.v (JV.load1 5 rfl rfl Tryd.isAgg124 (rfl)) rfl ?_
    refine JQ.v (JV.buildArr (evp_cons rfl (evp_cons rfl (evp_cons rfl (evp_cons rfl evp_nil)))) Tryd.runUnderlying139 Tryd.zeroValue139 Tryd.sizeOf124 rfl rfl rfl) rfl ?_
    refine JQ.s (JO.storeV 5 rfl rfl rfl rfl Tryd.sizeOf139 rfl rfl) ?_
    refine JQ.nil ?_
    refine JQ.n_then ?_
    refine JQ.region ?_
    refine JQ.v (JV.move rfl) rfl ?_
    refine JQ.v (JV.move rfl) rfl ?_
    refine JQ.v (JV.addU32 rfl rfl) rfl ?_
    refine JQ.v (JV.idxArr0 (k := 0) rfl rfl Tryd.runUnderlying139 Tryd.sizeOf124 (by omega)) rfl ?_
    refine JQ.v (JV.load1 4 rfl rfl Tryd.isAgg124 (rfl)) rfl ?_
    refine JQ.v (JV.idxArr0 (k := 1) rfl rfl Tryd.runUnderlying139 Tryd.sizeOf124 (by omega)) rfl ?_
    refine JQ.v (JV.load1 4 rfl rfl Tryd.isAgg124 (rfl)) rfl ?_
    refine JQ.v (JV.idxArr0 (k := 2) rfl rfl Tryd.runUnderlying139 Tryd.sizeOf124 (by omega)) rfl ?_
    refine JQ.v (JV.load1 4 rfl rfl Tryd.isAgg124 (rfl)) rfl ?_
    refine JQ.v (JV.buildArr (evp_cons rfl (evp_cons rfl (evp_cons rfl (evp_cons rfl evp_nil)))) Tryd.runUnderlying139 Tryd.zeroValue139 Tryd.sizeOf124 rfl rfl rfl) rfl ?_
    refine JQ.s (JO.storeV 4 rfl rfl rfl rfl Tryd.sizeOf139 rfl rfl) ?_
    refine JQ.nil ?_
    refine JQ.n_block ?_
    refine JQ.n_then ?_
    refine JQ.region ?_
    refine JQ.v (JV.addN (b := 1) rfl rfl (by omega)) rfl ?_
    refine JQ.v (JV.move rfl) rfl ?_
    refine JQ.nil ?_
    refine JQ.n_then ?_
    exact JQ.nextI (t + 1) (by omega) (by omega) (subk_cons rfl (subk_cons rfl (subk_cons rfl (subk_cons rfl (subk_cons rfl (subk_cons rfl (subk_cons rfl subk_nil))))))) (subr_cons rfl (subr_cons rfl (subr_cons rfl (subr_cons rfl (subr_cons rfl subr_nil)))))
  · refine JQ.exit ?_
    refine JQ.e_then ?_
    refine JQ.e_then ?_
    refine JQ.e_here ?_
    refine JQ.n_then ?_
    refine JQ.seq ?_
    refine JQ.seq ?_
    refine JQ.region ?_
    refine JQ.v (JV.move rfl) rfl ?_
    refine JQ.nil ?_
    refine JQ.n_then ?_
    refine JQ.block ?_
    refine JQ.rounds 5 ?_
    refine JQ.round ?_
    refine JQ.seq ?_
    refine JQ.region ?_
    refine JQ.v (JV.lssN (a := 0) (b := 4) rfl rfl) rfl ?_
    refine JQ.nil ?_
    refine JQ.n_then ?_
    refine JQ.seq ?_
    refine JQ.condT rfl ?_
    refine JQ.skip ?_
    refine JQ.n_then ?_
    refine JQ.seq ?_
    refine JQ.block ?_
    refine JQ.seq ?_
    refine JQ.region ?_
    refine JQ.v (JV.move rfl) rfl ?_
    refine JQ.v (JV.assign rfl) rfl ?_
    refine JQ.nil ?_
    refine JQ.n_then ?_
    refine JQ.seq ?_
    refine JQ.any [_, _, _, _, _, _, _, _, _] [fun _ => [], fun _ => [], fun _ => [], fun _ => [], fun _ => [], fun _ => [], fun _ => [], fun _ => [], _] [⟨[], [], [], []⟩, ⟨[], [], [], [0]⟩, ⟨[1], [], [], [0, 1]⟩, ⟨[], [], [], []⟩, ⟨[], [], [], [3]⟩, ⟨[4], [], [], [3, 4]⟩, ⟨[], [], [], [0, 1, 2, 3, 4, 5]⟩, ⟨[], [], [], [0, 1, 2, 3, 4, 5, 6]⟩, ⟨[], [1], [], [0, 1, 2, 3, 4, 5, 6, 7]⟩] Tryd.mixed rfl (by kernel_rfl) ⟨Ob.v rfl (fun _ _ h => by cases h) (fun _ _ _ => rfl) (fun e L' hL => JV.move rfl),
            Ob.v rfl (fun _ _ h => by cases h) (fun _ _ _ => rfl) (fun e L' hL => JV.idxArr0 (k := 0) rfl rfl Tryd.runUnderlying125 Tryd.sizeOf124 (by omega)),
            Ob.v rfl (fun _ _ h => by cases h) (fun _ _ _ => rfl) (fun e L' hL => JV.load1 1 rfl ((hL 1 (by decide)).trans rfl) Tryd.isAgg124 (rfl)),
            Ob.v rfl (fun _ _ h => by cases h) (fun _ _ _ => rfl) (fun e L' hL => JV.move rfl),
            Ob.v rfl (fun _ _ h => by cases h) (fun _ _ _ => rfl) (fun e L' hL => JV.idxArr0 (k := 0) rfl rfl Tryd.runUnderlying139 Tryd.sizeOf124 (by omega)),
            Ob.v rfl (fun _ _ h => by cases h) (fun _ _ _ => rfl) (fun e L' hL => JV.load1 4 rfl ((hL 4 (by decide)).trans rfl) Tryd.isAgg124 (rfl)),
            Ob.v rfl (fun _ _ h => by cases h) (fun _ _ _ => rfl) (fun e L' hL => JV.addU32 rfl rfl),
            Ob.v rfl (fun _ _ h => by cases h) (fun _ _ _ => rfl) (fun e L' hL => JV.idxArr0 (k := 0) rfl rfl Tryd.runUnderlying125 Tryd.sizeOf124 (by omega)),
            Ob.s 1 rfl (fun _ _ h => by cases h) (fun _ _ _ => rfl) (fun e L' hL => JO.store1 1 rfl ((hL 1 (by decide)).trans rfl) rfl rfl Tryd.sizeOf124 (Nat.le_of_ble_eq_true rfl)), trivial⟩ (fun ev14 => ?_)
    simp only [endF, endL, putF, List.nil_append, List.cons_append]
    refine JQ.n_then ?_
    refine JQ.any [_, _, _, _, _, _, _, _, _, _] [fun _ => [], fun _ => [], fun _ => [], fun _ => [], fun _ => [], fun _ => [], fun _ => [], fun _ => [], fun _ => [], _] [⟨[], [], [], []⟩, ⟨[], [], [], [0]⟩, ⟨[], [], [], [0, 1]⟩, ⟨[1], [], [], [0, 1, 2]⟩, ⟨[], [], [], []⟩, ⟨[], [], [], [4]⟩, ⟨[5], [], [], [4, 5]⟩, ⟨[], [], [], [0, 1, 2, 3, 4, 5, 6]⟩, ⟨[], [], [], [0, 1, 2, 3, 4, 5, 6, 7]⟩, ⟨[], [1], [], [0, 1, 2, 3, 4, 5, 6, 7, 8]⟩] Tryd.mixed rfl (by kernel_rfl) ⟨Ob.v rfl (fun _ _ h => by cases h) (fun _ _ _ => rfl) (fun e L' hL => JV.move rfl),
            Ob.v rfl (fun _ _ h => by cases h) (fun _ _ _ => rfl) (fun e L' hL => JV.addN (a := 0) (b := 4) rfl rfl (by omega)),
            Ob.v rfl (fun _ _ h => by cases h) (fun _ _ _ => rfl) (fun e L' hL => JV.idxArr0 rfl rfl Tryd.runUnderlying125 Tryd.sizeOf124 (by omega)),
            Ob.v rfl (fun _ _ h => by cases h) (fun _ _ _ => rfl) (fun e L' hL => JV.load1 1 rfl ((hL 1 (by decide)).trans rfl) Tryd.isAgg124 (rfl)),
            Ob.v rfl (fun _ _ h => by cases h) (fun _ _ _ => rfl) (fun e L' hL => JV.move rfl),
            Ob.v rfl (fun _ _ h => by cases h) (fun _ _ _ => rfl) (fun e L' hL => JV.idxArr0 (k := 0) rfl rfl Tryd.runUnderlying139 Tryd.sizeOf124 (by omega)),
            Ob.v rfl (fun _ _ h => by cases h) (fun _ _ _ => rfl) (fun e L' hL => JV.load1 5 rfl ((hL 5 (by decide)).trans rfl) Tryd.isAgg124 (rfl)),
            Ob.v rfl (fun _ _ h => by cases h) (fun _ _ _ => rfl) (fun e L' hL => JV.addU32 rfl rfl),
            Ob.v rfl (fun _ _ h => by cases h) (fun _ _ _ => rfl) (fun e L' hL => JV.idxArr0 rfl rfl Tryd.runUnderlying125 Tryd.sizeOf124 (by omega)),
            Ob.s 1 rfl (fun _ _ h => by cases h) (fun _ _ _ => rfl) (fun e L' hL => JO.store1 1 rfl ((hL 1 (by decide)).trans rfl) rfl rfl Tryd.sizeOf124 (Nat.le_of_ble_eq_true rfl)), trivial⟩ (fun ev15 => ?_)
    simp only [endF, endL, putF, List.nil_append, List.cons_append]
    refine JQ.n_block ?_
    refine JQ.n_then ?_
    refine JQ.region ?_
    refine JQ.v (JV.addN (a := 0) (b := 1) rfl rfl (by omega)) rfl ?_
    refine JQ.v (JV.move rfl) rfl ?_
    refine JQ.nil ?_
    refine JQ.n_then ?_
    refine JQ.round ?_
    refine JQ.seq ?_
    refine JQ.region ?_
    refine JQ.v (JV.lssN (b := 4) rfl rfl) rfl ?_
    refine JQ.nil ?_
    refine JQ.n_then ?_
    refine JQ.seq ?_
    refine JQ.condT rfl ?_
    refine JQ.skip ?_
    refine JQ.n_then ?_
    refine JQ.seq ?_
    refine JQ.block ?_
    refine JQ.seq ?_
    refine JQ.region ?_
    refine JQ.v (JV.move rfl) rfl ?_
    refine JQ.v (JV.assign rfl) rfl ?_
    refine JQ.nil ?_
    refine JQ.n_then ?_
    refine JQ.seq ?_
    refine JQ.any [_, _, _, _, _, _, _, _, _] [fun _ => [], fun _ => [], fun _ => [], fun _ => [], fun _ => [], fun _ => [], fun _ => [], fun _ => [], _] [⟨[], [], [], []⟩, ⟨[], [], [], [0]⟩, ⟨[1], [], [], [0, 1]⟩, ⟨[], [], [], []⟩, ⟨[], [], [], [3]⟩, ⟨[4], [], [], [3, 4]⟩, ⟨[], [], [], [0, 1, 2, 3, 4, 5]⟩, ⟨[], [], [], [0, 1, 2, 3, 4, 5, 6]⟩, ⟨[], [1], [], [0, 1, 2, 3, 4, 5, 6, 7]⟩] Tryd.mixed rfl (by kernel_rfl) ⟨Ob.v rfl (fun _ _ h => by cases h) (fun _ _ _ => rfl) (fun e L' hL => JV.move rfl),
            Ob.v rfl (fun _ _ h => by cases h) (fun _ _ _ => rfl) (fun e L' hL => JV.idxArr0 rfl rfl Tryd.runUnderlying125 Tryd.sizeOf124 (by omega)),
            Ob.v rfl (fun _ _ h => by cases h) (fun _ _ _ => rfl) (fun e L' hL => JV.load1 1 rfl ((hL 1 (by decide)).trans rfl) Tryd.isAgg124 (rfl)),
            Ob.v rfl (fun _ _ h => by cases h) (fun _ _ _ => rfl) (fun e L' hL => JV.move rfl),
            Ob.v rfl (fun _ _ h => by cases h) (fun _ _ _ => rfl) (fun e L' hL => JV.idxArr0 rfl rfl Tryd.runUnderlying139 Tryd.sizeOf124 (by omega)),
            Ob.v rfl (fun _ _ h => by cases h) (fun _ _ _ => rfl) (fun e L' hL => JV.load1 4 rfl ((hL 4 (by decide)).trans rfl) Tryd.isAgg124 (rfl)),
            Ob.v rfl (fun _ _ h => by cases h) (fun _ _ _ => rfl) (fun e L' hL => JV.addU32 rfl rfl),
            Ob.v rfl (fun _ _ h => by cases h) (fun _ _ _ => rfl) (fun e L' hL => JV.idxArr0 rfl rfl Tryd.runUnderlying125 Tryd.sizeOf124 (by omega)),
            Ob.s 1 rfl (fun _ _ h => by cases h) (fun _ _ _ => rfl) (fun e L' hL => JO.store1 1 rfl ((hL 1 (by decide)).trans rfl) rfl rfl Tryd.sizeOf124 (Nat.le_of_ble_eq_true rfl)), trivial⟩ (fun ev14 => ?_)
    simp only [endF, endL, putF, List.nil_append, List.cons_append]
    refine JQ.n_then ?_
    refine JQ.any [_, _, _, _, _, _, _, _, _, _] [fun _ => [], fun _ => [], fun _ => [], fun _ => [], fun _ => [], fun _ => [], fun _ => [], fun _ => [], fun _ => [], _] [⟨[], [], [], []⟩, ⟨[], [], [], [0]⟩, ⟨[], [], [], [0, 1]⟩, ⟨[1], [], [], [0, 1, 2]⟩, ⟨[], [], [], []⟩, ⟨[], [], [], [4]⟩, ⟨[5], [], [], [4, 5]⟩, ⟨[], [], [], [0, 1, 2, 3, 4, 5, 6]⟩, ⟨[], [], [], [0, 1, 2, 3, 4, 5, 6, 7]⟩, ⟨[], [1], [], [0, 1, 2, 3, 4, 5, 6, 7, 8]⟩] Tryd.mixed rfl (by kernel_rfl) ⟨Ob.v rfl (fun _ _ h => by cases h) (fun _ _ _ => rfl) (fun e L' hL => JV.move rfl),
            Ob.v rfl (fun _ _ h => by cases h) (fun _ _ _ => rfl) (fun e L' hL => JV.addN (b := 4) rfl rfl (by omega)),
            Ob.v rfl (fun _ _ h => by cases h) (fun _ _ _ => rfl) (fun e L' hL => JV.idxArr0 rfl rfl Tryd.runUnderlying125 Tryd.sizeOf124 (by omega)),
            Ob.v rfl (fun _ _ h => by cases h) (fun _ _ _ => rfl) (fun e L' hL => JV.load1 1 rfl ((hL 1 (by decide)).trans rfl) Tryd.isAgg124 (rfl)),
            Ob.v rfl (fun _ _ h => by cases h) (fun _ _ _ => rfl) (fun e L' hL => JV.move rfl),
            Ob.v rfl (fun _ _ h => by cases h) (fun _ _ _ => rfl) (fun e L' hL => JV.idxArr0 rfl rfl Tryd.runUnderlying139 Tryd.sizeOf124 (by omega)),
            Ob.v rfl (fun _ _ h => by cases h) (fun _ _ _ => rfl) (fun e L' hL => JV.load1 5 rfl ((hL 5 (by decide)).trans rfl) Tryd.isAgg124 (rfl)),
            Ob.v rfl (fun _ _ h => by cases h) (fun _ _ _ => rfl) (fun e L' hL => JV.addU32 rfl rfl),
            Ob.v rfl (fun _ _ h => by cases h) (fun _ _ _ => rfl) (fun e L' hL => JV.idxArr0 rfl rfl Tryd.runUnderlying125 Tryd.sizeOf124 (by omega)),
            Ob.s 1 rfl (fun _ _ h => by cases h) (fun _ _ _ => rfl) (fun e L' hL => JO.store1 1 rfl ((hL 1 (by decide)).trans rfl) rfl rfl Tryd.sizeOf124 (Nat.le_of_ble_eq_true rfl)), trivial⟩ (fun ev15 => ?_)
    simp only [endF, endL, putF, List.nil_append, List.cons_append]
    refine JQ.n_block ?_
    refine JQ.n_then ?_
    refine JQ.region ?_
    refine JQ.v (JV.addN (b := 1) rfl rfl (by omega)) rfl ?_
    refine JQ.v (JV.move rfl) rfl ?_
    refine JQ.nil ?_
    refine JQ.n_then ?_
    refine JQ.round ?_
    refine JQ.seq ?_
    refine JQ.region ?_
    refine JQ.v (JV.lssN (b := 4) rfl rfl) rfl ?_
    refine JQ.nil ?_
    refine JQ.n_then ?_
    refine JQ.seq ?_
    refine JQ.condT rfl ?_
    refine JQ.skip ?_
    refine JQ.n_then ?_
    refine JQ.seq ?_
    refine JQ.block ?_
    refine JQ.seq ?_
    refine JQ.region ?_
    refine JQ.v (JV.move rfl) rfl ?_
    refine JQ.v (JV.assign rfl) rfl ?_
    refine JQ.nil ?_
    refine JQ.n_then ?_
    refine JQ.seq ?_
    refine JQ.any [_, _, _, _, _, _, _, _, _] [fun _ => [], fun _ => [], fun _ => [], fun _ => [], fun _ => [], fun _ => [], fun _ => [], fun _ => [], _] [⟨[], [], [], []⟩, ⟨[], [], [], [0]⟩, ⟨[1], [], [], [0, 1]⟩, ⟨[], [], [], []⟩, ⟨[], [], [], [3]⟩, ⟨[4], [], [], [3, 4]⟩, ⟨[], [], [], [0, 1, 2, 3, 4, 5]⟩, ⟨[], [], [], [0, 1, 2, 3, 4, 5, 6]⟩, ⟨[], [1], [], [0, 1, 2, 3, 4, 5, 6, 7]⟩] Tryd.mixed rfl (by kernel_rfl) ⟨Ob.v rfl (fun _ _ h => by cases h) (fun _ _ _ => rfl) (fun e L' hL => JV.move rfl),
            Ob.v rfl (fun _ _ h => by cases h) (fun _ _ _ => rfl) (fun e L' hL => JV.idxArr0 rfl rfl Tryd.runUnderlying125 Tryd.sizeOf124 (by omega)),
            Ob.v rfl (fun _ _ h => by cases h) (fun _ _ _ => rfl) (fun e L' hL => JV.load1 1 rfl ((hL 1 (by decide)).trans rfl) Tryd.isAgg124 (rfl)),
            Ob.v rfl (fun _ _ h => by cases h) (fun _ _ _ => rfl) (fun e L' hL => JV.move rfl),
            Ob.v rfl (fun _ _ h => by cases h) (fun _ _ _ => rfl) (fun e L' hL => JV.idxArr0 rfl rfl Tryd.runUnderlying139 Tryd.sizeOf124 (by omega)),
            Ob.v rfl (fun _ _ h => by cases h) (fun _ _ _ => rfl) (fun e L' hL => JV.load1 4 rfl ((hL 4 (by decide)).trans rfl) Tryd.isAgg124 (rfl)),
            Ob.v rfl (fun _ _ h => by cases h) (fun _ _ _ => rfl) (fun e L' hL => JV.addU32 rfl rfl),
            Ob.v rfl (fun _ _ h => by cases h) (fun _ _ _ => rfl) (fun e L' hL => JV.idxArr0 rfl rfl Tryd.runUnderlying125 Tryd.sizeOf124 (by omega)),
            Ob.s 1 rfl (fun _ _ h => by cases h) (fun _ _ _ => rfl) (fun e L' hL => JO.store1 1 rfl ((hL 1 (by decide)).trans rfl) rfl rfl Tryd.sizeOf124 (Nat.le_of_ble_eq_true rfl)), trivial⟩ (fun ev14 => ?_)
    simp only [endF, endL, putF, List.nil_append, List.cons_append]
    refine JQ.n_then ?_
    refine JQ.any [_, _, _, _, _, _, _, _, _, _] [fun _ => [], fun _ => [], fun _ => [], fun _ => [], fun _ => [], fun _ => [], fun _ => [], fun _ => [], fun _ => [], _] [⟨[], [], [], []⟩, ⟨[], [], [], [0]⟩, ⟨[], [], [], [0, 1]⟩, ⟨[1], [], [], [0, 1, 2]⟩, ⟨[], [], [], []⟩, ⟨[], [], [], [4]⟩, ⟨[5], [], [], [4, 5]⟩, ⟨[], [], [], [0, 1, 2, 3, 4, 5, 6]⟩, ⟨[], [], [], [0, 1, 2, 3, 4, 5, 6, 7]⟩, ⟨[], [1], [], [0, 1, 2, 3, 4, 5, 6, 7, 8]⟩] Tryd.mixed rfl (by kernel_rfl) ⟨Ob.v rfl (fun _ _ h => by cases h) (fun _ _ _ => rfl) (fun e L' hL => JV.move rfl),
            Ob.v rfl (fun _ _ h => by cases h) (fun _ _ _ => rfl) (fun e L' hL => JV.addN (b := 4) rfl rfl (by omega)),
            Ob.v rfl (fun _ _ h => by cases h) (fun _ _ _ => rfl) (fun e L' hL => JV.idxArr0 rfl rfl Tryd.runUnderlying125 Tryd.sizeOf124 (by omega)),
            Ob.v rfl (fun _ _ h => by cases h) (fun _ _ _ => rfl) (fun e L' hL => JV.load1 1 rfl ((hL 1 (by decide)).trans rfl) Tryd.isAgg124 (rfl)),
            Ob.v rfl (fun _ _ h => by cases h) (fun _ _ _ => rfl) (fun e L' hL => JV.move rfl),
            Ob.v rfl (fun _ _ h => by cases h) (fun _ _ _ => rfl) (fun e L' hL => JV.idxArr0 rfl rfl Tryd.runUnderlying139 Tryd.sizeOf124 (by omega)),
            Ob.v rfl (fun _ _ h => by cases h) (fun _ _ _ => rfl) (fun e L' hL => JV.load1 5 rfl ((hL 5 (by decide)).trans rfl) Tryd.isAgg124 (rfl)),
            Ob.v rfl (fun _ _ h => by cases h) (fun _ _ _ => rfl) (fun e L' hL => JV.addU32 rfl rfl),
            Ob.v rfl (fun _ _ h => by cases h) (fun _ _ _ => rfl) (fun e L' hL => JV.idxArr0 rfl rfl Tryd.runUnderlying125 Tryd.sizeOf124 (by omega)),
            Ob.s 1 rfl (fun _ _ h => by cases h) (fun _ _ _ => rfl) (fun e L' hL => JO.store1 1 rfl ((hL 1 (by decide)).trans rfl) rfl rfl Tryd.sizeOf124 (Nat.le_of_ble_eq_true rfl)), trivial⟩ (fun ev15 => ?_)
    simp only [endF, endL, putF, List.nil_append, List.cons_append]
    refine JQ.n_block ?_
    refine JQ.n_then ?_
    refine JQ.region ?_
    refine JQ.v (JV.addN (b := 1) rfl rfl (by omega)) rfl ?_
    refine JQ.v (JV.move rfl) rfl ?_
    refine JQ.nil ?_
    refine JQ.n_then ?_
    refine JQ.round ?_
    refine JQ.seq ?_
    refine JQ.region ?_
    refine JQ.v (JV.lssN (b := 4) rfl rfl) rfl ?_
    refine JQ.nil ?_
    refine JQ.n_then ?_
    refine JQ.seq ?_
    refine JQ.condT rfl ?_
    refine JQ.skip ?_
    refine JQ.n_then ?_
    refine JQ.seq ?_
    refine JQ.block ?_
    refine JQ.seq ?_
    refine JQ.region ?_
    refine JQ.v (JV.move rfl) rfl ?_
    refine JQ.v (JV.assign rfl) rfl ?_
    refine JQ.nil ?_
    refine JQ.n_then ?_
    refine JQ.seq ?_
    refine JQ.any [_, _, _, _, _, _, _, _, _] [fun _ => [], fun _ => [], fun _ => [], fun _ => [], fun _ => [], fun _ => [], fun _ => [], fun _ => [], _] [⟨[], [], [], []⟩, ⟨[], [], [], [0]⟩, ⟨[1], [], [], [0, 1]⟩, ⟨[], [], [], []⟩, ⟨[], [], [], [3]⟩, ⟨[4], [], [], [3, 4]⟩, ⟨[], [], [], [0, 1, 2, 3, 4, 5]⟩, ⟨[], [], [], [0, 1, 2, 3, 4, 5, 6]⟩, ⟨[], [1], [], [0, 1, 2, 3, 4, 5, 6, 7]⟩] Tryd.mixed rfl (by kernel_rfl) ⟨Ob.v rfl (fun _ _ h => by cases h) (fun _ _ _ => rfl) (fun e L' hL => JV.move rfl),
            Ob.v rfl (fun _ _ h => by cases h) (fun _ _ _ => rfl) (fun e L' hL => JV.idxArr0 rfl rfl Tryd.runUnderlying125 Tryd.sizeOf124 (by omega)),
            Ob.v rfl (fun _ _ h => by cases h) (fun _ _ _ => rfl) (fun e L' hL => JV.load1 1 rfl ((hL 1 (by decide)).trans rfl) Tryd.isAgg124 (rfl)),
            Ob.v rfl (fun _ _ h => by cases h) (fun _ _ _ => rfl) (fun e L' hL => JV.move rfl),
            Ob.v rfl (fun _ _ h => by cases h) (fun _ _ _ => rfl) (fun e L' hL => JV.idxArr0 rfl rfl Tryd.runUnderlying139 Tryd.sizeOf124 (by omega)),
            Ob.v rfl (fun _ _ h => by cases h) (fun _ _ _ => rfl) (fun e L' hL => JV.load1 4 rfl ((hL 4 (by decide)).trans rfl) Tryd.isAgg124 (rfl)),
            Ob.v rfl (fun _ _ h => by cases h) (fun _ _ _ => rfl) (fun e L' hL => JV.addU32 rfl rfl),
            Ob.v rfl (fun _ _ h => by cases h) (fun _ _ _ => rfl) (fun e L' hL => JV.idxArr0 rfl rfl Tryd.runUnderlying125 Tryd.sizeOf124 (by omega)),
            Ob.s 1 rfl (fun _ _ h => by cases h) (fun _ _ _ => rfl) (fun e L' hL => JO.store1 1 rfl ((hL 1 (by decide)).trans rfl) rfl rfl Tryd.sizeOf124 (Nat.le_of_ble_eq_true rfl)), trivial⟩ (fun ev14 => ?_)
    simp only [endF, endL, putF, List.nil_append, List.cons_append]
    refine JQ.n_then ?_
    refine JQ.any [_, _, _, _, _, _, _, _, _, _] [fun _ => [], fun _ => [], fun _ => [], fun _ => [], fun _ => [], fun _ => [], fun _ => [], fun _ => [], fun _ => [], _] [⟨[], [], [], []⟩, ⟨[], [], [], [0]⟩, ⟨[], [], [], [0, 1]⟩, ⟨[1], [], [], [0, 1, 2]⟩, ⟨[], [], [], []⟩, ⟨[], [], [], [4]⟩, ⟨[5], [], [], [4, 5]⟩, ⟨[], [], [], [0, 1, 2, 3, 4, 5, 6]⟩, ⟨[], [], [], [0, 1, 2, 3, 4, 5, 6, 7]⟩, ⟨[], [1], [], [0, 1, 2, 3, 4, 5, 6, 7, 8]⟩] Tryd.mixed rfl (by kernel_rfl) ⟨Ob.v rfl (fun _ _ h => by cases h) (fun _ _ _ => rfl) (fun e L' hL => JV.move rfl),
            Ob.v rfl (fun _ _ h => by cases h) (fun _ _ _ => rfl) (fun e L' hL => JV.addN (b := 4) rfl rfl (by omega)),
            Ob.v rfl (fun _ _ h => by cases h) (fun _ _ _ => rfl) (fun e L' hL => JV.idxArr0 rfl rfl Tryd.runUnderlying125 Tryd.sizeOf124 (by omega)),
            Ob.v rfl (fun _ _ h => by cases h) (fun _ _ _ => rfl) (fun e L' hL => JV.load1 1 rfl ((hL 1 (by decide)).trans rfl) Tryd.isAgg124 (rfl)),
            Ob.v rfl (fun _ _ h => by cases h) (fun _ _ _ => rfl) (fun e L' hL => JV.move rfl),
            Ob.v rfl (fun _ _ h => by cases h) (fun _ _ _ => rfl) (fun e L' hL => JV.idxArr0 rfl rfl Tryd.runUnderlying139 Tryd.sizeOf124 (by omega)),
            Ob.v rfl (fun _ _ h => by cases h) (fun _ _ _ => rfl) (fun e L' hL => JV.load1 5 rfl ((hL 5 (by decide)).trans rfl) Tryd.isAgg124 (rfl)),
            Ob.v rfl (fun _ _ h => by cases h) (fun _ _ _ => rfl) (fun e L' hL => JV.addU32 rfl rfl),
            Ob.v rfl (fun _ _ h => by cases h) (fun _ _ _ => rfl) (fun e L' hL => JV.idxArr0 rfl rfl Tryd.runUnderlying125 Tryd.sizeOf124 (by omega)),
            Ob.s 1 rfl (fun _ _ h => by cases h) (fun _ _ _ => rfl) (fun e L' hL => JO.store1 1 rfl ((hL 1 (by decide)).trans rfl) rfl rfl Tryd.sizeOf124 (Nat.le_of_ble_eq_true rfl)), trivial⟩ (fun ev15 => ?_)
    simp only [endF, endL, putF, List.nil_append, List.cons_append]
    refine JQ.n_block ?_
    refine JQ.n_then ?_
    refine JQ.region ?_
    refine JQ.v (JV.addN (b := 1) rfl rfl (by omega)) rfl ?_
    refine JQ.v (JV.move rfl) rfl ?_
    refine JQ.nil ?_
    refine JQ.n_then ?_
    refine JQ.round ?_
    refine JQ.seq ?_
    refine JQ.region ?_
    refine JQ.v (JV.lssN (b := 4) rfl rfl) rfl ?_
    refine JQ.nil ?_
    refine JQ.n_then ?_
    refine JQ.seq ?_
    refine JQ.condF rfl ?_
    refine JQ.exit ?_
    refine JQ.e_then ?_
    refine JQ.e_then ?_
    refine JQ.e_here ?_
    refine JQ.n_then ?_
    refine JQ.seq ?_
    refine JQ.region ?_
    refine JQ.v (JV.loadV 1 rfl rfl Tryd.isAgg125 Tryd.sizeOf125 rfl) rfl ?_
    refine JQ.s (JO.storeV 2 rfl rfl rfl rfl Tryd.sizeOf125 rfl rfl) ?_
    refine JQ.nil ?_
    refine JQ.n_then ?_
    refine JQ.ret ?_
    refine JQ.doneC 2 Tryd.results85 rfl rfl Tryd.isAgg125 Tryd.sizeOf125 rfl ?_
    exact fun w hw => ⟨by rw [show t = 64 from by omega]; rfl, hw.below⟩
end Go.Fw
end
section
open Go.RowKit
set_option maxRecDepth 100000
set_option linter.unusedVariables false
set_option linter.unusedSimpArgs false
namespace Go.Fw
open Go.Proofs
theorem begin_pure  :
    Pure Tryd.prog 78 #[] (.agg (scells Pl.Z).toArray) := by
  intro w
  refine enterA (vs := []) Tryd.func78 rfl 3 rfl [] (MemOk.start w) ?_
  refine JQ.seq ?_
  refine JQ.region ?_
  refine JQ.x (JO.alloc 1 (zs := ((List.replicate 8 0).map u32 ++ ((List.replicate 64 0).map b8 ++ [u64 0]))) Tryd.zeroValue128 rfl) rfl ?_
  intro i0_0
  refine JQ.nil ?_
  refine JQ.n_then ?_
  refine JQ.seq ?_
  refine JQ.region ?_
  refine JQ.v (JV.buildArr (evp_cons rfl (evp_cons rfl (evp_cons rfl (evp_cons rfl (evp_cons rfl (evp_cons rfl (evp_cons rfl (evp_cons rfl evp_nil)))))))) Tryd.runUnderlying125 Tryd.zeroValue125 Tryd.sizeOf124 rfl rfl rfl) rfl ?_
  refine JQ.v (JV.build (v := .agg (scells Pl.Z).toArray) (evp_cons rfl evp_nil) (fun w => by kernel_rfl)) rfl ?_
  refine JQ.s (JO.storeV 1 rfl rfl rfl (us := scells Pl.Z) rfl Tryd.sizeOf128 rfl rfl) ?_
  refine JQ.nil ?_
  refine JQ.n_then ?_
  refine JQ.ret ?_
  refine JQ.doneC 1 Tryd.results78 rfl rfl Tryd.isAgg128 Tryd.sizeOf128 rfl ?_
  exact fun w hw => ⟨rfl, hw.below⟩

theorem add_spec (s : Pl.Stm) (hs : s.ok) (t : List UInt8) (hn : s.n + t.length ≤ 4611686018427387904) (w : World) (hG : Gl 2 (Pl.K.map u32) w) :
    Calls Tryd.prog 79 #[.agg (scells s).toArray, str t] w fun e w' => e = .returned (.agg (scells (Pl.addS s t)).toArray) ∧ Below w.heap.size w w' := by
  
  refine enterA (vs := [_, _]) Tryd.func79 rfl 38 rfl [(902, .ro (gv 2 64) 1 64 (Pl.K.map u32))] (MemOk.start1 902 hG) ?_
  refine JQ.seq ?_
  refine JQ.region ?_
  refine JQ.x (JO.box 1 rfl rfl) rfl ?_
  intro i0_0
  refine JQ.x (JO.alloc 2 (zs := ((List.replicate 8 0).map u32 ++ ((List.replicate 64 0).map b8 ++ [u64 0]))) Tryd.zeroValue128 rfl) rfl ?_
  intro i0_1
  refine JQ.nil ?_
  refine JQ.n_then ?_
  refine JQ.seq ?_
  refine JQ.block ?_
  refine JQ.loopI (ι := Pl.Stm × List UInt8) (fun i => [(1, str i.2), (2, .pointer (some ⟨i0_0, 0, none⟩)), (4, .pointer (some ⟨i0_1, 0, none⟩))]) (fun i => [(1, .cells i0_0 (scells i.1) 128 (0, 0)), (2, .cells i0_1 ((List.replicate 8 0).map u32 ++ ((List.replicate 64 0).map b8 ++ [u64 0])) 128 (0, 0)), (902, .ro (gv 2 64) 1 64 (Pl.K.map u32))]) (fun i => i.1.ok ∧ Pl.addS s t = Pl.addS i.1 i.2 ∧ i.1.n + i.2.length ≤ 4611686018427387904) (fun i => i.2.length) (s, t) ⟨hs, rfl, hn⟩ (subk_cons rfl (subk_cons rfl (subk_cons rfl subk_nil))) (subr_cons rfl (subr_cons rfl (subr_cons rfl subr_nil))) ?_
  intro i hi
  obtain ⟨hok, heq, hle⟩ := hi
  have hk := Pl.kOf_le i.1 i.2
  have hbl := Pl.blkOf_len i.1 i.2 hok
  refine JQ.seq ?_
  refine JQ.seq ?_
  refine JQ.region ?_
  refine JQ.v (JV.move rfl) rfl ?_
  refine JQ.v (JV.neqS (l' := []) rfl rfl) rfl ?_
  refine JQ.nil ?_
  refine JQ.n_then ?_
  refine JQ.condP rfl (fun h8 => ?_) (fun h8 => ?_)
  · refine JQ.skip ?_
    refine JQ.n_then ?_
    refine JQ.block ?_
    refine JQ.seq ?_
    refine JQ.region ?_
    refine JQ.v (JV.fieldAddrK (o := 72) rfl Tryd.runUnderlying128 rfl Tryd.sizeOf126 rfl rfl) rfl ?_
    refine JQ.v (JV.load1 1 rfl rfl Tryd.isAgg126 (scells_n _ hok.2)) rfl ?_
    refine JQ.v (JV.remN (b := 64) rfl rfl (by decide)) rfl ?_
    refine JQ.v (JV.convK Tryd.runUnderlying126 Tryd.runUnderlying3 rfl (wrap_i64 (by omega))) rfl ?_
    refine JQ.v (JV.assign rfl) rfl ?_
    refine JQ.nil ?_
    refine JQ.n_then ?_
    refine JQ.seq ?_
    refine JQ.region ?_
    refine JQ.v (JV.fieldAddrK (o := 8) rfl Tryd.runUnderlying128 rfl Tryd.sizeOf123 rfl rfl) rfl ?_
    refine JQ.v (JV.move rfl) rfl ?_
    refine JQ.v (JV.sliceArr rfl Tryd.runUnderlying123 Tryd.sizeOf5 (bnd_some rfl) rfl (by omega) (by omega) (by omega)) rfl ?_
    refine JQ.v (JV.move rfl) rfl ?_
    refine JQ.x (JO.copyStr 1 (k := Pl.kOf i.1 i.2) rfl rfl rfl Tryd.runUnderlying30 Tryd.sizeOf5 rfl (by rw [scells_len _ hok.2]; omega)) rfl ?_
    rintro ⟨⟩
    rw [scells_copy3 i.1 i.2 hok.2]
    refine JQ.v (JV.assign rfl) rfl ?_
    refine JQ.nil ?_
    refine JQ.n_then ?_
    refine JQ.seq ?_
    refine JQ.region ?_
    refine JQ.v (JV.move rfl) rfl ?_
    refine JQ.v (JV.move rfl) rfl ?_
    refine JQ.v (JV.sliceStr rfl Tryd.runUnderlying9 (bnd_some rfl) rfl (by omega) (by omega)) rfl ?_
    rw [List.take_of_length_le (by simp)]
    refine JQ.v (JV.assign rfl) rfl ?_
    refine JQ.nil ?_
    refine JQ.n_then ?_
    refine JQ.seq ?_
    refine JQ.region ?_
    refine JQ.v (JV.fieldAddrK (o := 72) rfl Tryd.runUnderlying128 rfl Tryd.sizeOf126 rfl rfl) rfl ?_
    refine JQ.v (JV.load1 1 rfl rfl Tryd.isAgg126 (scells_n3 _ _ _ hbl)) rfl ?_
    refine JQ.v (JV.move rfl) rfl ?_
    refine JQ.v (JV.convU64 Tryd.runUnderlying3 Tryd.runUnderlying126 rfl) rfl ?_
    refine JQ.v (JV.addU64 rfl rfl) rfl ?_
    rw [show (i.1.n + Pl.kOf i.1 i.2 % 18446744073709551616) % 18446744073709551616 = i.1.n + Pl.kOf i.1 i.2 from by omega]
    refine JQ.v (JV.fieldAddrK (o := 72) rfl Tryd.runUnderlying128 rfl Tryd.sizeOf126 rfl rfl) rfl ?_
    refine JQ.s (JO.store1 1 rfl rfl rfl rfl Tryd.sizeOf126 (by rw [scells_len _ hbl]; decide)) ?_
    rw [scells_setn3 _ _ _ _ hbl]
    refine JQ.nil ?_
    refine JQ.n_then ?_
    refine JQ.seq ?_
    refine JQ.region ?_
    refine JQ.v (JV.move rfl) rfl ?_
    refine JQ.v (JV.move rfl) rfl ?_
    refine JQ.v (JV.addN rfl rfl (by omega)) rfl ?_
    refine JQ.v (JV.eqlN (b := 64) rfl rfl) rfl ?_
    refine JQ.nil ?_
    refine JQ.n_then ?_
    refine JQ.condP rfl (fun h30 => ?_) (fun h30 => ?_)
    · refine JQ.any [_, _, _, _, _, _, _] [fun _ => [], fun _ => [], fun _ => [], fun _ => [], fun _ => [], fun _ => [], _] [⟨[], [], [], []⟩, ⟨[1], [], [], [0]⟩, ⟨[], [], [], []⟩, ⟨[], [], [], [2]⟩, ⟨[1, 902], [], [], [0, 1, 2, 3]⟩, ⟨[], [], [], [0, 1, 2, 3, 4]⟩, ⟨[], [1], [], [0, 1, 2, 3, 4, 5]⟩] Tryd.mixed rfl (by kernel_rfl) ⟨Ob.v rfl (fun _ _ h => by cases h) (fun _ _ _ => rfl) (fun e L' hL => JV.fieldAddrK (o := 0) rfl Tryd.runUnderlying128 rfl Tryd.sizeOf125 rfl rfl),
                Ob.v rfl (fun _ _ h => by cases h) (fun _ _ _ => rfl) (fun e L' hL => JV.loadA 1 rfl ((hL 1 (by decide)).trans rfl) Tryd.isAgg125 Tryd.sizeOf125 rfl rfl),
                Ob.v rfl (fun _ _ h => by cases h) (fun _ _ _ => rfl) (fun e L' hL => JV.fieldAddrK (o := 8) rfl Tryd.runUnderlying128 rfl Tryd.sizeOf123 rfl rfl),
                Ob.v rfl (fun _ _ h => by cases h) (fun _ _ _ => rfl) (fun e L' hL => JV.sliceArr rfl Tryd.runUnderlying123 Tryd.sizeOf5 rfl rfl (by omega) (by omega) (by omega)),
                Ob.v rfl (fun _ _ h => by cases h) (fun _ _ _ => rfl) (fun e L' hL => JV.callM Tryd.call85 (evs_cons rfl (evs_cons rfl evs_nil)) (fun w hw => compress_spec _ _ hok.1 _ hbl w (hw.reads (id := 902) ((hL 902 (by decide)).trans rfl)) (reads_cells (hw.blk (id := 1) ((hL 1 (by decide)).trans rfl)) (scells_blk3 _ _ _ hbl) (by simp [hbl]) (by decide)))),
                Ob.v rfl (fun _ _ h => by cases h) (fun _ _ _ => rfl) (fun e L' hL => JV.fieldAddrK (o := 0) rfl Tryd.runUnderlying128 rfl Tryd.sizeOf125 rfl rfl),
                Ob.s 1 rfl (fun _ _ h => by cases h) (fun _ _ _ => rfl) (fun e L' hL => JO.storeA 1 rfl ((hL 1 (by decide)).trans rfl) rfl (by simp [u32, Value.oneCell']) Tryd.sizeOf125 rfl (by rw [scells_len _ hbl]; decide)), trivial⟩ (fun ev7 => ?_)
      simp only [endF, endL, putF, List.nil_append, List.cons_append]
      rw [scells_st3]
      refine JQ.n_block ?_
      refine JQ.n_then ?_
      have hp := Pl.kOf_pos i.1 i.2 h8
      have hst := Pl.stp_ok i.1 i.2 hok
      exact JQ.nextI (Pl.stp i.1 i.2, i.2.drop (Pl.kOf i.1 i.2)) (by exact ⟨hst, by rw [heq, Pl.addS_step _ _ h8], by show (Pl.stp i.1 i.2).n + (i.2.drop (Pl.kOf i.1 i.2)).length ≤ _; simp [Pl.stp]; omega⟩) (by show (i.2.drop (Pl.kOf i.1 i.2)).length < i.2.length; rw [List.length_drop]; omega) (subk_cons rfl (subk_cons rfl (subk_cons rfl subk_nil))) (subr_cons (by simp only [Pl.stp, if_pos h30]; rfl) (subr_cons rfl (subr_cons rfl subr_nil)))
    · refine JQ.skip ?_
      refine JQ.n_block ?_
      refine JQ.n_then ?_
      have hp := Pl.kOf_pos i.1 i.2 h8
      have hst := Pl.stp_ok i.1 i.2 hok
      exact JQ.nextI (Pl.stp i.1 i.2, i.2.drop (Pl.kOf i.1 i.2)) (by exact ⟨hst, by rw [heq, Pl.addS_step _ _ h8], by show (Pl.stp i.1 i.2).n + (i.2.drop (Pl.kOf i.1 i.2)).length ≤ _; simp [Pl.stp]; omega⟩) (by show (i.2.drop (Pl.kOf i.1 i.2)).length < i.2.length; rw [List.length_drop]; omega) (subk_cons rfl (subk_cons rfl (subk_cons rfl subk_nil))) (subr_cons (by simp only [Pl.stp, if_neg h30]; rfl) (subr_cons rfl (subr_cons rfl subr_nil)))
  · refine JQ.exit ?_
    refine JQ.e_then ?_
    refine JQ.e_then ?_
    refine JQ.e_here ?_
    refine JQ.n_then ?_
    refine JQ.seq ?_
    refine JQ.region ?_
    refine JQ.v (JV.loadV 1 rfl rfl Tryd.isAgg128 Tryd.sizeOf128 (scells_len _ hok.2)) rfl ?_
    refine JQ.s (JO.storeV 2 rfl rfl rfl (scells_all _) Tryd.sizeOf128 (scells_len _ hok.2) rfl) ?_
    refine JQ.nil ?_
    refine JQ.n_then ?_
    refine JQ.ret ?_
    refine JQ.doneC 2 Tryd.results79 rfl rfl Tryd.isAgg128 Tryd.sizeOf128 (scells_len _ hok.2) ?_
    exact fun w hw => ⟨by rw [heq, show i.2 = [] from Decidable.not_not.1 h8, Pl.addS_nil], hw.below⟩

theorem sum_spec (s : Pl.Stm) (hs : s.ok) (hn : s.n ≤ 4611686018427387000) (w : World) (hG : Gl 2 (Pl.K.map u32) w) :
    Calls Tryd.prog 80 #[.agg (scells s).toArray] w fun e w' => e = .returned (.agg ((Pl.sumS s).map b8).toArray) ∧ Below w.heap.size w w' := by
  
  refine enterA (vs := [_]) Tryd.func80 rfl 58 rfl [(902, .ro (gv 2 64) 1 64 (Pl.K.map u32))] (MemOk.start1 902 hG) ?_
  refine JQ.seq ?_
  refine JQ.region ?_
  refine JQ.x (JO.box 1 rfl rfl) rfl ?_
  intro i0_0
  refine JQ.x (JO.alloc 2 (zs := ((List.replicate 32 0).map b8)) Tryd.zeroValue121 rfl) rfl ?_
  intro i0_1
  refine JQ.nil ?_
  refine JQ.n_then ?_
  refine JQ.seq ?_
  have hz := Pl.zeros_le s.n
  refine JQ.region ?_
  refine JQ.v (JV.fieldAddrK (o := 72) rfl Tryd.runUnderlying128 rfl Tryd.sizeOf126 rfl rfl) rfl ?_
  refine JQ.v (JV.load1 1 rfl rfl Tryd.isAgg126 (scells_n s hs.2)) rfl ?_
  refine JQ.v (JV.mulU64 (a := 8) rfl rfl) rfl ?_
  refine JQ.v (JV.assign rfl) rfl ?_
  refine JQ.nil ?_
  refine JQ.n_then ?_
  refine JQ.seq ?_
  refine JQ.region ?_
  refine JQ.x (JO.buildSlice 3 (us := [.int .u8 ((128 : Nat) : Int)]) (e := 5) (evp_cons rfl evp_nil) (fun w => by kernel_rfl)) rfl ?_
  intro i2_0
  refine JQ.v (JV.assign rfl) rfl ?_
  refine JQ.rowOf (n := 1) (esz := 1) 3 rfl rfl (by omega) ?_
  refine JQ.nil ?_
  refine JQ.n_then ?_
  refine JQ.seq ?_
  refine JQ.block ?_
  refine JQ.loopI (ι := Nat × Value) (fun i => [(1, .pointer (some ⟨i0_0, 0, none⟩)), (2, .pointer (some ⟨i0_1, 0, none⟩)), (3, .int .u64 ((8 * s.n % 18446744073709551616 : Nat) : Int)), (4, i.2)]) (fun i => [(1, .cells i0_0 (scells s) 128 (0, 0)), (2, .cells i0_1 ((List.replicate 32 0).map b8) 121 (0, 0)), (902, .ro (gv 2 64) 1 64 (Pl.K.map u32)), (3, .row i.2 5 1 (1 + i.1) ((128 :: List.replicate i.1 0).map b8))]) (fun i => i.1 ≤ Pl.zeros s.n) (fun i => Pl.zeros s.n - i.1) (0, _) (Nat.zero_le _) (subk_cons rfl (subk_cons rfl (subk_cons rfl (subk_cons rfl subk_nil)))) (subr_cons rfl (subr_cons rfl (subr_cons rfl (subr_cons rfl subr_nil)))) ?_
  intro i hi
  refine JQ.seq ?_
  refine JQ.seq ?_
  refine JQ.region ?_
  refine JQ.v (JV.fieldAddrK (o := 72) rfl Tryd.runUnderlying128 rfl Tryd.sizeOf126 rfl rfl) rfl ?_
  refine JQ.v (JV.load1 1 rfl rfl Tryd.isAgg126 (scells_n s hs.2)) rfl ?_
  refine JQ.v (JV.convK Tryd.runUnderlying126 Tryd.runUnderlying3 rfl (wrap_i64 (by omega))) rfl ?_
  refine JQ.v (JV.move rfl) rfl ?_
  refine JQ.v (JV.lenRow 3 rfl rfl Tryd.runUnderlying30) rfl ?_
  refine JQ.v (JV.addN rfl rfl (by omega)) rfl ?_
  refine JQ.v (JV.remN (b := 64) rfl rfl (by omega)) rfl ?_
  refine JQ.v (JV.neqN (b := 56) rfl rfl) rfl ?_
  refine JQ.nil ?_
  refine JQ.n_then ?_
  refine JQ.condP rfl (fun h19 => ?_) (fun h19 => ?_)
  · refine JQ.skip ?_
    refine JQ.n_then ?_
    refine JQ.block ?_
    refine JQ.region ?_
    refine JQ.v (JV.move rfl) rfl ?_
    refine JQ.x (JO.buildSlice 4 (us := [.int .u8 0]) (e := 5) (evp_cons rfl evp_nil) (fun w => by kernel_rfl)) rfl ?_
    intro i4_1
    refine JQ.x (JO.append 3 elem5 rfl rfl rfl (fun w hw => Src.ro Tryd.underlying30 (reads_cells (hw.blk (id := 4) rfl) (show (_ : List Value) = ([.int .u8 0] : List Value) from rfl) rfl (by decide))) rfl (by omega) (by omega)) rfl ?_
    intro i4_2
    rw [snoc0, show ((128 : UInt8) :: List.replicate i.1 0) ++ [0] = 128 :: List.replicate (i.1 + 1) 0 from by rw [List.cons_append, ← List.replicate_succ'], show 1 + i.1 + 1 = 1 + (i.1 + 1) from by omega]
    refine JQ.v (JV.assign rfl) rfl ?_
    refine JQ.nil ?_
    refine JQ.n_block ?_
    refine JQ.n_then ?_
    exact JQ.nextI (i.1 + 1, i4_2) (by show i.1 + 1 ≤ _; unfold Pl.zeros at hi ⊢; omega) (by show Pl.zeros s.n - (i.1 + 1) < Pl.zeros s.n - i.1; unfold Pl.zeros at hi ⊢; omega) (subk_cons rfl (subk_cons rfl (subk_cons rfl (subk_cons rfl subk_nil)))) (subr_cons rfl (subr_cons rfl (subr_cons rfl (subr_cons rfl subr_nil))))
  · refine JQ.exit ?_
    refine JQ.e_then ?_
    refine JQ.e_then ?_
    refine JQ.e_here ?_
    refine JQ.n_then ?_
    refine JQ.seq ?_
    refine JQ.seq ?_
    refine JQ.region ?_
    refine JQ.v (JV.move rfl) rfl ?_
    refine JQ.nil ?_
    refine JQ.n_then ?_
    refine JQ.block ?_
    have hz2 : i.1 = Pl.zeros s.n := by unfold Pl.zeros at hi ⊢; omega
    rw [hz2]
    refine JQ.loopI (ι := Nat × Value) (fun i => [(1, .pointer (some ⟨i0_0, 0, none⟩)), (2, .pointer (some ⟨i0_1, 0, none⟩)), (3, .int .u64 ((8 * s.n % 18446744073709551616 : Nat) : Int)), (4, i.2), (23, .int .i64 ((i.1 : Nat) : Int))]) (fun i => [(1, .cells i0_0 (scells s) 128 (0, 0)), (2, .cells i0_1 ((List.replicate 32 0).map b8) 121 (0, 0)), (902, .ro (gv 2 64) 1 64 (Pl.K.map u32)), (3, .row i.2 5 1 (1 + Pl.zeros s.n + i.1) (((128 :: List.replicate (Pl.zeros s.n) 0) ++ (Pl.len8 s.n).take i.1).map b8))]) (fun i => i.1 ≤ 8) (fun i => 8 - i.1) (0, _) (Nat.zero_le _) (subk_cons rfl (subk_cons rfl (subk_cons rfl (subk_cons rfl (subk_cons rfl subk_nil))))) (subr_cons rfl (subr_cons rfl (subr_cons rfl (subr_cons (by simp; rfl) subr_nil)))) ?_
    intro i hi
    refine JQ.seq ?_
    refine JQ.region ?_
    refine JQ.v (JV.lssN (b := 8) rfl rfl) rfl ?_
    refine JQ.nil ?_
    refine JQ.n_then ?_
    refine JQ.seq ?_
    refine JQ.condP rfl (fun h24 => ?_) (fun h24 => ?_)
    · refine JQ.skip ?_
      refine JQ.n_then ?_
      refine JQ.seq ?_
      refine JQ.block ?_
      refine JQ.seq ?_
      refine JQ.region ?_
      refine JQ.v (JV.move rfl) rfl ?_
      refine JQ.v (JV.assign rfl) rfl ?_
      refine JQ.nil ?_
      refine JQ.n_then ?_
      refine JQ.region ?_
      refine JQ.v (JV.move rfl) rfl ?_
      refine JQ.v (JV.move rfl) rfl ?_
      refine JQ.v (JV.move rfl) rfl ?_
      refine JQ.v (JV.mulN (a := 8) rfl rfl (by omega)) rfl ?_
      refine JQ.v (JV.subN (a := 56) rfl rfl (by omega)) rfl ?_
      refine JQ.v (JV.shrU64 rfl rfl (by omega)) rfl ?_
      refine JQ.v (JV.convU8 Tryd.runUnderlying126 Tryd.runUnderlying5 rfl) rfl ?_
      refine JQ.x (JO.buildSlice 4 (us := [.int .u8 ((8 * s.n % 18446744073709551616 / 2 ^ (56 - 8 * i.1) % 256 : Nat) : Int)]) (e := 5) (evp_cons rfl evp_nil) (fun w => by kernel_rfl)) rfl ?_
      intro i8_7
      refine JQ.x (JO.append 3 elem5 rfl rfl rfl (fun w hw => Src.ro Tryd.underlying30 (reads_cells (hw.blk (id := 4) rfl) (show (_ : List Value) = ([.int .u8 ((8 * s.n % 18446744073709551616 / 2 ^ (56 - 8 * i.1) % 256 : Nat) : Int)] : List Value) from rfl) rfl (by decide))) rfl (by omega) (by omega)) rfl ?_
      intro i8_8
      rw [snocN, List.append_assoc, ← Pl.len8_take _ _ h24, show 1 + Pl.zeros s.n + i.1 + 1 = 1 + Pl.zeros s.n + (i.1 + 1) from by omega]
      refine JQ.v (JV.assign rfl) rfl ?_
      refine JQ.nil ?_
      refine JQ.n_block ?_
      refine JQ.n_then ?_
      refine JQ.region ?_
      refine JQ.v (JV.addN (b := 1) rfl rfl (by omega)) rfl ?_
      refine JQ.v (JV.move rfl) rfl ?_
      refine JQ.nil ?_
      refine JQ.n_then ?_
      exact JQ.nextI (i.1 + 1, i8_8) (by show i.1 + 1 ≤ 8; omega) (by show 8 - (i.1 + 1) < 8 - i.1; omega) (subk_cons rfl (subk_cons rfl (subk_cons rfl (subk_cons rfl (subk_cons rfl subk_nil))))) (subr_cons rfl (subr_cons rfl (subr_cons rfl (subr_cons rfl subr_nil))))
    · refine JQ.exit ?_
      refine JQ.e_then ?_
      refine JQ.e_then ?_
      refine JQ.e_here ?_
      refine JQ.n_then ?_
      refine JQ.seq ?_
      rw [show i.1 = 8 from by omega, List.take_of_length_le (show (Pl.len8 s.n).length ≤ 8 by rw [Pl.len8_len]; omega)]
      refine JQ.region ?_
      refine JQ.v (JV.loadV 1 rfl rfl Tryd.isAgg128 Tryd.sizeOf128 (scells_len _ hs.2)) rfl ?_
      refine JQ.v (JV.move rfl) rfl ?_
      refine JQ.v (JV.bytesStrW 3 (l := Pl.padT s.n) Tryd.runUnderlying30 Tryd.runUnderlying5 Tryd.runUnderlying9 rfl rfl) rfl ?_
      refine JQ.v (JV.callM Tryd.call79 (evs_cons rfl (evs_cons rfl evs_nil)) (fun w hw => add_spec s hs (Pl.padT s.n) (by rw [Pl.padT_len]; omega) w (hw.reads (id := 902) rfl))) rfl ?_
      refine JQ.s (JO.storeV 1 rfl rfl rfl (scells_all _) Tryd.sizeOf128 (scells_len _ (Pl.addS_ok s _ hs).2) (scells_len _ hs.2)) ?_
      refine JQ.nil ?_
      refine JQ.n_then ?_
      refine JQ.seq ?_
      refine JQ.region ?_
      refine JQ.x (JO.alloc 4 (zs := ((List.replicate 32 0).map b8)) Tryd.zeroValue121 rfl) rfl ?_
      intro i11_0
      refine JQ.nil ?_
      refine JQ.n_then ?_
      refine JQ.seq ?_
      refine JQ.seq ?_
      refine JQ.region ?_
      refine JQ.v (JV.move rfl) rfl ?_
      refine JQ.nil ?_
      refine JQ.n_then ?_
      refine JQ.block ?_
      refine JQ.loopI (ι := Nat) (fun i => [(1, .pointer (some ⟨i0_0, 0, none⟩)), (2, .pointer (some ⟨i0_1, 0, none⟩)), (6, .pointer (some ⟨i11_0, 0, none⟩)), (40, .int .i64 ((i : Nat) : Int))]) (fun i => [(1, .cells i0_0 (scells (Pl.addS s (Pl.padT s.n))) 128 (0, 0)), (2, .cells i0_1 ((List.replicate 32 0).map b8) 121 (0, 0)), (4, .cells i11_0 (((Pl.out (Pl.addS s (Pl.padT s.n)).st).take i ++ List.replicate (32 - i) 0).map b8) 121 (0, 0))]) (fun i => i ≤ 32) (fun i => 32 - i) 0 (by omega) (subk_cons rfl (subk_cons rfl (subk_cons rfl (subk_cons rfl subk_nil)))) (subr_cons rfl (subr_cons rfl (subr_cons rfl subr_nil))) ?_
      intro i hi
      refine JQ.seq ?_
      refine JQ.region ?_
      refine JQ.v (JV.lssN (b := 32) rfl rfl) rfl ?_
      refine JQ.nil ?_
      refine JQ.n_then ?_
      refine JQ.seq ?_
      refine JQ.condP rfl (fun h41 => ?_) (fun h41 => ?_)
      · refine JQ.skip ?_
        refine JQ.n_then ?_
        refine JQ.seq ?_
        refine JQ.block ?_
        refine JQ.seq ?_
        refine JQ.region ?_
        refine JQ.v (JV.move rfl) rfl ?_
        refine JQ.v (JV.assign rfl) rfl ?_
        refine JQ.nil ?_
        refine JQ.n_then ?_
        refine JQ.region ?_
        refine JQ.v (JV.move rfl) rfl ?_
        refine JQ.v (JV.move rfl) rfl ?_
        refine JQ.v (JV.quoN (b := 4) rfl rfl (by omega)) rfl ?_
        refine JQ.v (JV.fieldAddrK (o := 0) rfl Tryd.runUnderlying128 rfl Tryd.sizeOf125 rfl rfl) rfl ?_
        refine JQ.v (JV.idxArr0 rfl rfl Tryd.runUnderlying125 Tryd.sizeOf124 (by omega)) rfl ?_
        refine JQ.v (JV.load1 1 rfl rfl Tryd.isAgg124 (scells_w _ _ (by omega))) rfl ?_
        refine JQ.v (JV.move rfl) rfl ?_
        refine JQ.v (JV.remN (b := 4) rfl rfl (by omega)) rfl ?_
        refine JQ.v (JV.mulN (a := 8) rfl rfl (by omega)) rfl ?_
        refine JQ.v (JV.subN (a := 24) rfl rfl (by omega)) rfl ?_
        refine JQ.v (JV.shrU32 rfl rfl (by omega)) rfl ?_
        refine JQ.v (JV.convU8 Tryd.runUnderlying124 Tryd.runUnderlying5 rfl) rfl ?_
        refine JQ.v (JV.idxArr0 rfl rfl Tryd.runUnderlying121 Tryd.sizeOf5 (by omega)) rfl ?_
        refine JQ.s (JO.store1 4 rfl rfl rfl rfl Tryd.sizeOf5 (by simp [Pl.out_len]; omega)) ?_
        rw [setBN, show (UInt8.ofNat (_ / 2 ^ (24 - 8 * (i % 4)))) = Pl.outB (Pl.addS s (Pl.padT s.n)).st i from rfl, Pl.out_set _ _ h41]
        refine JQ.nil ?_
        refine JQ.n_block ?_
        refine JQ.n_then ?_
        refine JQ.region ?_
        refine JQ.v (JV.addN (b := 1) rfl rfl (by omega)) rfl ?_
        refine JQ.v (JV.move rfl) rfl ?_
        refine JQ.nil ?_
        refine JQ.n_then ?_
        exact JQ.nextI (i + 1) (by omega) (by omega) (subk_cons rfl (subk_cons rfl (subk_cons rfl (subk_cons rfl subk_nil)))) (subr_cons rfl (subr_cons rfl (subr_cons rfl subr_nil)))
      · refine JQ.exit ?_
        refine JQ.e_then ?_
        refine JQ.e_then ?_
        refine JQ.e_here ?_
        refine JQ.n_then ?_
        refine JQ.seq ?_
        refine JQ.region ?_
        refine JQ.v (JV.loadV 4 rfl rfl Tryd.isAgg121 Tryd.sizeOf121 (by simp [Pl.out_len]; omega)) rfl ?_
        refine JQ.s (JO.storeV 2 rfl rfl rfl (allB _) Tryd.sizeOf121 (by simp [Pl.out_len]; omega) rfl) ?_
        refine JQ.nil ?_
        refine JQ.n_then ?_
        refine JQ.ret ?_
        rw [show i = 32 from by omega, List.take_of_length_le (by simp [Pl.out_len])]
        refine JQ.doneC 2 Tryd.results80 rfl rfl Tryd.isAgg121 Tryd.sizeOf121 (by simp [Pl.out_len]) ?_
        exact fun w hw => ⟨by simp only [Nat.sub_self, List.replicate_zero, List.append_nil]; rfl, hw.below⟩

theorem hsum_spec (v : Value) (m : List UInt8) (hm : m.length ≤ 4611686018427387000) (w : World) (hG : Gl 2 (Pl.K.map u32) w) (hr : Reads w v 1 m.length (m.map b8)) :
    Calls Tryd.prog 76 #[v] w fun e w' => e = .returned (.agg ((Pl.sha m).map b8).toArray) ∧ Below w.heap.size w w' := by
  
  refine enterA (vs := [_]) Tryd.func76 rfl 8 rfl [(902, .ro (gv 2 64) 1 64 (Pl.K.map u32)), (100, .ro v 1 m.length (m.map b8))] ((MemOk.start1 100 hr).addRo 902 hG (by intro j s hj; rw [lr_cons] at hj; split at hj; (cases hj; rfl); cases hj)) ?_
  refine JQ.seq ?_
  refine JQ.region ?_
  refine JQ.x (JO.alloc 1 (zs := ((List.replicate 32 0).map b8)) Tryd.zeroValue121 rfl) rfl ?_
  intro i0_0
  refine JQ.nil ?_
  refine JQ.n_then ?_
  refine JQ.seq ?_
  refine JQ.any [_, _, _, _, _, _] [fun _ => [], fun _ => [], fun _ => [], fun _ => [], fun _ => [], _] [⟨[], [], [], []⟩, ⟨[], [], [], []⟩, ⟨[100], [], [], [1]⟩, ⟨[902], [], [], [0, 1, 2]⟩, ⟨[902], [], [], [0, 1, 2, 3]⟩, ⟨[], [1], [], [0, 1, 2, 3, 4]⟩] Tryd.mixed rfl (by kernel_rfl) ⟨Ob.v rfl (fun _ _ h => by cases h) (fun _ _ _ => rfl) (fun e L' hL => JV.call Tryd.call78 evs_nil begin_pure),
        Ob.v rfl (fun _ _ h => by cases h) (fun _ _ _ => rfl) (fun e L' hL => JV.move rfl),
        Ob.v rfl (fun _ _ h => by cases h) (fun _ _ _ => rfl) (fun e L' hL => JV.bytesStr 100 (l := m) Tryd.runUnderlying30 Tryd.runUnderlying5 Tryd.runUnderlying9 rfl ((hL 100 (by decide)).trans rfl)),
        Ob.v rfl (fun _ _ h => by cases h) (fun _ _ _ => rfl) (fun e L' hL => JV.callM Tryd.call79 (evs_cons rfl (evs_cons rfl evs_nil)) (fun w hw => add_spec Pl.Z Pl.Z_ok m (by rw [show Pl.Z.n = 0 from rfl]; omega) w (hw.reads (id := 902) ((hL 902 (by decide)).trans rfl)))),
        Ob.v rfl (fun _ _ h => by cases h) (fun _ _ _ => rfl) (fun e L' hL => JV.callM Tryd.call80 (evs_cons rfl evs_nil) (fun w hw => sum_spec (Pl.addS Pl.Z m) (Pl.addS_ok _ _ Pl.Z_ok) (by rw [Pl.addS_n, show Pl.Z.n = 0 from rfl]; omega) w (hw.reads (id := 902) ((hL 902 (by decide)).trans rfl)))),
        Ob.s 1 rfl (fun _ _ h => by cases h) (fun _ _ _ => rfl) (fun e L' hL => JO.storeV 1 rfl ((hL 1 (by decide)).trans rfl) rfl (allB _) Tryd.sizeOf121 (by simp [Pl.sumS, Pl.out_len]) rfl), trivial⟩ (fun ev1 => ?_)
  simp only [endF, endL, putF, List.nil_append, List.cons_append]
  refine JQ.n_then ?_
  refine JQ.ret ?_
  refine JQ.doneC 1 Tryd.results76 rfl rfl Tryd.isAgg121 Tryd.sizeOf121 (by simp [Pl.sumS, Pl.out_len]) ?_
  exact fun w hw => ⟨by rw [Pl.sumS_is (Pl.Is_Z.add m)]; rfl, hw.below⟩
end Go.Fw
end
section
open Go.RowKit
set_option maxRecDepth 100000
set_option linter.unusedVariables false
set_option linter.unusedSimpArgs false
namespace Go.Fw
open Go.Proofs
theorem copy64 (k : List UInt8) (hk : k.length ≤ 64) : ((List.replicate 64 0).map b8).take (0 + 0 * 1) ++ (k.take k.length).map b8 ++ ((List.replicate 64 0).map b8).drop (0 + 0 * 1 + k.length) = (Pl.pad0 k).map b8 := by
  rw [show 0 + 0 * 1 = 0 from rfl, List.take_zero, List.nil_append, List.take_of_length_le (Nat.le_refl _), Nat.zero_add, ← List.map_drop, List.drop_replicate, ← List.map_append]; rfl
theorem setX (l : List UInt8) (i : Nat) (a c : UInt8) : (l.map b8).set i (.int .u8 ((a.toNat ^^^ c.toNat : Nat) : Int)) = (l.set i (a ^^^ c)).map b8 := by
  rw [← UInt8.toNat_xor]; exact setB l i (a ^^^ c)
theorem macpad_spec (b : Nat) (k : List UInt8) (hk : k.length ≤ 64) (c : UInt8) (w : World) (hr : Reads w (gv b 1) 1 1 [str k]) :
    Calls Tryd.prog 77 #[.int .u8 (c.toNat : Int), .pointer (some ⟨b, 0, none⟩)] w fun e w' => e = .returned (str (Pl.padK k c)) ∧ Below w.heap.size w w' := by
  
  refine enterA (vs := [_, _]) Tryd.func77 rfl 21 rfl [(100, .ro (gv b 1) 1 1 [str k])] (MemOk.start1 100 hr) ?_
  refine JQ.seq ?_
  refine JQ.region ?_
  refine JQ.v (JV.assign rfl) rfl ?_
  refine JQ.nil ?_
  refine JQ.n_then ?_
  refine JQ.seq ?_
  refine JQ.region ?_
  refine JQ.x (JO.alloc 1 (zs := ((List.replicate 64 0).map b8)) Tryd.zeroValue123 rfl) rfl ?_
  intro i1_0
  refine JQ.nil ?_
  refine JQ.n_then ?_
  refine JQ.seq ?_
  refine JQ.any [_, _, _] [fun _ => [], fun _ => [], _] [⟨[], [], [], []⟩, ⟨[100], [], [], []⟩, ⟨[], [1], [], [0, 1]⟩] Tryd.mixed rfl (by kernel_rfl) ⟨Ob.v rfl (fun _ _ h => by cases h) (fun _ _ _ => rfl) (fun e L' hL => JV.sliceArr rfl Tryd.runUnderlying123 Tryd.sizeOf5 rfl rfl (by omega) (by omega) (by omega)),
        Ob.v rfl (fun _ _ h => by cases h) (fun _ _ _ => rfl) (fun e L' hL => JV.loadG1 100 rfl ((hL 100 (by decide)).trans rfl) Tryd.isAgg9 (rfl)),
        Ob.u 1 rfl (fun _ _ h => by cases h) (fun _ _ _ => ⟨rfl, rfl⟩) (by decide) (fun e L' hL => JO.copyStr 1 (k := k.length) rfl rfl ((hL 1 (by decide)).trans rfl) Tryd.runUnderlying30 Tryd.sizeOf5 (Nat.min_eq_left hk) (by simp; omega)), trivial⟩ (fun ev2 => ?_)
  simp only [endF, endL, putF, List.nil_append, List.cons_append]
  rw [copy64 k hk]
  refine JQ.n_then ?_
  refine JQ.seq ?_
  refine JQ.seq ?_
  refine JQ.region ?_
  refine JQ.v (JV.move rfl) rfl ?_
  refine JQ.nil ?_
  refine JQ.n_then ?_
  refine JQ.block ?_
  refine JQ.loopI (ι := Nat) (fun i => [(0, .int .u8 (c.toNat : Int)), (4, .pointer (some ⟨i1_0, 0, none⟩)), (9, .int .i64 ((i : Nat) : Int))]) (fun i => [(1, .cells i1_0 ((Pl.xorI (Pl.pad0 k) c i).map b8) 123 (0, 0))]) (fun i => i ≤ 64) (fun i => 64 - i) 0 (by omega) (subk_cons rfl (subk_cons rfl (subk_cons rfl subk_nil))) (subr_cons (by rw [Pl.xorI_0]; rfl) subr_nil) ?_
  intro i hi
  refine JQ.seq ?_
  refine JQ.region ?_
  refine JQ.v (JV.lssN (b := 64) rfl rfl) rfl ?_
  refine JQ.nil ?_
  refine JQ.n_then ?_
  refine JQ.seq ?_
  refine JQ.condP rfl (fun h10 => ?_) (fun h10 => ?_)
  · refine JQ.skip ?_
    refine JQ.n_then ?_
    refine JQ.seq ?_
    refine JQ.block ?_
    refine JQ.seq ?_
    refine JQ.region ?_
    refine JQ.v (JV.move rfl) rfl ?_
    refine JQ.v (JV.assign rfl) rfl ?_
    refine JQ.nil ?_
    refine JQ.n_then ?_
    refine JQ.region ?_
    refine JQ.v (JV.move rfl) rfl ?_
    refine JQ.v (JV.idxArr0 rfl rfl Tryd.runUnderlying123 Tryd.sizeOf5 (by omega)) rfl ?_
    refine JQ.v (JV.load1 1 rfl rfl Tryd.isAgg5 (getB _ _ (by rw [Pl.xorI_len, Pl.pad0_len k hk]; omega))) rfl ?_
    rw [Pl.xorI_get _ _ _ (by rw [Pl.pad0_len k hk]; omega)]
    refine JQ.v (JV.move rfl) rfl ?_
    refine JQ.v (JV.xorU8 rfl rfl (UInt8.toNat_lt _) (UInt8.toNat_lt _)) rfl ?_
    refine JQ.v (JV.idxArr0 rfl rfl Tryd.runUnderlying123 Tryd.sizeOf5 (by omega)) rfl ?_
    refine JQ.s (JO.store1 1 rfl rfl rfl rfl Tryd.sizeOf5 (by simp [Pl.xorI_len, Pl.pad0_len k hk]; omega)) ?_
    rw [setX, Pl.xorI_set _ _ _ (by rw [Pl.pad0_len k hk]; omega)]
    refine JQ.nil ?_
    refine JQ.n_block ?_
    refine JQ.n_then ?_
    refine JQ.region ?_
    refine JQ.v (JV.addN (b := 1) rfl rfl (by omega)) rfl ?_
    refine JQ.v (JV.move rfl) rfl ?_
    refine JQ.nil ?_
    refine JQ.n_then ?_
    exact JQ.nextI (i + 1) (by omega) (by omega) (subk_cons rfl (subk_cons rfl (subk_cons rfl subk_nil))) (subr_cons rfl subr_nil)
  · refine JQ.exit ?_
    refine JQ.e_then ?_
    refine JQ.e_then ?_
    refine JQ.e_here ?_
    refine JQ.n_then ?_
    refine JQ.seq ?_
    rw [show i = 64 from by omega, Pl.xorI_all _ _ _ (by rw [Pl.pad0_len k hk]; omega)]
    refine JQ.region ?_
    refine JQ.v (JV.sliceArr rfl Tryd.runUnderlying123 Tryd.sizeOf5 rfl rfl (by omega) (by omega) (by omega)) rfl ?_
    refine JQ.v (JV.bytesStrA 1 (l := Pl.padK k c) Tryd.runUnderlying30 Tryd.runUnderlying5 Tryd.runUnderlying9 rfl rfl (takeB _ _ (Pl.padK_len k c hk)) (by rw [Pl.padK_len k c hk]) (by decide)) rfl ?_
    refine JQ.v (JV.assign rfl) rfl ?_
    refine JQ.nil ?_
    refine JQ.n_then ?_
    refine JQ.ret ?_
    refine JQ.done1 Tryd.results77 rfl ?_
    exact fun w hw => ⟨rfl, hw.below⟩

theorem mac_spec (k m : List UInt8) (hk : k.length ≤ 1152921504606846976) (hm : m.length ≤ 1152921504606846976) (w : World) (hG : Gl 2 (Pl.K.map u32) w) :
    Calls Tryd.prog 71 #[str k, str m] w fun e w' => e = .returned (str (Pl.mac k m)) ∧ Below w.heap.size w w' := by
  
  refine enterA (vs := [_, _]) Tryd.func71 rfl 35 rfl [(902, .ro (gv 2 64) 1 64 (Pl.K.map u32))] (MemOk.start1 902 hG) ?_
  refine JQ.seq ?_
  refine JQ.region ?_
  refine JQ.x (JO.box 1 rfl rfl) rfl ?_
  intro i0_0
  refine JQ.v (JV.assign rfl) rfl ?_
  refine JQ.nil ?_
  refine JQ.n_then ?_
  refine JQ.seq ?_
  refine JQ.seq ?_
  refine JQ.region ?_
  refine JQ.v (JV.load1 1 rfl rfl Tryd.isAgg9 (rfl)) rfl ?_
  refine JQ.v (JV.lenStr rfl Tryd.runUnderlying9) rfl ?_
  refine JQ.v (JV.gtrN (b := 64) rfl rfl) rfl ?_
  refine JQ.nil ?_
  refine JQ.n_then ?_
  refine JQ.condP rfl (fun h11 => ?_) (fun h11 => ?_)
  · refine JQ.seq ?_
    refine JQ.region ?_
    refine JQ.v (JV.load1 1 rfl rfl Tryd.isAgg9 (rfl)) rfl ?_
    refine JQ.x (JO.strBytes 2  Tryd.runUnderlying9 Tryd.runUnderlying30 Tryd.runUnderlying5 rfl (by omega)) rfl ?_
    intro i2_1
    refine JQ.v (JV.callM Tryd.call76 (evs_cons rfl evs_nil) (fun w hw => hsum_spec _ k (by omega) w (hw.reads (id := 902) rfl) (hw.reads (id := 2) rfl))) rfl ?_
    refine JQ.x (JO.alloc 3 (zs := ((List.replicate 32 0).map b8)) Tryd.zeroValue121 rfl) rfl ?_
    intro i2_3
    refine JQ.s (JO.storeV 3 rfl rfl rfl (allB _) Tryd.sizeOf121 (by simp [Pl.sha_len]) rfl) ?_
    refine JQ.nil ?_
    refine JQ.n_then ?_
    refine JQ.region ?_
    refine JQ.v (JV.sliceArr rfl Tryd.runUnderlying121 Tryd.sizeOf5 rfl rfl (by omega) (by omega) (by omega)) rfl ?_
    refine JQ.v (JV.bytesStrA 3 (l := Pl.sha k) Tryd.runUnderlying30 Tryd.runUnderlying5 Tryd.runUnderlying9 rfl rfl (takeB _ _ (Pl.sha_len k)) (Pl.sha_len k) (by decide)) rfl ?_
    refine JQ.s (JO.store1 1 rfl rfl rfl rfl Tryd.sizeOf9 (Nat.le_of_ble_eq_true rfl)) ?_
    refine JQ.nil ?_
    refine JQ.n_then ?_
    refine JQ.seq ?_
    refine JQ.region ?_
    refine JQ.v (JV.mkFunc evs_nil (evs_cons rfl evs_nil)) rfl ?_
    refine JQ.v (JV.assign rfl) rfl ?_
    refine JQ.nil ?_
    refine JQ.n_then ?_
    refine JQ.seq ?_
    refine JQ.region ?_
    refine JQ.v (JV.call Tryd.call78 evs_nil begin_pure) rfl ?_
    refine JQ.v (JV.move rfl) rfl ?_
    refine JQ.v (JV.callvM rfl Tryd.call77 (evs_cons rfl evs_nil) (fun w hw => macpad_spec _ (Pl.sha k) (by rw [Pl.sha_len]; omega) 54 w (reads_cells (hw.blk (id := 1) rfl) (us := [str (Pl.sha k)]) rfl rfl (by decide)))) rfl ?_
    refine JQ.v (JV.callM Tryd.call79 (evs_cons rfl (evs_cons rfl evs_nil)) (fun w hw => add_spec Pl.Z Pl.Z_ok (Pl.padK (Pl.sha k) 54) (by rw [show Pl.Z.n = 0 from rfl, Pl.padK_len _ _ (by rw [Pl.sha_len]; omega)]; omega) w (hw.reads (id := 902) rfl))) rfl ?_
    refine JQ.v (JV.move rfl) rfl ?_
    refine JQ.v (JV.callM Tryd.call79 (evs_cons rfl (evs_cons rfl evs_nil)) (fun w hw => add_spec (Pl.addS Pl.Z (Pl.padK (Pl.sha k) 54)) (Pl.addS_ok _ _ Pl.Z_ok) m (by rw [Pl.addS_n, show Pl.Z.n = 0 from rfl, Pl.padK_len _ _ (by rw [Pl.sha_len]; omega)]; omega) w (hw.reads (id := 902) rfl))) rfl ?_
    refine JQ.v (JV.callM Tryd.call80 (evs_cons rfl evs_nil) (fun w hw => sum_spec (Pl.addS (Pl.addS Pl.Z (Pl.padK (Pl.sha k) 54)) m) (Pl.addS_ok _ _ (Pl.addS_ok _ _ Pl.Z_ok)) (by rw [Pl.addS_n, Pl.addS_n, show Pl.Z.n = 0 from rfl, Pl.padK_len _ _ (by rw [Pl.sha_len]; omega)]; omega) w (hw.reads (id := 902) rfl))) rfl ?_
    refine JQ.x (JO.alloc 4 (zs := ((List.replicate 32 0).map b8)) Tryd.zeroValue121 rfl) rfl ?_
    intro i5_7
    refine JQ.s (JO.storeV 4 rfl rfl rfl (allB _) Tryd.sizeOf121 (by simp [Pl.sumS, Pl.out_len]) rfl) ?_
    refine JQ.nil ?_
    refine JQ.n_then ?_
    refine JQ.seq ?_
    refine JQ.any [_, _, _, _, _, _, _, _, _, _] [fun _ => [], fun _ => [], fun _ => [], fun _ => [], fun _ => [], fun _ => [], fun _ => [], fun _ => [], _, _] [⟨[], [], [], []⟩, ⟨[], [], [], []⟩, ⟨[1], [], [], [0, 1]⟩, ⟨[902], [], [], [0, 1, 2]⟩, ⟨[], [], [], []⟩, ⟨[4], [], [], [4]⟩, ⟨[902], [], [], [0, 1, 2, 3, 4, 5]⟩, ⟨[902], [], [], [0, 1, 2, 3, 4, 5, 6]⟩, ⟨[], [5], [], []⟩, ⟨[], [5], [8], [0, 1, 2, 3, 4, 5, 6, 7, 8]⟩] Tryd.mixed rfl (by kernel_rfl) ⟨Ob.v rfl (fun _ _ h => by cases h) (fun _ _ _ => rfl) (fun e L' hL => JV.call Tryd.call78 evs_nil begin_pure),
            Ob.v rfl (fun _ _ h => by cases h) (fun _ _ _ => rfl) (fun e L' hL => JV.move rfl),
            Ob.v rfl (fun _ _ h => by cases h) (fun _ _ _ => rfl) (fun e L' hL => JV.callvM rfl Tryd.call77 (evs_cons rfl evs_nil) (fun w hw => macpad_spec _ (Pl.sha k) (by rw [Pl.sha_len]; omega) 92 w (reads_cells (hw.blk (id := 1) ((hL 1 (by decide)).trans rfl)) (us := [str (Pl.sha k)]) rfl rfl (by decide)))),
            Ob.v rfl (fun _ _ h => by cases h) (fun _ _ _ => rfl) (fun e L' hL => JV.callM Tryd.call79 (evs_cons rfl (evs_cons rfl evs_nil)) (fun w hw => add_spec Pl.Z Pl.Z_ok (Pl.padK (Pl.sha k) 92) (by rw [show Pl.Z.n = 0 from rfl, Pl.padK_len _ _ (by rw [Pl.sha_len]; omega)]; omega) w (hw.reads (id := 902) ((hL 902 (by decide)).trans rfl)))),
            Ob.v rfl (fun _ _ h => by cases h) (fun _ _ _ => rfl) (fun e L' hL => JV.sliceArr rfl Tryd.runUnderlying121 Tryd.sizeOf5 rfl rfl (by omega) (by omega) (by omega)),
            Ob.v rfl (fun _ _ h => by cases h) (fun _ _ _ => rfl) (fun e L' hL => JV.bytesStrA 4 (l := (Pl.sumS (Pl.addS (Pl.addS Pl.Z (Pl.padK (Pl.sha k) 54)) m))) Tryd.runUnderlying30 Tryd.runUnderlying5 Tryd.runUnderlying9 rfl ((hL 4 (by decide)).trans rfl) (takeB _ _ (by simp [Pl.sumS, Pl.out_len])) (by simp [Pl.sumS, Pl.out_len]) (by decide)),
            Ob.v rfl (fun _ _ h => by cases h) (fun _ _ _ => rfl) (fun e L' hL => JV.callM Tryd.call79 (evs_cons rfl (evs_cons rfl evs_nil)) (fun w hw => add_spec (Pl.addS Pl.Z (Pl.padK (Pl.sha k) 92)) (Pl.addS_ok _ _ Pl.Z_ok) (Pl.sumS (Pl.addS (Pl.addS Pl.Z (Pl.padK (Pl.sha k) 54)) m)) (by rw [Pl.addS_n, show Pl.Z.n = 0 from rfl, Pl.padK_len _ _ (by rw [Pl.sha_len]; omega), Pl.sumS, Pl.out_len]; omega) w (hw.reads (id := 902) ((hL 902 (by decide)).trans rfl)))),
            Ob.v rfl (fun _ _ h => by cases h) (fun _ _ _ => rfl) (fun e L' hL => JV.callM Tryd.call80 (evs_cons rfl evs_nil) (fun w hw => sum_spec (Pl.addS (Pl.addS Pl.Z (Pl.padK (Pl.sha k) 92)) (Pl.sumS (Pl.addS (Pl.addS Pl.Z (Pl.padK (Pl.sha k) 54)) m))) (Pl.addS_ok _ _ (Pl.addS_ok _ _ Pl.Z_ok)) (by rw [Pl.addS_n, Pl.addS_n, show Pl.Z.n = 0 from rfl, Pl.padK_len _ _ (by rw [Pl.sha_len]; omega), Pl.sumS, Pl.out_len]; omega) w (hw.reads (id := 902) ((hL 902 (by decide)).trans rfl)))),
            Ob.nb 5 rfl (fun _ _ h => by cases h) (fun _ _ _ => ⟨rfl, rfl⟩) (by decide) (fun e L' hL => JO.alloc 5 (zs := ((List.replicate 32 0).map b8)) Tryd.zeroValue121 rfl),
            Ob.s 5 rfl (fun _ _ h => by cases h) (fun e e' he => by simp only [he 8 (by decide)]) (fun e L' hL => JO.storeV 5 rfl ((hL 5 (by decide)).trans rfl) rfl (allB _) Tryd.sizeOf121 (by simp [Pl.sumS, Pl.out_len]) rfl), trivial⟩ (fun ev6 => ?_)
    simp only [endF, endL, putF, List.nil_append, List.cons_append]
    refine JQ.n_then ?_
    refine JQ.seq ?_
    rw [show Pl.sumS (Pl.addS (Pl.addS Pl.Z (Pl.padK (Pl.sha k) 92)) (Pl.sumS (Pl.addS (Pl.addS Pl.Z (Pl.padK (Pl.sha k) 54)) m))) = Pl.mac k m from ?hmac]
    case hmac =>
      rw [Pl.sumS_is ((Pl.Is_Z.add _).add _), Pl.sumS_is ((Pl.Is_Z.add _).add _)]
      simp only [Pl.mac, Pl.key, if_pos h11, List.nil_append]
    refine JQ.region ?_
    refine JQ.v (JV.sliceArr rfl Tryd.runUnderlying121 Tryd.sizeOf5 rfl rfl (by omega) (by omega) (by omega)) rfl ?_
    refine JQ.v (JV.bytesStrA 5 (l := Pl.mac k m) Tryd.runUnderlying30 Tryd.runUnderlying5 Tryd.runUnderlying9 rfl rfl (takeB _ _ (Pl.mac_len k m)) (Pl.mac_len k m) (by decide)) rfl ?_
    refine JQ.v (JV.assign rfl) rfl ?_
    refine JQ.nil ?_
    refine JQ.n_then ?_
    refine JQ.ret ?_
    refine JQ.done1 Tryd.results71 rfl ?_
    exact fun w hw => ⟨rfl, hw.below⟩
  · refine JQ.skip ?_
    refine JQ.n_then ?_
    refine JQ.seq ?_
    refine JQ.region ?_
    refine JQ.v (JV.mkFunc evs_nil (evs_cons rfl evs_nil)) rfl ?_
    refine JQ.v (JV.assign rfl) rfl ?_
    refine JQ.nil ?_
    refine JQ.n_then ?_
    refine JQ.seq ?_
    refine JQ.region ?_
    refine JQ.v (JV.call Tryd.call78 evs_nil begin_pure) rfl ?_
    refine JQ.v (JV.move rfl) rfl ?_
    refine JQ.v (JV.callvM rfl Tryd.call77 (evs_cons rfl evs_nil) (fun w hw => macpad_spec _ k (by omega) 54 w (reads_cells (hw.blk (id := 1) rfl) (us := [str k]) rfl rfl (by decide)))) rfl ?_
    refine JQ.v (JV.callM Tryd.call79 (evs_cons rfl (evs_cons rfl evs_nil)) (fun w hw => add_spec Pl.Z Pl.Z_ok (Pl.padK k 54) (by rw [show Pl.Z.n = 0 from rfl, Pl.padK_len _ _ (by omega)]; omega) w (hw.reads (id := 902) rfl))) rfl ?_
    refine JQ.v (JV.move rfl) rfl ?_
    refine JQ.v (JV.callM Tryd.call79 (evs_cons rfl (evs_cons rfl evs_nil)) (fun w hw => add_spec (Pl.addS Pl.Z (Pl.padK k 54)) (Pl.addS_ok _ _ Pl.Z_ok) m (by rw [Pl.addS_n, show Pl.Z.n = 0 from rfl, Pl.padK_len _ _ (by omega)]; omega) w (hw.reads (id := 902) rfl))) rfl ?_
    refine JQ.v (JV.callM Tryd.call80 (evs_cons rfl evs_nil) (fun w hw => sum_spec (Pl.addS (Pl.addS Pl.Z (Pl.padK k 54)) m) (Pl.addS_ok _ _ (Pl.addS_ok _ _ Pl.Z_ok)) (by rw [Pl.addS_n, Pl.addS_n, show Pl.Z.n = 0 from rfl, Pl.padK_len _ _ (by omega)]; omega) w (hw.reads (id := 902) rfl))) rfl ?_
    refine JQ.x (JO.alloc 2 (zs := ((List.replicate 32 0).map b8)) Tryd.zeroValue121 rfl) rfl ?_
    intro i5_7
    refine JQ.s (JO.storeV 2 rfl rfl rfl (allB _) Tryd.sizeOf121 (by simp [Pl.sumS, Pl.out_len]) rfl) ?_
    refine JQ.nil ?_
    refine JQ.n_then ?_
    refine JQ.seq ?_
    refine JQ.any [_, _, _, _, _, _, _, _, _, _] [fun _ => [], fun _ => [], fun _ => [], fun _ => [], fun _ => [], fun _ => [], fun _ => [], fun _ => [], _, _] [⟨[], [], [], []⟩, ⟨[], [], [], []⟩, ⟨[1], [], [], [0, 1]⟩, ⟨[902], [], [], [0, 1, 2]⟩, ⟨[], [], [], []⟩, ⟨[2], [], [], [4]⟩, ⟨[902], [], [], [0, 1, 2, 3, 4, 5]⟩, ⟨[902], [], [], [0, 1, 2, 3, 4, 5, 6]⟩, ⟨[], [3], [], []⟩, ⟨[], [3], [8], [0, 1, 2, 3, 4, 5, 6, 7, 8]⟩] Tryd.mixed rfl (by kernel_rfl) ⟨Ob.v rfl (fun _ _ h => by cases h) (fun _ _ _ => rfl) (fun e L' hL => JV.call Tryd.call78 evs_nil begin_pure),
            Ob.v rfl (fun _ _ h => by cases h) (fun _ _ _ => rfl) (fun e L' hL => JV.move rfl),
            Ob.v rfl (fun _ _ h => by cases h) (fun _ _ _ => rfl) (fun e L' hL => JV.callvM rfl Tryd.call77 (evs_cons rfl evs_nil) (fun w hw => macpad_spec _ k (by omega) 92 w (reads_cells (hw.blk (id := 1) ((hL 1 (by decide)).trans rfl)) (us := [str k]) rfl rfl (by decide)))),
            Ob.v rfl (fun _ _ h => by cases h) (fun _ _ _ => rfl) (fun e L' hL => JV.callM Tryd.call79 (evs_cons rfl (evs_cons rfl evs_nil)) (fun w hw => add_spec Pl.Z Pl.Z_ok (Pl.padK k 92) (by rw [show Pl.Z.n = 0 from rfl, Pl.padK_len _ _ (by omega)]; omega) w (hw.reads (id := 902) ((hL 902 (by decide)).trans rfl)))),
            Ob.v rfl (fun _ _ h => by cases h) (fun _ _ _ => rfl) (fun e L' hL => JV.sliceArr rfl Tryd.runUnderlying121 Tryd.sizeOf5 rfl rfl (by omega) (by omega) (by omega)),
            Ob.v rfl (fun _ _ h => by cases h) (fun _ _ _ => rfl) (fun e L' hL => JV.bytesStrA 2 (l := (Pl.sumS (Pl.addS (Pl.addS Pl.Z (Pl.padK k 54)) m))) Tryd.runUnderlying30 Tryd.runUnderlying5 Tryd.runUnderlying9 rfl ((hL 2 (by decide)).trans rfl) (takeB _ _ (by simp [Pl.sumS, Pl.out_len])) (by simp [Pl.sumS, Pl.out_len]) (by decide)),
            Ob.v rfl (fun _ _ h => by cases h) (fun _ _ _ => rfl) (fun e L' hL => JV.callM Tryd.call79 (evs_cons rfl (evs_cons rfl evs_nil)) (fun w hw => add_spec (Pl.addS Pl.Z (Pl.padK k 92)) (Pl.addS_ok _ _ Pl.Z_ok) (Pl.sumS (Pl.addS (Pl.addS Pl.Z (Pl.padK k 54)) m)) (by rw [Pl.addS_n, show Pl.Z.n = 0 from rfl, Pl.padK_len _ _ (by omega), Pl.sumS, Pl.out_len]; omega) w (hw.reads (id := 902) ((hL 902 (by decide)).trans rfl)))),
            Ob.v rfl (fun _ _ h => by cases h) (fun _ _ _ => rfl) (fun e L' hL => JV.callM Tryd.call80 (evs_cons rfl evs_nil) (fun w hw => sum_spec (Pl.addS (Pl.addS Pl.Z (Pl.padK k 92)) (Pl.sumS (Pl.addS (Pl.addS Pl.Z (Pl.padK k 54)) m))) (Pl.addS_ok _ _ (Pl.addS_ok _ _ Pl.Z_ok)) (by rw [Pl.addS_n, Pl.addS_n, show Pl.Z.n = 0 from rfl, Pl.padK_len _ _ (by omega), Pl.sumS, Pl.out_len]; omega) w (hw.reads (id := 902) ((hL 902 (by decide)).trans rfl)))),
            Ob.nb 3 rfl (fun _ _ h => by cases h) (fun _ _ _ => ⟨rfl, rfl⟩) (by decide) (fun e L' hL => JO.alloc 3 (zs := ((List.replicate 32 0).map b8)) Tryd.zeroValue121 rfl),
            Ob.s 3 rfl (fun _ _ h => by cases h) (fun e e' he => by simp only [he 8 (by decide)]) (fun e L' hL => JO.storeV 3 rfl ((hL 3 (by decide)).trans rfl) rfl (allB _) Tryd.sizeOf121 (by simp [Pl.sumS, Pl.out_len]) rfl), trivial⟩ (fun ev6 => ?_)
    simp only [endF, endL, putF, List.nil_append, List.cons_append]
    refine JQ.n_then ?_
    refine JQ.seq ?_
    rw [show Pl.sumS (Pl.addS (Pl.addS Pl.Z (Pl.padK k 92)) (Pl.sumS (Pl.addS (Pl.addS Pl.Z (Pl.padK k 54)) m))) = Pl.mac k m from ?hmac]
    case hmac =>
      rw [Pl.sumS_is ((Pl.Is_Z.add _).add _), Pl.sumS_is ((Pl.Is_Z.add _).add _)]
      simp only [Pl.mac, Pl.key, if_neg h11, List.nil_append]
    refine JQ.region ?_
    refine JQ.v (JV.sliceArr rfl Tryd.runUnderlying121 Tryd.sizeOf5 rfl rfl (by omega) (by omega) (by omega)) rfl ?_
    refine JQ.v (JV.bytesStrA 3 (l := Pl.mac k m) Tryd.runUnderlying30 Tryd.runUnderlying5 Tryd.runUnderlying9 rfl rfl (takeB _ _ (Pl.mac_len k m)) (Pl.mac_len k m) (by decide)) rfl ?_
    refine JQ.v (JV.assign rfl) rfl ?_
    refine JQ.nil ?_
    refine JQ.n_then ?_
    refine JQ.ret ?_
    refine JQ.done1 Tryd.results71 rfl ?_
    exact fun w hw => ⟨rfl, hw.below⟩
end Go.Fw
end
section
open Go.RowKit
set_option maxRecDepth 100000
set_option linter.unusedVariables false
set_option linter.unusedSimpArgs false
namespace Go.Fw
open Go.Proofs
theorem int_spec (n : Nat) (hn : n ≤ 4611686018427387904) (w : World) :
    Calls Tryd.prog 75 #[.int .i64 ((n : Nat) : Int)] w fun e w' => ∃ v, e = .returned v ∧ w'.ownsRow w.heap.size 5 1 v (Pl.enc n).length ((Pl.enc n).map b8) ∧ Below w.heap.size w w' := by
  
  refine enterA (vs := [_]) Tryd.func75 rfl 47 rfl [] (MemOk.start w) ?_
  refine JQ.seq ?_
  refine JQ.region ?_
  refine JQ.v (JV.assign rfl) rfl ?_
  refine JQ.nil ?_
  refine JQ.n_then ?_
  refine JQ.scope ?_
  refine JQ.seq ?_
  refine JQ.region ?_
  refine JQ.v (JV.move rfl) rfl ?_
  refine JQ.v (JV.convK Tryd.runUnderlying3 Tryd.runUnderlying126 rfl ((wrap_u64 (by omega)))) rfl ?_
  refine JQ.v (JV.assign rfl) rfl ?_
  refine JQ.v (JV.assign rfl) rfl ?_
  refine JQ.nil ?_
  refine JQ.n_then ?_
  refine JQ.seq ?_
  refine JQ.seq ?_
  refine JQ.region ?_
  refine JQ.v (JV.move rfl) rfl ?_
  refine JQ.v (JV.lssN (b := 0) rfl rfl) rfl ?_
  refine JQ.nil ?_
  refine JQ.n_then ?_
  refine JQ.condP rfl (fun h11 => ?_) (fun h11 => ?_)
  · exact absurd h11 (by omega)
  · refine JQ.skip ?_
    refine JQ.n_then ?_
    refine JQ.seq ?_
    refine JQ.region ?_
    refine JQ.v (JV.assign rfl) rfl ?_
    refine JQ.nil ?_
    refine JQ.n_then ?_
    refine JQ.seq ?_
    refine JQ.label ?_
    refine JQ.n_then ?_
    refine JQ.seq ?_
    refine JQ.block ?_
    refine JQ.loopI (ι := Nat) (fun i => [(3, .int .u64 ((n : Nat) : Int)), (4, .int .u8 ((0 : Nat) : Int)), (5, .int .i64 ((i : Nat) : Int))]) (fun i => []) (fun i => i ≤ 8 ∧ Pl.nbF n i = Pl.nb n) (fun i => i) 8 ⟨Nat.le_refl _, rfl⟩ (subk_cons rfl (subk_cons rfl (subk_cons rfl subk_nil))) subr_nil ?_
    intro i hi
    have h8 := hi.1
    refine JQ.seq ?_
    refine JQ.seq ?_
    refine JQ.region ?_
    refine JQ.v (JV.move rfl) rfl ?_
    refine JQ.v (JV.gtrN (b := 0) rfl rfl) rfl ?_
    refine JQ.nil ?_
    refine JQ.n_then ?_
    refine JQ.condP rfl (fun h15 => ?_) (fun h15 => ?_)
    · refine JQ.skip ?_
      refine JQ.n_then ?_
      refine JQ.block ?_
      refine JQ.seq ?_
      refine JQ.seq ?_
      refine JQ.region ?_
      refine JQ.v (JV.move rfl) rfl ?_
      refine JQ.v (JV.move rfl) rfl ?_
      refine JQ.v (JV.subN (b := 1) rfl rfl (by omega)) rfl ?_
      refine JQ.v (JV.mulN (a := 8) rfl rfl (by omega)) rfl ?_
      refine JQ.v (JV.shrU64 rfl rfl (by omega)) rfl ?_
      refine JQ.v (JV.gtrN (b := 0) rfl rfl) rfl ?_
      refine JQ.nil ?_
      refine JQ.n_then ?_
      refine JQ.condP rfl (fun h21 => ?_) (fun h21 => ?_)
      · refine JQ.exit ?_
        refine JQ.e_then ?_
        refine JQ.e_block rfl ?_
        refine JQ.e_then ?_
        refine JQ.e_here ?_
        refine JQ.n_then ?_
        refine JQ.seq ?_
        have hb : i = Pl.nb n := by first | exact Pl.nbF_hit h15 h21 hi.2 | exact Pl.nbF_end h15 hi.2
        subst hb
        have h8 := Pl.nb_le n
        refine JQ.region ?_
        refine JQ.v (JV.move rfl) rfl ?_
        refine JQ.v (JV.addN (a := 128) rfl rfl (by omega)) rfl ?_
        refine JQ.v (JV.convU8 Tryd.runUnderlying3 Tryd.runUnderlying5 rfl) rfl ?_
        refine JQ.v (JV.move rfl) rfl ?_
        refine JQ.v (JV.xorU8 rfl rfl (Nat.mod_lt _ (by decide)) (by decide)) rfl ?_
        rw [Nat.xor_zero]
        refine JQ.x (JO.buildSlice 1 (us := [.int .u8 (((128 + Pl.nb n) % 256 : Nat) : Int)]) (e := 5) (evp_cons rfl evp_nil) (fun w => by kernel_rfl)) rfl ?_
        intro i8_5
        refine JQ.rowOf (n := 1) (esz := 1) 1 rfl rfl (by omega) ?_
        refine JQ.v (JV.assign rfl) rfl ?_
        refine JQ.nil ?_
        refine JQ.n_then ?_
        refine JQ.seq ?_
        refine JQ.seq ?_
        refine JQ.region ?_
        refine JQ.v (JV.move rfl) rfl ?_
        refine JQ.v (JV.subI rfl rfl (by omega)) rfl ?_
        refine JQ.v (JV.assign rfl) rfl ?_
        refine JQ.nil ?_
        refine JQ.n_then ?_
        refine JQ.block ?_
        refine JQ.loopI (ι := Nat × List UInt8 × Value) (fun i => [(3, .int .u64 ((n : Nat) : Int)), (4, .int .u8 ((0 : Nat) : Int)), (6, i.2.2), (7, .int .i64 ((i.1 : Int) - 1))]) (fun i => [(1, .row i.2.2 5 1 i.2.1.length (i.2.1.map b8))]) (fun i => i.1 ≤ 8 ∧ i.2.1 ++ Pl.be n i.1 = Pl.enc n) (fun i => i.1) (Pl.nb n, [UInt8.ofNat (128 + Pl.nb n)], _) ⟨h8, rfl⟩ (subk_cons rfl (subk_cons rfl (subk_cons rfl (subk_cons rfl subk_nil)))) (subr_cons (by simp [b8]; rfl) subr_nil) ?_
        intro i hi
        have h8 := hi.1
        have hlen := congrArg List.length hi.2
        rw [List.length_append, Pl.be_len, Pl.enc_len] at hlen
        have hnb := Pl.nb_le n
        refine JQ.seq ?_
        refine JQ.seq ?_
        refine JQ.region ?_
        refine JQ.v (JV.move rfl) rfl ?_
        refine JQ.v (JV.geq rfl rfl) rfl ?_
        refine JQ.nil ?_
        refine JQ.n_then ?_
        refine JQ.condP rfl (fun h33 => ?_) (fun h33 => ?_)
        · refine JQ.skip ?_
          refine JQ.n_then ?_
          refine JQ.seq ?_
          refine JQ.block ?_
          have hj : 0 < i.1 := by omega
          rw [show ((i.1 : Int) - 1) = ((i.1 - 1 : Nat) : Int) from by omega]
          refine JQ.region ?_
          refine JQ.v (JV.move rfl) rfl ?_
          refine JQ.v (JV.move rfl) rfl ?_
          refine JQ.v (JV.move rfl) rfl ?_
          refine JQ.v (JV.mulN (a := 8) rfl rfl (by omega)) rfl ?_
          refine JQ.v (JV.shrU64 rfl rfl (by omega)) rfl ?_
          refine JQ.v (JV.convU8 Tryd.runUnderlying126 Tryd.runUnderlying5 rfl) rfl ?_
          refine JQ.v (JV.move rfl) rfl ?_
          refine JQ.v (JV.xorU8 rfl rfl (Nat.mod_lt _ (by decide)) (by decide)) rfl ?_
          rw [Nat.xor_zero]
          refine JQ.x (JO.buildSlice 2 (us := [.int .u8 ((n / 2 ^ (8 * (i.1 - 1)) % 256 : Nat) : Int)]) (e := 5) (evp_cons rfl evp_nil) (fun w => by kernel_rfl)) rfl ?_
          intro i12_8
          refine JQ.x (JO.append 1 elem5 rfl rfl rfl (fun w hw => Src.ro Tryd.underlying30 (reads_cells (hw.blk (id := 2) rfl) (show (_ : List Value) = ([.int .u8 ((n / 2 ^ (8 * (i.1 - 1)) % 256 : Nat) : Int)] : List Value) from rfl) rfl (by decide))) rfl (by omega) (by omega)) rfl ?_
          intro i12_9
          rw [snocN]
          refine JQ.v (JV.assign rfl) rfl ?_
          refine JQ.nil ?_
          refine JQ.n_block ?_
          refine JQ.n_then ?_
          refine JQ.region ?_
          refine JQ.v (JV.move rfl) rfl ?_
          refine JQ.v (JV.subI rfl rfl (by omega)) rfl ?_
          refine JQ.v (JV.assign rfl) rfl ?_
          refine JQ.nil ?_
          refine JQ.n_then ?_
          exact JQ.nextI (i.1 - 1, i.2.1 ++ [UInt8.ofNat (n / 2 ^ (8 * (i.1 - 1)))], i12_9) (by exact ⟨by show i.1 - 1 ≤ 8; omega, by rw [← hi.2, Pl.be_step hj, List.append_assoc]; rfl⟩) (by show i.1 - 1 < i.1; omega) (subk_cons rfl (subk_cons rfl (subk_cons rfl (subk_cons rfl subk_nil)))) (subr_cons (by simp; rfl) subr_nil)
        · refine JQ.exit ?_
          refine JQ.e_then ?_
          refine JQ.e_then ?_
          refine JQ.e_here ?_
          refine JQ.n_then ?_
          refine JQ.seq ?_
          refine JQ.region ?_
          refine JQ.v (JV.move rfl) rfl ?_
          refine JQ.v (JV.assign rfl) rfl ?_
          refine JQ.nil ?_
          refine JQ.n_then ?_
          refine JQ.ret ?_
          refine JQ.r_scope ?_
          have he : i.2.1 = Pl.enc n := by rw [← hi.2, show i.1 = 0 from by omega]; simp [Pl.be]
          refine JQ.done1 Tryd.results75 rfl ?_
          exact fun w hw => ⟨_, rfl, by rw [← he]; exact hw.row (id := 1) rfl, hw.below⟩
      · refine JQ.skip ?_
        refine JQ.n_then ?_
        refine JQ.region ?_
        refine JQ.v (JV.move rfl) rfl ?_
        refine JQ.v (JV.subN (b := 1) rfl rfl (by omega)) rfl ?_
        refine JQ.v (JV.assign rfl) rfl ?_
        refine JQ.nil ?_
        refine JQ.n_block ?_
        refine JQ.n_then ?_
        exact JQ.nextI (i - 1) (by exact ⟨by omega, (Pl.nbF_step h15 h21).trans hi.2⟩) (by omega) (subk_cons rfl (subk_cons rfl (subk_cons rfl subk_nil))) subr_nil
    · refine JQ.exit ?_
      refine JQ.e_then ?_
      refine JQ.e_then ?_
      refine JQ.e_here ?_
      refine JQ.n_then ?_
      refine JQ.seq ?_
      have hb : i = Pl.nb n := by first | exact Pl.nbF_hit h15 h21 hi.2 | exact Pl.nbF_end h15 hi.2
      subst hb
      have h8 := Pl.nb_le n
      refine JQ.region ?_
      refine JQ.v (JV.move rfl) rfl ?_
      refine JQ.v (JV.addN (a := 128) rfl rfl (by omega)) rfl ?_
      refine JQ.v (JV.convU8 Tryd.runUnderlying3 Tryd.runUnderlying5 rfl) rfl ?_
      refine JQ.v (JV.move rfl) rfl ?_
      refine JQ.v (JV.xorU8 rfl rfl (Nat.mod_lt _ (by decide)) (by decide)) rfl ?_
      rw [Nat.xor_zero]
      refine JQ.x (JO.buildSlice 1 (us := [.int .u8 (((128 + Pl.nb n) % 256 : Nat) : Int)]) (e := 5) (evp_cons rfl evp_nil) (fun w => by kernel_rfl)) rfl ?_
      intro i8_5
      refine JQ.rowOf (n := 1) (esz := 1) 1 rfl rfl (by omega) ?_
      refine JQ.v (JV.assign rfl) rfl ?_
      refine JQ.nil ?_
      refine JQ.n_then ?_
      refine JQ.seq ?_
      refine JQ.seq ?_
      refine JQ.region ?_
      refine JQ.v (JV.move rfl) rfl ?_
      refine JQ.v (JV.subI rfl rfl (by omega)) rfl ?_
      refine JQ.v (JV.assign rfl) rfl ?_
      refine JQ.nil ?_
      refine JQ.n_then ?_
      refine JQ.block ?_
      refine JQ.loopI (ι := Nat × List UInt8 × Value) (fun i => [(3, .int .u64 ((n : Nat) : Int)), (4, .int .u8 ((0 : Nat) : Int)), (6, i.2.2), (7, .int .i64 ((i.1 : Int) - 1))]) (fun i => [(1, .row i.2.2 5 1 i.2.1.length (i.2.1.map b8))]) (fun i => i.1 ≤ 8 ∧ i.2.1 ++ Pl.be n i.1 = Pl.enc n) (fun i => i.1) (Pl.nb n, [UInt8.ofNat (128 + Pl.nb n)], _) ⟨h8, rfl⟩ (subk_cons rfl (subk_cons rfl (subk_cons rfl (subk_cons rfl subk_nil)))) (subr_cons (by simp [b8]; rfl) subr_nil) ?_
      intro i hi
      have h8 := hi.1
      have hlen := congrArg List.length hi.2
      rw [List.length_append, Pl.be_len, Pl.enc_len] at hlen
      have hnb := Pl.nb_le n
      refine JQ.seq ?_
      refine JQ.seq ?_
      refine JQ.region ?_
      refine JQ.v (JV.move rfl) rfl ?_
      refine JQ.v (JV.geq rfl rfl) rfl ?_
      refine JQ.nil ?_
      refine JQ.n_then ?_
      refine JQ.condP rfl (fun h33 => ?_) (fun h33 => ?_)
      · refine JQ.skip ?_
        refine JQ.n_then ?_
        refine JQ.seq ?_
        refine JQ.block ?_
        have hj : 0 < i.1 := by omega
        rw [show ((i.1 : Int) - 1) = ((i.1 - 1 : Nat) : Int) from by omega]
        refine JQ.region ?_
        refine JQ.v (JV.move rfl) rfl ?_
        refine JQ.v (JV.move rfl) rfl ?_
        refine JQ.v (JV.move rfl) rfl ?_
        refine JQ.v (JV.mulN (a := 8) rfl rfl (by omega)) rfl ?_
        refine JQ.v (JV.shrU64 rfl rfl (by omega)) rfl ?_
        refine JQ.v (JV.convU8 Tryd.runUnderlying126 Tryd.runUnderlying5 rfl) rfl ?_
        refine JQ.v (JV.move rfl) rfl ?_
        refine JQ.v (JV.xorU8 rfl rfl (Nat.mod_lt _ (by decide)) (by decide)) rfl ?_
        rw [Nat.xor_zero]
        refine JQ.x (JO.buildSlice 2 (us := [.int .u8 ((n / 2 ^ (8 * (i.1 - 1)) % 256 : Nat) : Int)]) (e := 5) (evp_cons rfl evp_nil) (fun w => by kernel_rfl)) rfl ?_
        intro i12_8
        refine JQ.x (JO.append 1 elem5 rfl rfl rfl (fun w hw => Src.ro Tryd.underlying30 (reads_cells (hw.blk (id := 2) rfl) (show (_ : List Value) = ([.int .u8 ((n / 2 ^ (8 * (i.1 - 1)) % 256 : Nat) : Int)] : List Value) from rfl) rfl (by decide))) rfl (by omega) (by omega)) rfl ?_
        intro i12_9
        rw [snocN]
        refine JQ.v (JV.assign rfl) rfl ?_
        refine JQ.nil ?_
        refine JQ.n_block ?_
        refine JQ.n_then ?_
        refine JQ.region ?_
        refine JQ.v (JV.move rfl) rfl ?_
        refine JQ.v (JV.subI rfl rfl (by omega)) rfl ?_
        refine JQ.v (JV.assign rfl) rfl ?_
        refine JQ.nil ?_
        refine JQ.n_then ?_
        exact JQ.nextI (i.1 - 1, i.2.1 ++ [UInt8.ofNat (n / 2 ^ (8 * (i.1 - 1)))], i12_9) (by exact ⟨by show i.1 - 1 ≤ 8; omega, by rw [← hi.2, Pl.be_step hj, List.append_assoc]; rfl⟩) (by show i.1 - 1 < i.1; omega) (subk_cons rfl (subk_cons rfl (subk_cons rfl (subk_cons rfl subk_nil)))) (subr_cons (by simp; rfl) subr_nil)
      · refine JQ.exit ?_
        refine JQ.e_then ?_
        refine JQ.e_then ?_
        refine JQ.e_here ?_
        refine JQ.n_then ?_
        refine JQ.seq ?_
        refine JQ.region ?_
        refine JQ.v (JV.move rfl) rfl ?_
        refine JQ.v (JV.assign rfl) rfl ?_
        refine JQ.nil ?_
        refine JQ.n_then ?_
        refine JQ.ret ?_
        refine JQ.r_scope ?_
        have he : i.2.1 = Pl.enc n := by rw [← hi.2, show i.1 = 0 from by omega]; simp [Pl.be]
        refine JQ.done1 Tryd.results75 rfl ?_
        exact fun w hw => ⟨_, rfl, by rw [← he]; exact hw.row (id := 1) rfl, hw.below⟩

theorem bytes_spec (m : List UInt8) (hm : m.length ≤ 1099511627776) (w : World) :
    Calls Tryd.prog 70 #[str m] w fun e w' => ∃ v, e = .returned v ∧ w'.ownsRow w.heap.size 5 1 v (Pl.encB m).length ((Pl.encB m).map b8) ∧ Below w.heap.size w w' := by
  
  refine enterA (vs := [_]) Tryd.func70 rfl 8 rfl [] (MemOk.start w) ?_
  refine JQ.seq ?_
  refine JQ.region ?_
  refine JQ.v (JV.assign rfl) rfl ?_
  refine JQ.nil ?_
  refine JQ.n_then ?_
  refine JQ.seq ?_
  refine JQ.region ?_
  refine JQ.v (JV.move rfl) rfl ?_
  refine JQ.v (JV.lenStr rfl Tryd.runUnderlying9) rfl ?_
  refine JQ.x (JO.callRow 1 Tryd.call75 (evs_cons rfl evs_nil) (fun w hw => int_spec m.length (by omega) w)) rfl ?_
  intro i1_2
  refine JQ.v (JV.move rfl) rfl ?_
  refine JQ.x (JO.append 1 elem5 rfl rfl rfl (fun w hw => Src.str Tryd.underlying9) (allB _) (by have := Pl.enc_len m.length; have := Pl.nb_le m.length; omega) (by have := Pl.enc_len m.length; have := Pl.nb_le m.length; omega)) rfl ?_
  intro i1_4
  refine JQ.v (JV.assign rfl) rfl ?_
  refine JQ.nil ?_
  refine JQ.n_then ?_
  refine JQ.ret ?_
  refine JQ.done1 Tryd.results70 rfl ?_
  exact fun w hw => ⟨_, rfl, by have h := hw.row (id := 1) rfl; rwa [← List.map_append, ← List.length_append] at h, hw.below⟩
end Go.Fw
end
