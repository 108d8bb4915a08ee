/- Each law of the seat returns true, walked; the condition is that the tables read as they are laid. -/
import Derived.Test.YtipngdiadfplhaaDoorWkb
import Derived.Test.YtipngdiadfplhaaDoorFwb
import Derived.Test.YtipngdiadfplhaaDoorPla
import Derived.Test.YtipngdiadfplhaaDoorProg
section
open Go.RowKit
set_option maxRecDepth 100000
set_option linter.unusedVariables false
set_option linter.unusedSimpArgs false
namespace Go.Fw
open Go.Proofs
theorem ro_nil : ∀ j s, lr [] j = some s → s.wr = false := fun _ _ h => by cases h
theorem ro_cons {L : ML} {i : Nat} {v : Value} {sz n : Nat} {xs : List Value} (h : ∀ j s, lr L j = some s → s.wr = false) : ∀ j s, lr ((i, .ro v sz n xs) :: L) j = some s → s.wr = false := by
  intro j s hj
  rw [lr_cons] at hj
  split at hj
  · cases hj; rfl
  · exact h j s hj
theorem wrapMod (d : Int) (c : UInt8) (hd : IntKind.u8.wrap d = (c.toNat : Int)) : IntKind.u8.wrap (d % 256) = (c.toNat : Int) := by
  rw [← hd]; simp [IntKind.wrap, IntKind.bits, IntKind.signed]
theorem wrapc (c : UInt8) : IntKind.u8.wrap (c.toNat : Int) = (c.toNat : Int) := by
  have := c.toNat_lt
  exact wrap_u8 (by omega)
attribute [local irreducible] Pl.sha Pl.mac Pl.ofH Pl.hex Pl.sumS Pl.addS Pl.full Pl.foldB Pl.padded Pl.addM
theorem law_sum (v : Value) (m : List UInt8) (w : World) (hG : Gl 1 (Pl.K.map u32) w) (hR : Gl 0 (Pl.K.map u32) w) (hr : Reads w v 1 m.length (m.map b8)) :
    Calls Tryd.prog 3 #[v] w fun e w' => e = .returned (.bool true) ∧ Below w.heap.size w w' := by
  
  refine enterA (vs := [_]) Tryd.func3 rfl 29 rfl [(901, .ro (gv 1 64) 1 64 (Pl.K.map u32)), (900, .ro (gv 0 64) 1 64 (Pl.K.map u32)), (100, .ro v 1 m.length (m.map b8))] (((MemOk.start1 100 hr).addRo 900 hR (ro_cons ro_nil)).addRo 901 hG (ro_cons (ro_cons ro_nil))) ?_
  refine JQ.seq ?_
  refine JQ.region ?_
  refine JQ.v (JV.assign rfl) rfl ?_
  refine JQ.nil ?_
  refine JQ.n_then ?_
  refine JQ.seq ?_
  refine JQ.region ?_
  refine JQ.v (JV.callM Tryd.call10 evs_nil (fun w hw => sanity_spec w (hw.reads (id := 901) rfl))) rfl ?_
  refine JQ.v (JV.assign rfl) rfl ?_
  refine JQ.nil ?_
  refine JQ.n_then ?_
  refine JQ.seq ?_
  refine JQ.seq ?_
  refine JQ.region ?_
  refine JQ.v (JV.move rfl) rfl ?_
  refine JQ.v (JV.lenRo 100 rfl rfl Tryd.runUnderlying22) rfl ?_
  refine JQ.v (JV.gtrN (b := 1000) rfl rfl) rfl ?_
  refine JQ.nil ?_
  refine JQ.n_then ?_
  refine JQ.condP rfl (fun h9 => ?_) (fun h9 => ?_)
  · refine JQ.seq ?_
    refine JQ.region ?_
    refine JQ.v (JV.move rfl) rfl ?_
    refine JQ.v (JV.assign rfl) rfl ?_
    refine JQ.nil ?_
    refine JQ.n_then ?_
    refine JQ.ret ?_
    refine JQ.r_then ?_
    refine JQ.done1 Tryd.results3 rfl ?_
    exact fun w hw => ⟨rfl, hw.below⟩
  · refine JQ.skip ?_
    refine JQ.n_then ?_
    refine JQ.seq ?_
    refine JQ.region ?_
    refine JQ.v (JV.move rfl) rfl ?_
    refine JQ.v (JV.bytesStr 100 (l := m) Tryd.runUnderlying22 Tryd.runUnderlying5 Tryd.runUnderlying9 rfl rfl) rfl ?_
    refine JQ.v (JV.assign rfl) rfl ?_
    refine JQ.nil ?_
    refine JQ.n_then ?_
    refine JQ.seq ?_
    refine JQ.region ?_
    refine JQ.v (JV.move rfl) rfl ?_
    refine JQ.v (JV.callM Tryd.call11 (evs_cons rfl evs_nil) (fun w hw => hsum_spec _ m (by omega) w (hw.reads (id := 901) rfl) (hw.reads (id := 100) rfl))) rfl ?_
    refine JQ.x (JO.alloc 1 (zs := ((List.replicate 32 0).map b8)) Tryd.zeroValue24 rfl) rfl ?_
    intro i5_2
    refine JQ.s (JO.storeV 1 rfl rfl rfl (us := (Pl.sha m).map b8) (allB _) Tryd.sizeOf24 (by simp [Pl.sha_len]) rfl) ?_
    refine JQ.nil ?_
    refine JQ.n_then ?_
    refine JQ.seq ?_
    refine JQ.any [_, _, _, _, _, _, _, _, _, _, _, _, _, _, _] [fun _ => [], fun _ => [], fun _ => [], fun _ => [], _, fun _ => [], fun _ => [], fun _ => [], fun _ => [], fun _ => [], fun _ => [], fun _ => [], fun _ => [], fun _ => [], fun _ => []] [⟨[], [], [], []⟩, ⟨[], [], [], [0]⟩, ⟨[1], [], [], [0, 1]⟩, ⟨[], [], [], [0, 1]⟩, ⟨[], [2], [], [0, 1, 3]⟩, ⟨[2, 900], [], [4], [0, 1, 3, 4]⟩, ⟨[], [], [4], [0, 1, 2, 3, 4, 5]⟩, ⟨[], [], [4], [0, 1, 2, 3, 4, 5, 6]⟩, ⟨[], [], [4], [0, 1, 2, 3, 4, 5, 6, 7]⟩, ⟨[], [], [], [0, 1, 2, 3, 4, 5, 6, 7, 8]⟩, ⟨[100], [], [], [0, 1, 2, 3, 4, 5, 6, 7, 8, 9]⟩, ⟨[], [], [], [0, 1, 2, 3, 4, 5, 6, 7, 8]⟩, ⟨[], [], [], [0, 1, 2, 3, 4, 5, 6, 7, 8, 9, 10, 11]⟩, ⟨[], [], [4], [0, 1, 2, 3, 4, 5, 6, 7, 8, 9, 10, 11, 12]⟩, ⟨[], [], [4], [0, 1, 2, 3, 4, 5, 6, 7, 8, 9, 10, 11, 12, 13]⟩] Tryd.mixed rfl (by kernel_rfl) ⟨Ob.v rfl (fun _ _ h => by cases h) (fun _ _ _ => rfl) (fun e L' hL => JV.move rfl),
            Ob.v rfl (fun _ _ h => by cases h) (fun _ _ _ => rfl) (fun e L' hL => JV.move rfl),
            Ob.vg rfl rfl (fun _ => rfl) (fun _ _ h => by cases h) (fun _ _ _ => rfl) (fun e L' hL => JV.loadV 1 rfl ((hL 1 (by decide)).trans rfl) Tryd.isAgg24 Tryd.sizeOf24 (by simp [Pl.sha_len])),
            Ob.vg rfl rfl (fun _ => rfl) (fun _ _ h => by cases h) (fun _ _ _ => rfl) (fun e L' hL => JV.move rfl),
            Ob.bcg 2 rfl rfl (fun _ => rfl) (fun _ _ h => by cases h) (fun _ _ _ => ⟨rfl, rfl⟩) (by decide) (fun e L' hL => JO.strBytes 2 (l := m) Tryd.runUnderlying9 Tryd.runUnderlying22 Tryd.runUnderlying5 rfl (by omega)),
            Ob.vg rfl rfl (fun _ => rfl) (fun _ _ h => by cases h) (fun e e' he => by simp only [he 4 (by decide)]) (fun e L' hL => JV.callM Tryd.call12 (evs_cons rfl evs_nil) (fun w hw => rsum_spec _ m (by omega) w (hw.reads (id := 900) ((hL 900 (by decide)).trans rfl)) (hw.reads (id := 2) ((hL 2 (by decide)).trans rfl)))),
            Ob.vg rfl rfl (fun _ => rfl) (fun _ _ h => by cases h) (fun e e' he => by simp only [he 4 (by decide)]) (fun e L' hL => JV.tt (JV.eqlBytes (xs := Pl.sha m) (ys := Pl.sha m) rfl rfl Tryd.runUnderlying24 Tryd.underlying5 Tryd.sizeOf5 Tryd.isAgg5 Tryd.eqGuardType24 (Pl.sha_len _) (Pl.sha_len _)) (rfl)),
            Ob.v rfl (fun _ _ h => by cases h) (fun e e' he => by simp only [he 4 (by decide)]) (fun e L' hL => JV.pickT rfl rfl),
            Ob.v rfl (fun _ _ h => by cases h) (fun e e' he => by simp only [he 4 (by decide)]) (fun e L' hL => JV.move rfl),
            Ob.vg rfl rfl (fun _ => rfl) (fun _ _ h => by cases h) (fun _ _ _ => rfl) (fun e L' hL => JV.move rfl),
            Ob.vg rfl rfl (fun _ => rfl) (fun _ _ h => by cases h) (fun _ _ _ => rfl) (fun e L' hL => JV.bytesStr 100 (l := m) Tryd.runUnderlying22 Tryd.runUnderlying5 Tryd.runUnderlying9 rfl ((hL 100 (by decide)).trans rfl)),
            Ob.vg rfl rfl (fun _ => rfl) (fun _ _ h => by cases h) (fun _ _ _ => rfl) (fun e L' hL => JV.move rfl),
            Ob.vg rfl rfl (fun _ => rfl) (fun _ _ h => by cases h) (fun _ _ _ => rfl) (fun e L' hL => JV.tt (JV.eqlS (l := m) (l' := m) rfl rfl) (rfl)),
            Ob.v rfl (fun _ _ h => by cases h) (fun e e' he => by simp only [he 4 (by decide)]) (fun e L' hL => JV.pickT rfl rfl),
            Ob.v rfl (fun _ _ h => by cases h) (fun e e' he => by simp only [he 4 (by decide)]) (fun e L' hL => JV.assign rfl), trivial⟩ (fun ev6 => ?_)
    simp only [endF, endL, putF, List.nil_append, List.cons_append]
    refine JQ.n_then ?_
    refine JQ.ret ?_
    refine JQ.done1 Tryd.results3 rfl ?_
    exact fun w hw => ⟨rfl, hw.below⟩

theorem law_mac (k m : List UInt8) (w : World) (hG : Gl 1 (Pl.K.map u32) w) (hR : Gl 0 (Pl.K.map u32) w) :
    Calls Tryd.prog 5 #[str k, str m] w fun e w' => e = .returned (.bool true) ∧ Below w.heap.size w w' := by
  
  refine enterA (vs := [_, _]) Tryd.func5 rfl 26 rfl [(901, .ro (gv 1 64) 1 64 (Pl.K.map u32)), (900, .ro (gv 0 64) 1 64 (Pl.K.map u32))] ((MemOk.start1 900 hR).addRo 901 hG (ro_cons ro_nil)) ?_
  refine JQ.seq ?_
  refine JQ.region ?_
  refine JQ.v (JV.assign rfl) rfl ?_
  refine JQ.nil ?_
  refine JQ.n_then ?_
  refine JQ.seq ?_
  refine JQ.region ?_
  refine JQ.v (JV.callM Tryd.call10 evs_nil (fun w hw => sanity_spec w (hw.reads (id := 901) rfl))) rfl ?_
  refine JQ.v (JV.assign rfl) rfl ?_
  refine JQ.nil ?_
  refine JQ.n_then ?_
  refine JQ.seq ?_
  refine JQ.seq ?_
  refine JQ.region ?_
  refine JQ.v (JV.move rfl) rfl ?_
  refine JQ.v (JV.lenStr rfl Tryd.runUnderlying9) rfl ?_
  by_cases hs2_2 : 400 < k.length
  · refine JQ.v (JV.tt (JV.gtrN (b := 400) rfl rfl) hs2_2) rfl ?_
    refine JQ.v (JV.move rfl) rfl ?_
    refine JQ.g0 rfl rfl rfl rfl ?_
    refine JQ.g0 rfl rfl rfl rfl ?_
    refine JQ.g0 rfl rfl rfl rfl ?_
    refine JQ.v (JV.pickT rfl rfl) rfl ?_
    refine JQ.nil ?_
    refine JQ.n_then ?_
    refine JQ.condT rfl ?_
    refine JQ.seq ?_
    refine JQ.region ?_
    refine JQ.v (JV.move rfl) rfl ?_
    refine JQ.v (JV.assign rfl) rfl ?_
    refine JQ.nil ?_
    refine JQ.n_then ?_
    refine JQ.ret ?_
    refine JQ.r_then ?_
    refine JQ.done1 Tryd.results5 rfl ?_
    exact fun w hw => ⟨rfl, hw.below⟩
  · refine JQ.v (JV.ff (JV.gtrN (b := 400) rfl rfl) hs2_2) rfl ?_
    refine JQ.v (JV.move rfl) rfl ?_
    refine JQ.vg rfl rfl (JV.move rfl) rfl ?_
    refine JQ.vg rfl rfl (JV.lenStr rfl Tryd.runUnderlying9) rfl ?_
    refine JQ.vg rfl rfl (JV.gtrN (b := 400) rfl rfl) rfl ?_
    refine JQ.v (JV.pickF rfl rfl) rfl ?_
    refine JQ.nil ?_
    refine JQ.n_then ?_
    refine JQ.condP rfl (fun h14 => ?_) (fun h14 => ?_)
    · refine JQ.seq ?_
      refine JQ.region ?_
      refine JQ.v (JV.move rfl) rfl ?_
      refine JQ.v (JV.assign rfl) rfl ?_
      refine JQ.nil ?_
      refine JQ.n_then ?_
      refine JQ.ret ?_
      refine JQ.r_then ?_
      refine JQ.done1 Tryd.results5 rfl ?_
      exact fun w hw => ⟨rfl, hw.below⟩
    · refine JQ.skip ?_
      refine JQ.n_then ?_
      refine JQ.seq ?_
      refine JQ.region ?_
      refine JQ.v (JV.move rfl) rfl ?_
      refine JQ.v (JV.move rfl) rfl ?_
      refine JQ.vg rfl rfl (JV.move rfl) rfl ?_
      refine JQ.vg rfl rfl (JV.move rfl) rfl ?_
      refine JQ.vg rfl rfl (JV.callM Tryd.call18 (evs_cons rfl (evs_cons rfl evs_nil)) (fun w hw => mac_spec k m (by omega) (by omega) w (hw.reads (id := 901) rfl))) rfl ?_
      refine JQ.vg rfl rfl (JV.move rfl) rfl ?_
      refine JQ.vg rfl rfl (JV.move rfl) rfl ?_
      refine JQ.vg rfl rfl (JV.callM Tryd.call19 (evs_cons rfl (evs_cons rfl evs_nil)) (fun w hw => rmac_spec k m (by omega) (by omega) w (hw.reads (id := 900) rfl))) rfl ?_
      refine JQ.vg rfl rfl (JV.tt (JV.eqlS rfl rfl) (rfl)) rfl ?_
      refine JQ.v (JV.pickT rfl rfl) rfl ?_
      refine JQ.v (JV.assign rfl) rfl ?_
      refine JQ.nil ?_
      refine JQ.n_then ?_
      refine JQ.ret ?_
      refine JQ.done1 Tryd.results5 rfl ?_
      exact fun w hw => ⟨rfl, hw.below⟩

theorem law_keys (k m : List UInt8) (w : World) (hG : Gl 1 (Pl.K.map u32) w) :
    Calls Tryd.prog 6 #[str k, str m] w fun e w' => e = .returned (.bool true) ∧ Below w.heap.size w w' := by
  
  refine enterA (vs := [_, _]) Tryd.func6 rfl 54 rfl [(901, .ro (gv 1 64) 1 64 (Pl.K.map u32))] (MemOk.start1 901 hG) ?_
  refine JQ.seq ?_
  refine JQ.region ?_
  refine JQ.v (JV.assign rfl) rfl ?_
  refine JQ.nil ?_
  refine JQ.n_then ?_
  refine JQ.seq ?_
  refine JQ.region ?_
  refine JQ.v (JV.callM Tryd.call10 evs_nil (fun w hw => sanity_spec w (hw.reads (id := 901) rfl))) rfl ?_
  refine JQ.v (JV.assign rfl) rfl ?_
  refine JQ.nil ?_
  refine JQ.n_then ?_
  refine JQ.seq ?_
  refine JQ.seq ?_
  refine JQ.region ?_
  refine JQ.v (JV.move rfl) rfl ?_
  refine JQ.v (JV.lenStr rfl Tryd.runUnderlying9) rfl ?_
  by_cases hs2_2 : 400 < k.length
  · refine JQ.v (JV.tt (JV.gtrN (b := 400) rfl rfl) hs2_2) rfl ?_
    refine JQ.v (JV.move rfl) rfl ?_
    refine JQ.g0 rfl rfl rfl rfl ?_
    refine JQ.g0 rfl rfl rfl rfl ?_
    refine JQ.g0 rfl rfl rfl rfl ?_
    refine JQ.v (JV.pickT rfl rfl) rfl ?_
    refine JQ.nil ?_
    refine JQ.n_then ?_
    refine JQ.condT rfl ?_
    refine JQ.seq ?_
    refine JQ.region ?_
    refine JQ.v (JV.move rfl) rfl ?_
    refine JQ.v (JV.assign rfl) rfl ?_
    refine JQ.nil ?_
    refine JQ.n_then ?_
    refine JQ.ret ?_
    refine JQ.r_then ?_
    refine JQ.done1 Tryd.results6 rfl ?_
    exact fun w hw => ⟨rfl, hw.below⟩
  · refine JQ.v (JV.ff (JV.gtrN (b := 400) rfl rfl) hs2_2) rfl ?_
    refine JQ.v (JV.move rfl) rfl ?_
    refine JQ.vg rfl rfl (JV.move rfl) rfl ?_
    refine JQ.vg rfl rfl (JV.lenStr rfl Tryd.runUnderlying9) rfl ?_
    refine JQ.vg rfl rfl (JV.gtrN (b := 400) rfl rfl) rfl ?_
    refine JQ.v (JV.pickF rfl rfl) rfl ?_
    refine JQ.nil ?_
    refine JQ.n_then ?_
    refine JQ.condP rfl (fun h16 => ?_) (fun h16 => ?_)
    · refine JQ.seq ?_
      refine JQ.region ?_
      refine JQ.v (JV.move rfl) rfl ?_
      refine JQ.v (JV.assign rfl) rfl ?_
      refine JQ.nil ?_
      refine JQ.n_then ?_
      refine JQ.ret ?_
      refine JQ.r_then ?_
      refine JQ.done1 Tryd.results6 rfl ?_
      exact fun w hw => ⟨rfl, hw.below⟩
    · refine JQ.skip ?_
      refine JQ.n_then ?_
      refine JQ.seq ?_
      refine JQ.region ?_
      refine JQ.v (JV.move rfl) rfl ?_
      refine JQ.v (JV.move rfl) rfl ?_
      refine JQ.v (JV.callM Tryd.call18 (evs_cons rfl (evs_cons rfl evs_nil)) (fun w hw => mac_spec k m (by omega) (by omega) w (hw.reads (id := 901) rfl))) rfl ?_
      refine JQ.v (JV.assign rfl) rfl ?_
      refine JQ.nil ?_
      refine JQ.n_then ?_
      refine JQ.seq ?_
      refine JQ.seq ?_
      refine JQ.region ?_
      refine JQ.v (JV.move rfl) rfl ?_
      refine JQ.v (JV.lenStr rfl Tryd.runUnderlying9) rfl ?_
      refine JQ.v (JV.gtrN (b := 64) rfl rfl) rfl ?_
      refine JQ.nil ?_
      refine JQ.n_then ?_
      refine JQ.condP rfl (fun h23 => ?_) (fun h23 => ?_)
      · refine JQ.seq ?_
        refine JQ.region ?_
        refine JQ.v (JV.move rfl) rfl ?_
        refine JQ.x (JO.strBytes 1  Tryd.runUnderlying9 Tryd.runUnderlying22 Tryd.runUnderlying5 rfl (by omega)) rfl ?_
        intro i6_1
        refine JQ.v (JV.callM Tryd.call11 (evs_cons rfl evs_nil) (fun w hw => hsum_spec _ k (by omega) w (hw.reads (id := 901) rfl) (hw.reads (id := 1) rfl))) rfl ?_
        refine JQ.v (JV.call Tryd.call20 (evs_cons rfl evs_nil) (b32_pure _ (Pl.sha_len _))) rfl ?_
        refine JQ.v (JV.assign rfl) rfl ?_
        refine JQ.nil ?_
        refine JQ.n_then ?_
        refine JQ.seq ?_
        refine JQ.region ?_
        refine JQ.v (JV.move rfl) rfl ?_
        refine JQ.v (JV.move rfl) rfl ?_
        refine JQ.vg rfl rfl (JV.move rfl) rfl ?_
        refine JQ.vg rfl rfl (JV.move rfl) rfl ?_
        refine JQ.vg rfl rfl (JV.move rfl) rfl ?_
        refine JQ.vg rfl rfl (JV.callM Tryd.call18 (evs_cons rfl (evs_cons rfl evs_nil)) (fun w hw => mac_spec (Pl.sha k) m (by rw [Pl.sha_len]; decide) (by omega) w (hw.reads (id := 901) rfl))) rfl ?_
        refine JQ.vg rfl rfl (JV.tt (JV.eqlS rfl rfl) (Pl.mac_long k m h23)) rfl ?_
        refine JQ.v (JV.pickT rfl rfl) rfl ?_
        refine JQ.v (JV.assign rfl) rfl ?_
        refine JQ.nil ?_
        refine JQ.n_then ?_
        refine JQ.ret ?_
        refine JQ.r_then ?_
        refine JQ.done1 Tryd.results6 rfl ?_
        exact fun w hw => ⟨rfl, hw.below⟩
      · refine JQ.skip ?_
        refine JQ.n_then ?_
        refine JQ.seq ?_
        refine JQ.seq ?_
        refine JQ.region ?_
        refine JQ.v (JV.move rfl) rfl ?_
        refine JQ.v (JV.lenStr rfl Tryd.runUnderlying9) rfl ?_
        refine JQ.v (JV.lssN (b := 64) rfl rfl) rfl ?_
        refine JQ.nil ?_
        refine JQ.n_then ?_
        refine JQ.condP rfl (fun h38 => ?_) (fun h38 => ?_)
        · refine JQ.seq ?_
          refine JQ.region ?_
          refine JQ.v (JV.move rfl) rfl ?_
          refine JQ.v (JV.move rfl) rfl ?_
          refine JQ.vg rfl rfl (JV.move rfl) rfl ?_
          refine JQ.vg rfl rfl (JV.move rfl) rfl ?_
          refine JQ.vg rfl rfl (JV.addS (l := k) (l' := [0]) rfl rfl (by simp; omega)) rfl ?_
          refine JQ.vg rfl rfl (JV.move rfl) rfl ?_
          refine JQ.vg rfl rfl (JV.callM Tryd.call18 (evs_cons rfl (evs_cons rfl evs_nil)) (fun w hw => mac_spec (k ++ [0]) m (by simp; omega) (by omega) w (hw.reads (id := 901) rfl))) rfl ?_
          refine JQ.vg rfl rfl (JV.tt (JV.eqlS rfl rfl) (Pl.mac_zero k m h38)) rfl ?_
          refine JQ.v (JV.pickT rfl rfl) rfl ?_
          refine JQ.v (JV.assign rfl) rfl ?_
          refine JQ.nil ?_
          refine JQ.n_then ?_
          refine JQ.ret ?_
          refine JQ.r_then ?_
          refine JQ.done1 Tryd.results6 rfl ?_
          exact fun w hw => ⟨rfl, hw.below⟩
        · refine JQ.skip ?_
          refine JQ.n_then ?_
          refine JQ.seq ?_
          refine JQ.region ?_
          refine JQ.v (JV.move rfl) rfl ?_
          refine JQ.v (JV.move rfl) rfl ?_
          refine JQ.vg rfl rfl (JV.move rfl) rfl ?_
          refine JQ.vg rfl rfl (JV.lenStr rfl Tryd.runUnderlying9) rfl ?_
          refine JQ.vg rfl rfl (JV.tt (JV.eqlN (b := 32) rfl rfl) (Pl.mac_len k m)) rfl ?_
          refine JQ.v (JV.pickT rfl rfl) rfl ?_
          refine JQ.v (JV.assign rfl) rfl ?_
          refine JQ.nil ?_
          refine JQ.n_then ?_
          refine JQ.ret ?_
          refine JQ.done1 Tryd.results6 rfl ?_
          exact fun w hw => ⟨rfl, hw.below⟩

theorem law_of (d : Int) (c : UInt8) (hd : IntKind.u8.wrap d = (c.toNat : Int)) (v : Value) (ms : List (List UInt8)) (hms : ms.length ≤ 9223372036854775807) (w : World) (hG : Gl 1 (Pl.K.map u32) w) (hR : Gl 0 (Pl.K.map u32) w) (hr : Reads w v 1 ms.length (ms.map str)) :
    Calls Tryd.prog 7 #[.int .i64 d, v] w fun e w' => e = .returned (.bool true) ∧ Below w.heap.size w w' := by
  
  refine enterA (vs := [_, _]) Tryd.func7 rfl 31 rfl [(901, .ro (gv 1 64) 1 64 (Pl.K.map u32)), (900, .ro (gv 0 64) 1 64 (Pl.K.map u32)), (100, .ro v 1 ms.length (ms.map str))] (((MemOk.start1 100 hr).addRo 900 hR (ro_cons ro_nil)).addRo 901 hG (ro_cons (ro_cons ro_nil))) ?_
  refine JQ.seq ?_
  refine JQ.region ?_
  refine JQ.v (JV.assign rfl) rfl ?_
  refine JQ.nil ?_
  refine JQ.n_then ?_
  refine JQ.seq ?_
  refine JQ.region ?_
  refine JQ.v (JV.callM Tryd.call10 evs_nil (fun w hw => sanity_spec w (hw.reads (id := 901) rfl))) rfl ?_
  refine JQ.v (JV.assign rfl) rfl ?_
  refine JQ.nil ?_
  refine JQ.n_then ?_
  refine JQ.seq ?_
  refine JQ.seq ?_
  refine JQ.region ?_
  refine JQ.v (JV.move rfl) rfl ?_
  by_cases hs2_1 : Pl.few' ms
  · refine JQ.v (JV.tt (JV.callM Tryd.call13 (evs_cons rfl evs_nil) (fun w hw => few_spec v ms (by omega) w (hw.reads (id := 100) rfl))) hs2_1) rfl ?_
    refine JQ.v (JV.notB rfl) rfl ?_
    refine JQ.nil ?_
    refine JQ.n_then ?_
    refine JQ.condF rfl ?_
    refine JQ.skip ?_
    refine JQ.n_then ?_
    refine JQ.seq ?_
    refine JQ.region ?_
    refine JQ.v (JV.move rfl) rfl ?_
    refine JQ.v (JV.move rfl) rfl ?_
    refine JQ.v (JV.callM Tryd.call21 (evs_cons rfl (evs_cons rfl evs_nil)) (fun w hw => of_spec d c hd v ms hs2_1.few w (hw.reads (id := 901) rfl) (hw.reads (id := 100) rfl))) rfl ?_
    refine JQ.x (JO.alloc 1 (zs := ((List.replicate 16 0).map b8)) Tryd.zeroValue44 rfl) rfl ?_
    intro i4_3
    refine JQ.s (JO.storeV 1 rfl rfl rfl (us := (Pl.ofH c ms).map b8) (allB _) Tryd.sizeOf44 (by simp [Pl.ofH_len]) rfl) ?_
    refine JQ.nil ?_
    refine JQ.n_then ?_
    refine JQ.seq ?_
    refine JQ.any [_, _, _, _, _, _, _, _, _, _, _, _, _, _, _, _, _] [fun _ => [], fun _ => [], fun _ => [], fun _ => [], fun _ => [], fun _ => [], fun _ => [], fun _ => [], fun _ => [], fun _ => [], fun _ => [], fun _ => [], fun _ => [], fun _ => [], fun _ => [], fun _ => [], fun _ => []] [⟨[], [], [], []⟩, ⟨[], [], [], [0]⟩, ⟨[1], [], [], [0, 1]⟩, ⟨[], [], [], [0, 1]⟩, ⟨[], [], [], [0, 1]⟩, ⟨[100, 900], [], [], [0, 1, 3, 4]⟩, ⟨[], [], [], [0, 1, 2, 3, 4, 5]⟩, ⟨[], [], [], [0, 1, 2, 3, 4, 5, 6]⟩, ⟨[], [], [], [0, 1, 2, 3, 4, 5, 6, 7]⟩, ⟨[1], [], [], [0, 1, 2, 3, 4, 5, 6, 7, 8]⟩, ⟨[], [], [], [0, 1, 2, 3, 4, 5, 6, 7, 8]⟩, ⟨[], [], [], [0, 1, 2, 3, 4, 5, 6, 7, 8, 10]⟩, ⟨[], [], [], [0, 1, 2, 3, 4, 5, 6, 7, 8]⟩, ⟨[100, 901], [], [], [0, 1, 2, 3, 4, 5, 6, 7, 8, 10, 11, 12]⟩, ⟨[], [], [], [0, 1, 2, 3, 4, 5, 6, 7, 8, 9, 10, 11, 12, 13]⟩, ⟨[], [], [], [0, 1, 2, 3, 4, 5, 6, 7, 8, 9, 10, 11, 12, 13, 14]⟩, ⟨[], [], [], [0, 1, 2, 3, 4, 5, 6, 7, 8, 9, 10, 11, 12, 13, 14, 15]⟩] Tryd.mixed rfl (by kernel_rfl) ⟨Ob.v rfl (fun _ _ h => by cases h) (fun _ _ _ => rfl) (fun e L' hL => JV.move rfl),
            Ob.v rfl (fun _ _ h => by cases h) (fun _ _ _ => rfl) (fun e L' hL => JV.move rfl),
            Ob.vg rfl rfl (fun _ => rfl) (fun _ _ h => by cases h) (fun _ _ _ => rfl) (fun e L' hL => JV.loadV 1 rfl ((hL 1 (by decide)).trans rfl) Tryd.isAgg44 Tryd.sizeOf44 (by simp [Pl.ofH_len])),
            Ob.vg rfl rfl (fun _ => rfl) (fun _ _ h => by cases h) (fun _ _ _ => rfl) (fun e L' hL => JV.move rfl),
            Ob.vg rfl rfl (fun _ => rfl) (fun _ _ h => by cases h) (fun _ _ _ => rfl) (fun e L' hL => JV.move rfl),
            Ob.vg rfl rfl (fun _ => rfl) (fun _ _ h => by cases h) (fun _ _ _ => rfl) (fun e L' hL => JV.callM Tryd.call22 (evs_cons rfl (evs_cons rfl evs_nil)) (fun w hw => rof_spec d c hd v ms hs2_1.few w (hw.reads (id := 900) ((hL 900 (by decide)).trans rfl)) (hw.reads (id := 100) ((hL 100 (by decide)).trans rfl)))),
            Ob.vg rfl rfl (fun _ => rfl) (fun _ _ h => by cases h) (fun _ _ _ => rfl) (fun e L' hL => JV.tt (JV.eqlBytes (xs := Pl.ofH c ms) (ys := Pl.ofH c ms) rfl rfl Tryd.runUnderlying44 Tryd.underlying5 Tryd.sizeOf5 Tryd.isAgg5 Tryd.eqGuardType44 (Pl.ofH_len _ _) (Pl.ofH_len _ _)) (rfl)),
            Ob.v rfl (fun _ _ h => by cases h) (fun _ _ _ => rfl) (fun e L' hL => JV.pickT rfl rfl),
            Ob.v rfl (fun _ _ h => by cases h) (fun _ _ _ => rfl) (fun e L' hL => JV.move rfl),
            Ob.vg rfl rfl (fun _ => rfl) (fun _ _ h => by cases h) (fun _ _ _ => rfl) (fun e L' hL => JV.loadV 1 rfl ((hL 1 (by decide)).trans rfl) Tryd.isAgg44 Tryd.sizeOf44 (by simp [Pl.ofH_len])),
            Ob.vg rfl rfl (fun _ => rfl) (fun _ _ h => by cases h) (fun _ _ _ => rfl) (fun e L' hL => JV.move rfl),
            Ob.vg rfl rfl (fun _ => rfl) (fun _ _ h => by cases h) (fun _ _ _ => rfl) (fun e L' hL => JV.and255 rfl rfl),
            Ob.vg rfl rfl (fun _ => rfl) (fun _ _ h => by cases h) (fun _ _ _ => rfl) (fun e L' hL => JV.move rfl),
            Ob.vg rfl rfl (fun _ => rfl) (fun _ _ h => by cases h) (fun _ _ _ => rfl) (fun e L' hL => JV.callM Tryd.call21 (evs_cons rfl (evs_cons rfl evs_nil)) (fun w hw => of_spec (d % 256) c (wrapMod d c hd) v ms hs2_1.few w (hw.reads (id := 901) ((hL 901 (by decide)).trans rfl)) (hw.reads (id := 100) ((hL 100 (by decide)).trans rfl)))),
            Ob.vg rfl rfl (fun _ => rfl) (fun _ _ h => by cases h) (fun _ _ _ => rfl) (fun e L' hL => JV.tt (JV.eqlBytes (xs := Pl.ofH c ms) (ys := Pl.ofH c ms) rfl rfl Tryd.runUnderlying44 Tryd.underlying5 Tryd.sizeOf5 Tryd.isAgg5 Tryd.eqGuardType44 (Pl.ofH_len _ _) (Pl.ofH_len _ _)) (rfl)),
            Ob.v rfl (fun _ _ h => by cases h) (fun _ _ _ => rfl) (fun e L' hL => JV.pickT rfl rfl),
            Ob.v rfl (fun _ _ h => by cases h) (fun _ _ _ => rfl) (fun e L' hL => JV.assign rfl), trivial⟩ (fun ev5 => ?_)
    simp only [endF, endL, putF, List.nil_append, List.cons_append]
    refine JQ.n_then ?_
    refine JQ.ret ?_
    refine JQ.done1 Tryd.results7 rfl ?_
    exact fun w hw => ⟨rfl, hw.below⟩
  · refine JQ.v (JV.ff (JV.callM Tryd.call13 (evs_cons rfl evs_nil) (fun w hw => few_spec v ms (by omega) w (hw.reads (id := 100) rfl))) hs2_1) rfl ?_
    refine JQ.v (JV.notB rfl) rfl ?_
    refine JQ.nil ?_
    refine JQ.n_then ?_
    refine JQ.condT rfl ?_
    refine JQ.seq ?_
    refine JQ.region ?_
    refine JQ.v (JV.move rfl) rfl ?_
    refine JQ.v (JV.assign rfl) rfl ?_
    refine JQ.nil ?_
    refine JQ.n_then ?_
    refine JQ.ret ?_
    refine JQ.r_then ?_
    refine JQ.done1 Tryd.results7 rfl ?_
    exact fun w hw => ⟨rfl, hw.below⟩

theorem law_equal (a b : List UInt8) (w : World) (hG : Gl 1 (Pl.K.map u32) w) :
    Calls Tryd.prog 9 #[str a, str b] w fun e w' => e = .returned (.bool true) ∧ Below w.heap.size w w' := by
  
  refine enterA (vs := [_, _]) Tryd.func9 rfl 45 rfl [(901, .ro (gv 1 64) 1 64 (Pl.K.map u32))] (MemOk.start1 901 hG) ?_
  refine JQ.seq ?_
  refine JQ.region ?_
  refine JQ.v (JV.assign rfl) rfl ?_
  refine JQ.nil ?_
  refine JQ.n_then ?_
  refine JQ.seq ?_
  refine JQ.region ?_
  refine JQ.v (JV.callM Tryd.call10 evs_nil (fun w hw => sanity_spec w (hw.reads (id := 901) rfl))) rfl ?_
  refine JQ.v (JV.assign rfl) rfl ?_
  refine JQ.nil ?_
  refine JQ.n_then ?_
  refine JQ.seq ?_
  refine JQ.seq ?_
  refine JQ.region ?_
  refine JQ.v (JV.move rfl) rfl ?_
  refine JQ.v (JV.lenStr rfl Tryd.runUnderlying9) rfl ?_
  by_cases hs2_2 : 400 < a.length
  · refine JQ.v (JV.tt (JV.gtrN (b := 400) rfl rfl) hs2_2) rfl ?_
    refine JQ.v (JV.move rfl) rfl ?_
    refine JQ.g0 rfl rfl rfl rfl ?_
    refine JQ.g0 rfl rfl rfl rfl ?_
    refine JQ.g0 rfl rfl rfl rfl ?_
    refine JQ.v (JV.pickT rfl rfl) rfl ?_
    refine JQ.nil ?_
    refine JQ.n_then ?_
    refine JQ.condT rfl ?_
    refine JQ.seq ?_
    refine JQ.region ?_
    refine JQ.v (JV.move rfl) rfl ?_
    refine JQ.v (JV.assign rfl) rfl ?_
    refine JQ.nil ?_
    refine JQ.n_then ?_
    refine JQ.ret ?_
    refine JQ.r_then ?_
    refine JQ.done1 Tryd.results9 rfl ?_
    exact fun w hw => ⟨rfl, hw.below⟩
  · refine JQ.v (JV.ff (JV.gtrN (b := 400) rfl rfl) hs2_2) rfl ?_
    refine JQ.v (JV.move rfl) rfl ?_
    refine JQ.vg rfl rfl (JV.move rfl) rfl ?_
    refine JQ.vg rfl rfl (JV.lenStr rfl Tryd.runUnderlying9) rfl ?_
    refine JQ.vg rfl rfl (JV.gtrN (b := 400) rfl rfl) rfl ?_
    refine JQ.v (JV.pickF rfl rfl) rfl ?_
    refine JQ.nil ?_
    refine JQ.n_then ?_
    refine JQ.condP rfl (fun h17 => ?_) (fun h17 => ?_)
    · refine JQ.seq ?_
      refine JQ.region ?_
      refine JQ.v (JV.move rfl) rfl ?_
      refine JQ.v (JV.assign rfl) rfl ?_
      refine JQ.nil ?_
      refine JQ.n_then ?_
      refine JQ.ret ?_
      refine JQ.r_then ?_
      refine JQ.done1 Tryd.results9 rfl ?_
      exact fun w hw => ⟨rfl, hw.below⟩
    · refine JQ.skip ?_
      refine JQ.n_then ?_
      refine JQ.seq ?_
      refine JQ.region ?_
      refine JQ.v (JV.move rfl) rfl ?_
      refine JQ.v (JV.move rfl) rfl ?_
      refine JQ.v (JV.call Tryd.call24 (evs_cons rfl (evs_cons rfl evs_nil)) (equal_pure a b (by first | omega | (simp; omega)) (by first | omega | (simp; omega)))) rfl ?_
      refine JQ.v (JV.assign rfl) rfl ?_
      refine JQ.nil ?_
      refine JQ.n_then ?_
      refine JQ.seq ?_
      refine JQ.region ?_
      refine JQ.v (JV.move rfl) rfl ?_
      refine JQ.v (JV.move rfl) rfl ?_
      refine JQ.v (JV.call Tryd.call24 (evs_cons rfl (evs_cons rfl evs_nil)) (equal_pure b a (by first | omega | (simp; omega)) (by first | omega | (simp; omega)))) rfl ?_
      refine JQ.v (JV.assign rfl) rfl ?_
      refine JQ.nil ?_
      refine JQ.n_then ?_
      refine JQ.seq ?_
      refine JQ.region ?_
      refine JQ.v (JV.move rfl) rfl ?_
      refine JQ.v (JV.move rfl) rfl ?_
      refine JQ.v (JV.addS (l := a) (l' := []) rfl rfl (by simp; omega)) rfl ?_
      refine JQ.v (JV.tt (JV.call Tryd.call24 (evs_cons rfl (evs_cons rfl evs_nil)) (equal_pure a (a ++ []) (by first | omega | (simp; omega)) (by first | omega | (simp; omega)))) ((List.append_nil a).symm)) rfl ?_
      refine JQ.v (JV.assign rfl) rfl ?_
      refine JQ.nil ?_
      refine JQ.n_then ?_
      refine JQ.seq ?_
      refine JQ.region ?_
      refine JQ.v (JV.move rfl) rfl ?_
      refine JQ.v (JV.move rfl) rfl ?_
      refine JQ.vg rfl rfl (JV.move rfl) rfl ?_
      refine JQ.vg rfl rfl (JV.move rfl) rfl ?_
      refine JQ.vg rfl rfl (JV.move rfl) rfl ?_
      refine JQ.vg rfl rfl (JV.eqlS rfl rfl) rfl ?_
      refine JQ.vg rfl rfl (JV.bt (JV.eqlB rfl rfl Tryd.underlying4) (by simp)) rfl ?_
      refine JQ.v (JV.pickT rfl rfl) rfl ?_
      refine JQ.v (JV.move rfl) rfl ?_
      refine JQ.vg rfl rfl (JV.move rfl) rfl ?_
      refine JQ.vg rfl rfl (JV.move rfl) rfl ?_
      refine JQ.vg rfl rfl (JV.bt (JV.eqlB rfl rfl Tryd.underlying4) (by simp [eq_comm])) rfl ?_
      refine JQ.v (JV.pickT rfl rfl) rfl ?_
      refine JQ.v (JV.move rfl) rfl ?_
      refine JQ.vg rfl rfl (JV.move rfl) rfl ?_
      refine JQ.v (JV.pickT rfl rfl) rfl ?_
      refine JQ.v (JV.assign rfl) rfl ?_
      refine JQ.nil ?_
      refine JQ.n_then ?_
      refine JQ.ret ?_
      refine JQ.done1 Tryd.results9 rfl ?_
      exact fun w hw => ⟨rfl, hw.below⟩

set_option maxHeartbeats 2000000 in
theorem law_streams (v : Value) (ms : List (List UInt8)) (s : List UInt8) (b : Nat) (hb : b < 256) (hms : ms.length ≤ 9223372036854775807) (w : World) (hG : Gl 1 (Pl.K.map u32) w) (hR : Gl 0 (Pl.K.map u32) w) (hr : Reads w v 1 ms.length (ms.map str)) :
    Calls Tryd.prog 4 #[v, str s, .int .u8 ((b : Nat) : Int)] w fun e w' => e = .returned (.bool true) ∧ Below w.heap.size w w' := by
  
  refine enterA (vs := [_, _, _]) Tryd.func4 rfl 102 rfl [(901, .ro (gv 1 64) 1 64 (Pl.K.map u32)), (900, .ro (gv 0 64) 1 64 (Pl.K.map u32)), (100, .ro v 1 ms.length (ms.map str))] (((MemOk.start1 100 hr).addRo 900 hR (ro_cons ro_nil)).addRo 901 hG (ro_cons (ro_cons ro_nil))) ?_
  refine JQ.seq ?_
  refine JQ.region ?_
  refine JQ.v (JV.assign rfl) rfl ?_
  refine JQ.nil ?_
  refine JQ.n_then ?_
  refine JQ.seq ?_
  refine JQ.region ?_
  refine JQ.v (JV.callM Tryd.call10 evs_nil (fun w hw => sanity_spec w (hw.reads (id := 901) rfl))) rfl ?_
  refine JQ.v (JV.assign rfl) rfl ?_
  refine JQ.nil ?_
  refine JQ.n_then ?_
  refine JQ.seq ?_
  refine JQ.seq ?_
  refine JQ.region ?_
  refine JQ.v (JV.move rfl) rfl ?_
  by_cases hs2_1 : Pl.few' ms
  · refine JQ.v (JV.tt (JV.callM Tryd.call13 (evs_cons rfl evs_nil) (fun w hw => few_spec v ms (by omega) w (hw.reads (id := 100) rfl))) hs2_1) rfl ?_
    refine JQ.v (JV.notB rfl) rfl ?_
    refine JQ.v (JV.move rfl) rfl ?_
    refine JQ.vg rfl rfl (JV.move rfl) rfl ?_
    refine JQ.vg rfl rfl (JV.lenStr rfl Tryd.runUnderlying9) rfl ?_
    refine JQ.vg rfl rfl (JV.gtrN (b := 400) rfl rfl) rfl ?_
    refine JQ.v (JV.pickF rfl rfl) rfl ?_
    refine JQ.nil ?_
    refine JQ.n_then ?_
    refine JQ.condP rfl (fun h24 => ?_) (fun h24 => ?_)
    · refine JQ.seq ?_
      refine JQ.region ?_
      refine JQ.v (JV.move rfl) rfl ?_
      refine JQ.v (JV.assign rfl) rfl ?_
      refine JQ.nil ?_
      refine JQ.n_then ?_
      refine JQ.ret ?_
      refine JQ.r_then ?_
      refine JQ.done1 Tryd.results4 rfl ?_
      exact fun w hw => ⟨rfl, hw.below⟩
    · refine JQ.skip ?_
      refine JQ.n_then ?_
      refine JQ.seq ?_
      have h12 := hs2_1.1
      refine JQ.region ?_
      refine JQ.v (JV.move rfl) rfl ?_
      refine JQ.v (JV.convK Tryd.runUnderlying5 Tryd.runUnderlying3 rfl ((wrap_i64 (by omega)))) rfl ?_
      refine JQ.v (JV.move rfl) rfl ?_
      refine JQ.v (JV.lenRo 100 rfl rfl Tryd.runUnderlying27) rfl ?_
      refine JQ.v (JV.addN (b := 1) rfl rfl (by omega)) rfl ?_
      refine JQ.v (JV.remN rfl rfl (by omega)) rfl ?_
      refine JQ.v (JV.assign rfl) rfl ?_
      generalize hk : b % (ms.length + 1) = k
      have hkl : k ≤ ms.length := by rw [← hk]; have := Nat.mod_lt b (show 0 < ms.length + 1 by omega); omega
      have hfew := hs2_1.few
      refine JQ.nil ?_
      refine JQ.n_then ?_
      refine JQ.seq ?_
      refine JQ.region ?_
      refine JQ.v (JV.call Tryd.call14 evs_nil begin_pure) rfl ?_
      refine JQ.x (JO.alloc 1 (zs := ((List.replicate 8 0).map u32 ++ ((List.replicate 64 0).map b8 ++ [u64 0]))) Tryd.zeroValue34 rfl) rfl ?_
      intro i5_1
      refine JQ.s (JO.storeV 1 rfl rfl rfl (us := scells Pl.Z) (scells_all _) Tryd.sizeOf34 (scells_len _ Pl.Z_ok.2) rfl) ?_
      refine JQ.nil ?_
      refine JQ.n_then ?_
      refine JQ.seq ?_
      refine JQ.seq ?_
      refine JQ.region ?_
      refine JQ.v (JV.assign rfl) rfl ?_
      refine JQ.nil ?_
      refine JQ.n_then ?_
      refine JQ.block ?_
      refine JQ.loopI (ι := Nat) (fun i => [(0, v), (1, str s), (7, .bool true), (8, .int .i64 ((k : Nat) : Int)), (9, .pointer (some ⟨i5_1, 0, none⟩)), (10, .int .i64 ((i : Nat) : Int))]) (fun i => [(1, .cells i5_1 (scells (Pl.addM (ms.take i))) 34 (0, 0)), (901, .ro (gv 1 64) 1 64 (Pl.K.map u32)), (900, .ro (gv 0 64) 1 64 (Pl.K.map u32)), (100, .ro v 1 ms.length (ms.map str))]) (fun i => i ≤ k) (fun i => k - i) 0 (Nat.zero_le _) (subk_cons rfl (subk_cons rfl (subk_cons rfl (subk_cons rfl (subk_cons rfl (subk_cons rfl subk_nil)))))) (subr_cons (by rw [Pl.addM_zero]; rfl) (subr_cons rfl (subr_cons rfl (subr_cons rfl subr_nil)))) ?_
      intro i hi
      refine JQ.seq ?_
      refine JQ.seq ?_
      refine JQ.region ?_
      refine JQ.v (JV.move rfl) rfl ?_
      refine JQ.v (JV.move rfl) rfl ?_
      refine JQ.v (JV.lssN rfl rfl) rfl ?_
      refine JQ.nil ?_
      refine JQ.n_then ?_
      refine JQ.condP rfl (fun h35 => ?_) (fun h35 => ?_)
      · refine JQ.skip ?_
        refine JQ.n_then ?_
        refine JQ.seq ?_
        refine JQ.block ?_
        refine JQ.any [_, _, _, _, _, _, _] [fun _ => [], fun _ => [], fun _ => [], fun _ => [], fun _ => [], fun _ => [], _] [⟨[1], [], [], []⟩, ⟨[], [], [], []⟩, ⟨[], [], [], []⟩, ⟨[100], [], [], [1, 2]⟩, ⟨[100], [], [], [1, 2, 3]⟩, ⟨[901], [], [], [0, 1, 2, 3, 4]⟩, ⟨[], [1], [], [0, 1, 2, 3, 4, 5]⟩] Tryd.mixed rfl (by kernel_rfl) ⟨Ob.v rfl (fun _ _ h => by cases h) (fun _ _ _ => rfl) (fun e L' hL => JV.loadV 1 rfl ((hL 1 (by decide)).trans rfl) Tryd.isAgg34 Tryd.sizeOf34 (scells_len _ (Pl.addM_ok _).2)),
                    Ob.v rfl (fun _ _ h => by cases h) (fun _ _ _ => rfl) (fun e L' hL => JV.move rfl),
                    Ob.v rfl (fun _ _ h => by cases h) (fun _ _ _ => rfl) (fun e L' hL => JV.move rfl),
                    Ob.v rfl (fun _ _ h => by cases h) (fun _ _ _ => rfl) (fun e L' hL => JV.idxRo1 100 rfl rfl ((hL 100 (by decide)).trans rfl) Tryd.runUnderlying27 Tryd.sizeOf9 (by decide) (by omega)),
                    Ob.v rfl (fun _ _ h => by cases h) (fun _ _ _ => rfl) (fun e L' hL => JV.loadR 100 rfl ((hL 100 (by decide)).trans rfl) Tryd.isAgg9 (getS _ _ (by omega))),
                    Ob.v rfl (fun _ _ h => by cases h) (fun _ _ _ => rfl) (fun e L' hL => JV.callM Tryd.call15 (evs_cons rfl (evs_cons rfl evs_nil)) (fun w hw => add_spec (Pl.addM (ms.take i)) (Pl.addM_ok _) (ms.getD i []) (by have h1 := Pl.addM_n (hfew.take i); have h2 := hfew.get i; omega) w (hw.reads (id := 901) ((hL 901 (by decide)).trans rfl)))),
                    Ob.s 1 rfl (fun _ _ h => by cases h) (fun _ _ _ => rfl) (fun e L' hL => JO.storeV 1 rfl ((hL 1 (by decide)).trans rfl) rfl (scells_all _) Tryd.sizeOf34 (scells_len _ (Pl.addS_ok _ _ (Pl.addM_ok _)).2) (scells_len _ (Pl.addM_ok _).2)), trivial⟩ (fun ev9 => ?_)
        simp only [endF, endL, putF, List.nil_append, List.cons_append]
        refine JQ.n_block ?_
        refine JQ.n_then ?_
        refine JQ.region ?_
        refine JQ.v (JV.move rfl) rfl ?_
        refine JQ.v (JV.addN (b := 1) rfl rfl (by omega)) rfl ?_
        refine JQ.v (JV.assign rfl) rfl ?_
        refine JQ.nil ?_
        refine JQ.n_then ?_
        exact JQ.nextI (i + 1) (by omega) (by omega) (subk_cons rfl (subk_cons rfl (subk_cons rfl (subk_cons rfl (subk_cons rfl (subk_cons rfl subk_nil)))))) (subr_cons (by rw [Pl.addM_succ ms i (by omega)]; rfl) (subr_cons rfl (subr_cons rfl (subr_cons rfl subr_nil))))
      · refine JQ.exit ?_
        refine JQ.e_then ?_
        refine JQ.e_then ?_
        refine JQ.e_here ?_
        refine JQ.n_then ?_
        refine JQ.seq ?_
        rw [show i = k from by omega]
        refine JQ.region ?_
        refine JQ.v (JV.loadV 1 rfl rfl Tryd.isAgg34 Tryd.sizeOf34 (scells_len _ (Pl.addM_ok _).2)) rfl ?_
        refine JQ.x (JO.alloc 2 (zs := ((List.replicate 8 0).map u32 ++ ((List.replicate 64 0).map b8 ++ [u64 0]))) Tryd.zeroValue34 rfl) rfl ?_
        intro i10_1
        refine JQ.s (JO.storeV 2 rfl rfl rfl (scells_all _) Tryd.sizeOf34 (scells_len _ (Pl.addM_ok _).2) rfl) ?_
        refine JQ.nil ?_
        refine JQ.n_then ?_
        refine JQ.seq ?_
        refine JQ.seq ?_
        refine JQ.region ?_
        refine JQ.v (JV.move rfl) rfl ?_
        refine JQ.v (JV.assign rfl) rfl ?_
        refine JQ.nil ?_
        refine JQ.n_then ?_
        refine JQ.block ?_
        refine JQ.loopI (ι := Nat) (fun i => [(0, v), (1, str s), (7, .bool true), (8, .int .i64 ((k : Nat) : Int)), (9, .pointer (some ⟨i5_1, 0, none⟩)), (11, .pointer (some ⟨i10_1, 0, none⟩)), (12, .int .i64 ((i : Nat) : Int))]) (fun i => [(1, .cells i5_1 (scells (Pl.addM (ms.take i))) 34 (0, 0)), (2, .cells i10_1 (scells (Pl.addM (ms.take k))) 34 (0, 0)), (901, .ro (gv 1 64) 1 64 (Pl.K.map u32)), (900, .ro (gv 0 64) 1 64 (Pl.K.map u32)), (100, .ro v 1 ms.length (ms.map str))]) (fun i => k ≤ i ∧ i ≤ ms.length) (fun i => ms.length - i) k ⟨Nat.le_refl _, hkl⟩ (subk_cons rfl (subk_cons rfl (subk_cons rfl (subk_cons rfl (subk_cons rfl (subk_cons rfl (subk_cons rfl subk_nil))))))) (subr_cons rfl (subr_cons rfl (subr_cons rfl (subr_cons rfl (subr_cons rfl subr_nil))))) ?_
        intro i hi
        refine JQ.seq ?_
        refine JQ.seq ?_
        refine JQ.region ?_
        refine JQ.v (JV.move rfl) rfl ?_
        refine JQ.v (JV.move rfl) rfl ?_
        refine JQ.v (JV.lenRo 100 rfl rfl Tryd.runUnderlying27) rfl ?_
        refine JQ.v (JV.lssN rfl rfl) rfl ?_
        refine JQ.nil ?_
        refine JQ.n_then ?_
        refine JQ.condP rfl (fun h49 => ?_) (fun h49 => ?_)
        · refine JQ.skip ?_
          refine JQ.n_then ?_
          refine JQ.seq ?_
          refine JQ.block ?_
          refine JQ.any [_, _, _, _, _, _, _] [fun _ => [], fun _ => [], fun _ => [], fun _ => [], fun _ => [], fun _ => [], _] [⟨[1], [], [], []⟩, ⟨[], [], [], []⟩, ⟨[], [], [], []⟩, ⟨[100], [], [], [1, 2]⟩, ⟨[100], [], [], [1, 2, 3]⟩, ⟨[901], [], [], [0, 1, 2, 3, 4]⟩, ⟨[], [1], [], [0, 1, 2, 3, 4, 5]⟩] Tryd.mixed rfl (by kernel_rfl) ⟨Ob.v rfl (fun _ _ h => by cases h) (fun _ _ _ => rfl) (fun e L' hL => JV.loadV 1 rfl ((hL 1 (by decide)).trans rfl) Tryd.isAgg34 Tryd.sizeOf34 (scells_len _ (Pl.addM_ok _).2)),
                        Ob.v rfl (fun _ _ h => by cases h) (fun _ _ _ => rfl) (fun e L' hL => JV.move rfl),
                        Ob.v rfl (fun _ _ h => by cases h) (fun _ _ _ => rfl) (fun e L' hL => JV.move rfl),
                        Ob.v rfl (fun _ _ h => by cases h) (fun _ _ _ => rfl) (fun e L' hL => JV.idxRo1 100 rfl rfl ((hL 100 (by decide)).trans rfl) Tryd.runUnderlying27 Tryd.sizeOf9 (by decide) (by omega)),
                        Ob.v rfl (fun _ _ h => by cases h) (fun _ _ _ => rfl) (fun e L' hL => JV.loadR 100 rfl ((hL 100 (by decide)).trans rfl) Tryd.isAgg9 (getS _ _ (by omega))),
                        Ob.v rfl (fun _ _ h => by cases h) (fun _ _ _ => rfl) (fun e L' hL => JV.callM Tryd.call15 (evs_cons rfl (evs_cons rfl evs_nil)) (fun w hw => add_spec (Pl.addM (ms.take i)) (Pl.addM_ok _) (ms.getD i []) (by have h1 := Pl.addM_n (hfew.take i); have h2 := hfew.get i; omega) w (hw.reads (id := 901) ((hL 901 (by decide)).trans rfl)))),
                        Ob.s 1 rfl (fun _ _ h => by cases h) (fun _ _ _ => rfl) (fun e L' hL => JO.storeV 1 rfl ((hL 1 (by decide)).trans rfl) rfl (scells_all _) Tryd.sizeOf34 (scells_len _ (Pl.addS_ok _ _ (Pl.addM_ok _)).2) (scells_len _ (Pl.addM_ok _).2)), trivial⟩ (fun ev14 => ?_)
          simp only [endF, endL, putF, List.nil_append, List.cons_append]
          refine JQ.n_block ?_
          refine JQ.n_then ?_
          refine JQ.region ?_
          refine JQ.v (JV.move rfl) rfl ?_
          refine JQ.v (JV.addN (b := 1) rfl rfl (by omega)) rfl ?_
          refine JQ.v (JV.assign rfl) rfl ?_
          refine JQ.nil ?_
          refine JQ.n_then ?_
          exact JQ.nextI (i + 1) (by omega) (by omega) (subk_cons rfl (subk_cons rfl (subk_cons rfl (subk_cons rfl (subk_cons rfl (subk_cons rfl (subk_cons rfl subk_nil))))))) (subr_cons (by rw [Pl.addM_succ ms i (by omega)]; rfl) (subr_cons rfl (subr_cons rfl (subr_cons rfl (subr_cons rfl subr_nil)))))
        · refine JQ.exit ?_
          refine JQ.e_then ?_
          refine JQ.e_then ?_
          refine JQ.e_here ?_
          refine JQ.n_then ?_
          refine JQ.seq ?_
          rw [show i = ms.length from by omega, List.take_of_length_le (Nat.le_refl _)]
          refine JQ.region ?_
          refine JQ.v (JV.loadV 2 rfl rfl Tryd.isAgg34 Tryd.sizeOf34 (scells_len _ (Pl.addM_ok _).2)) rfl ?_
          refine JQ.v (JV.move rfl) rfl ?_
          refine JQ.v (JV.callM Tryd.call15 (evs_cons rfl (evs_cons rfl evs_nil)) (fun w hw => add_spec (Pl.addM (ms.take k)) (Pl.addM_ok _) s (by have h1 := Pl.addM_n (hfew.take k); omega) w (hw.reads (id := 901) rfl))) rfl ?_
          refine JQ.x (JO.alloc 3 (zs := ((List.replicate 8 0).map u32 ++ ((List.replicate 64 0).map b8 ++ [u64 0]))) Tryd.zeroValue34 rfl) rfl ?_
          intro i15_3
          refine JQ.s (JO.storeV 3 rfl rfl rfl (scells_all _) Tryd.sizeOf34 (scells_len _ (Pl.addS_ok _ _ (Pl.addM_ok _)).2) rfl) ?_
          refine JQ.nil ?_
          refine JQ.n_then ?_
          refine JQ.seq ?_
          refine JQ.region ?_
          refine JQ.v (JV.move rfl) rfl ?_
          refine JQ.v (JV.callM Tryd.call16 (evs_cons rfl evs_nil) (fun w hw => joined_spec v ms hfew w (hw.reads (id := 100) rfl))) rfl ?_
          refine JQ.v (JV.assign rfl) rfl ?_
          refine JQ.nil ?_
          refine JQ.n_then ?_
          refine JQ.seq ?_
          refine JQ.region ?_
          refine JQ.v (JV.move rfl) rfl ?_
          refine JQ.v (JV.move rfl) rfl ?_
          refine JQ.x (JO.sliceRo 100 4 (us := (ms.take k).map str) rfl rfl Tryd.runUnderlying27 Tryd.sizeOf9 rfl (bnd_some rfl) (by omega) (by omega) (by rw [List.drop_zero, Nat.sub_zero, List.map_take]) (by decide)) rfl ?_
          intro i17_2
          rw [show k - 0 = (ms.take k).length from by simp; omega]
          refine JQ.v (JV.callM Tryd.call16 (evs_cons rfl evs_nil) (fun w hw => joined_spec _ (ms.take k) (hfew.take k) w (hw.reads (id := 4) rfl))) rfl ?_
          refine JQ.v (JV.assign rfl) rfl ?_
          refine JQ.nil ?_
          refine JQ.n_then ?_
          refine JQ.seq ?_
          have hfl := Pl.flat_few hfew
          have hfk := Pl.flat_few (hfew.take k)
          refine JQ.region ?_
          refine JQ.v (JV.move rfl) rfl ?_
          refine JQ.v (JV.move rfl) rfl ?_
          refine JQ.vg rfl rfl (JV.loadV 1 rfl rfl Tryd.isAgg34 Tryd.sizeOf34 (scells_len _ (Pl.addM_ok _).2)) rfl ?_
          refine JQ.vg rfl rfl (JV.callM Tryd.call17 (evs_cons rfl evs_nil) (fun w hw => sum_spec (Pl.addM ms) (Pl.addM_ok _) (by have h1 := Pl.addM_n hfew; omega) w (hw.reads (id := 901) rfl))) rfl ?_
          refine JQ.vg rfl rfl (JV.move rfl) rfl ?_
          refine JQ.xg rfl rfl (JO.strBytes 5  Tryd.runUnderlying9 Tryd.runUnderlying22 Tryd.runUnderlying5 rfl (by omega)) rfl ?_
          intro i18_5
          refine JQ.vg rfl rfl (JV.callM Tryd.call12 (evs_cons rfl evs_nil) (fun w hw => rsum_spec _ ms.flatten (by omega) w (hw.reads (id := 900) rfl) (hw.reads (id := 5) rfl))) rfl ?_
          refine JQ.vg rfl rfl (JV.tt (JV.eqlBytes (xs := Pl.sumS (Pl.addM ms)) (ys := Pl.sha ms.flatten) rfl rfl Tryd.runUnderlying24 Tryd.underlying5 Tryd.sizeOf5 Tryd.isAgg5 Tryd.eqGuardType24 (sumS_len _) (Pl.sha_len _)) (Pl.sumS_is (Pl.addM_is _))) rfl ?_
          refine JQ.v (JV.pickT rfl rfl) rfl ?_
          refine JQ.v (JV.move rfl) rfl ?_
          refine JQ.vg rfl rfl (JV.loadV 2 rfl rfl Tryd.isAgg34 Tryd.sizeOf34 (scells_len _ (Pl.addM_ok _).2)) rfl ?_
          refine JQ.vg rfl rfl (JV.callM Tryd.call17 (evs_cons rfl evs_nil) (fun w hw => sum_spec (Pl.addM (ms.take k)) (Pl.addM_ok _) (by have h1 := Pl.addM_n (hfew.take k); omega) w (hw.reads (id := 901) rfl))) rfl ?_
          refine JQ.vg rfl rfl (JV.move rfl) rfl ?_
          refine JQ.xg rfl rfl (JO.strBytes 6  Tryd.runUnderlying9 Tryd.runUnderlying22 Tryd.runUnderlying5 rfl (by omega)) rfl ?_
          intro i18_13
          refine JQ.vg rfl rfl (JV.callM Tryd.call12 (evs_cons rfl evs_nil) (fun w hw => rsum_spec _ (ms.take k).flatten (by omega) w (hw.reads (id := 900) rfl) (hw.reads (id := 6) rfl))) rfl ?_
          refine JQ.vg rfl rfl (JV.tt (JV.eqlBytes (xs := Pl.sumS (Pl.addM (ms.take k))) (ys := Pl.sha (ms.take k).flatten) rfl rfl Tryd.runUnderlying24 Tryd.underlying5 Tryd.sizeOf5 Tryd.isAgg5 Tryd.eqGuardType24 (sumS_len _) (Pl.sha_len _)) (Pl.sumS_is (Pl.addM_is _))) rfl ?_
          refine JQ.v (JV.pickT rfl rfl) rfl ?_
          refine JQ.v (JV.move rfl) rfl ?_
          refine JQ.vg rfl rfl (JV.loadV 3 rfl rfl Tryd.isAgg34 Tryd.sizeOf34 (scells_len _ (Pl.addS_ok _ _ (Pl.addM_ok _)).2)) rfl ?_
          refine JQ.vg rfl rfl (JV.callM Tryd.call17 (evs_cons rfl evs_nil) (fun w hw => sum_spec (Pl.addS (Pl.addM (ms.take k)) s) (Pl.addS_ok _ _ (Pl.addM_ok _)) (by have h1 := Pl.addM_n (hfew.take k); rw [Pl.addS_n]; omega) w (hw.reads (id := 901) rfl))) rfl ?_
          refine JQ.vg rfl rfl (JV.move rfl) rfl ?_
          refine JQ.vg rfl rfl (JV.move rfl) rfl ?_
          refine JQ.vg rfl rfl (JV.addS rfl rfl (by omega)) rfl ?_
          refine JQ.xg rfl rfl (JO.strBytes 7  Tryd.runUnderlying9 Tryd.runUnderlying22 Tryd.runUnderlying5 rfl (by rw [List.length_append]; omega)) rfl ?_
          intro i18_23
          refine JQ.vg rfl rfl (JV.callM Tryd.call12 (evs_cons rfl evs_nil) (fun w hw => rsum_spec _ ((ms.take k).flatten ++ s) (by rw [List.length_append]; omega) w (hw.reads (id := 900) rfl) (hw.reads (id := 7) rfl))) rfl ?_
          refine JQ.vg rfl rfl (JV.tt (JV.eqlBytes (xs := Pl.sumS (Pl.addS (Pl.addM (ms.take k)) s)) (ys := Pl.sha ((ms.take k).flatten ++ s)) rfl rfl Tryd.runUnderlying24 Tryd.underlying5 Tryd.sizeOf5 Tryd.isAgg5 Tryd.eqGuardType24 (sumS_len _) (Pl.sha_len _)) (Pl.sumS_is ((Pl.addM_is _).add _))) rfl ?_
          refine JQ.v (JV.pickT rfl rfl) rfl ?_
          refine JQ.v (JV.move rfl) rfl ?_
          refine JQ.vg rfl rfl (JV.loadV 1 rfl rfl Tryd.isAgg34 Tryd.sizeOf34 (scells_len _ (Pl.addM_ok _).2)) rfl ?_
          refine JQ.vg rfl rfl (JV.callM Tryd.call17 (evs_cons rfl evs_nil) (fun w hw => sum_spec (Pl.addM ms) (Pl.addM_ok _) (by have h1 := Pl.addM_n hfew; omega) w (hw.reads (id := 901) rfl))) rfl ?_
          refine JQ.vg rfl rfl (JV.move rfl) rfl ?_
          refine JQ.xg rfl rfl (JO.strBytes 8  Tryd.runUnderlying9 Tryd.runUnderlying22 Tryd.runUnderlying5 rfl (by omega)) rfl ?_
          intro i18_31
          refine JQ.vg rfl rfl (JV.callM Tryd.call11 (evs_cons rfl evs_nil) (fun w hw => hsum_spec _ ms.flatten (by omega) w (hw.reads (id := 901) rfl) (hw.reads (id := 8) rfl))) rfl ?_
          refine JQ.vg rfl rfl (JV.tt (JV.eqlBytes (xs := Pl.sumS (Pl.addM ms)) (ys := Pl.sha ms.flatten) rfl rfl Tryd.runUnderlying24 Tryd.underlying5 Tryd.sizeOf5 Tryd.isAgg5 Tryd.eqGuardType24 (sumS_len _) (Pl.sha_len _)) (Pl.sumS_is (Pl.addM_is _))) rfl ?_
          refine JQ.v (JV.pickT rfl rfl) rfl ?_
          refine JQ.v (JV.assign rfl) rfl ?_
          refine JQ.nil ?_
          refine JQ.n_then ?_
          refine JQ.ret ?_
          refine JQ.done1 Tryd.results4 rfl ?_
          exact fun w hw => ⟨rfl, hw.below⟩
  · refine JQ.v (JV.ff (JV.callM Tryd.call13 (evs_cons rfl evs_nil) (fun w hw => few_spec v ms (by omega) w (hw.reads (id := 100) rfl))) hs2_1) rfl ?_
    refine JQ.v (JV.notB rfl) rfl ?_
    refine JQ.v (JV.move rfl) rfl ?_
    refine JQ.g0 rfl rfl rfl rfl ?_
    refine JQ.g0 rfl rfl rfl rfl ?_
    refine JQ.g0 rfl rfl rfl rfl ?_
    refine JQ.v (JV.pickT rfl rfl) rfl ?_
    refine JQ.nil ?_
    refine JQ.n_then ?_
    refine JQ.condT rfl ?_
    refine JQ.seq ?_
    refine JQ.region ?_
    refine JQ.v (JV.move rfl) rfl ?_
    refine JQ.v (JV.assign rfl) rfl ?_
    refine JQ.nil ?_
    refine JQ.n_then ?_
    refine JQ.ret ?_
    refine JQ.r_then ?_
    refine JQ.done1 Tryd.results4 rfl ?_
    exact fun w hw => ⟨rfl, hw.below⟩

set_option maxHeartbeats 2000000 in
theorem law_separates (c1 c2 : UInt8) (v1 v2 : Value) (ms1 ms2 : List (List UInt8)) (hms1 : ms1.length ≤ 9223372036854775807) (hms2 : ms2.length ≤ 9223372036854775807) (w : World) (hG : Gl 1 (Pl.K.map u32) w) (hr1 : Reads w v1 1 ms1.length (ms1.map str)) (hr2 : Reads w v2 1 ms2.length (ms2.map str)) :
    Calls Tryd.prog 8 #[.agg ([c1, c2].map b8).toArray, v1, v2] w fun e w' => e = .returned (.bool true) ∧ Below w.heap.size w w' := by
  
  refine enterA (vs := [_, _, _]) Tryd.func8 rfl 120 rfl [(901, .ro (gv 1 64) 1 64 (Pl.K.map u32)), (100, .ro v1 1 ms1.length (ms1.map str)), (101, .ro v2 1 ms2.length (ms2.map str))] (((MemOk.start1 101 hr2).addRo 100 hr1 (ro_cons ro_nil)).addRo 901 hG (ro_cons (ro_cons ro_nil))) ?_
  refine JQ.seq ?_
  refine JQ.region ?_
  refine JQ.x (JO.box 1 rfl rfl) rfl ?_
  intro i0_0
  refine JQ.v (JV.assign rfl) rfl ?_
  refine JQ.nil ?_
  refine JQ.n_then ?_
  refine JQ.seq ?_
  refine JQ.region ?_
  refine JQ.v (JV.callM Tryd.call10 evs_nil (fun w hw => sanity_spec w (hw.reads (id := 901) rfl))) rfl ?_
  refine JQ.v (JV.assign rfl) rfl ?_
  refine JQ.nil ?_
  refine JQ.n_then ?_
  refine JQ.seq ?_
  refine JQ.seq ?_
  refine JQ.region ?_
  refine JQ.v (JV.move rfl) rfl ?_
  by_cases hs2_1 : Pl.few' ms1
  · refine JQ.v (JV.tt (JV.callM Tryd.call13 (evs_cons rfl evs_nil) (fun w hw => few_spec v1 ms1 (by omega) w (hw.reads (id := 100) rfl))) hs2_1) rfl ?_
    refine JQ.v (JV.notB rfl) rfl ?_
    refine JQ.v (JV.move rfl) rfl ?_
    refine JQ.vg rfl rfl (JV.move rfl) rfl ?_
    by_cases hs2_5 : Pl.few' ms2
    · refine JQ.vg rfl rfl (JV.tt (JV.callM Tryd.call13 (evs_cons rfl evs_nil) (fun w hw => few_spec v2 ms2 (by omega) w (hw.reads (id := 101) rfl))) hs2_5) rfl ?_
      refine JQ.vg rfl rfl (JV.notB rfl) rfl ?_
      refine JQ.v (JV.pickF rfl rfl) rfl ?_
      refine JQ.nil ?_
      refine JQ.n_then ?_
      refine JQ.condF rfl ?_
      refine JQ.skip ?_
      refine JQ.n_then ?_
      refine JQ.seq ?_
      have hf1 := hs2_1.few
      have hf2 := hs2_5.few
      have h112 := hs2_1.1
      have h212 := hs2_5.1
      refine JQ.region ?_
      refine JQ.v (JV.idxArr0 (k := 0) rfl rfl Tryd.runUnderlying48 Tryd.sizeOf5 (by omega)) rfl ?_
      refine JQ.v (JV.load1 1 rfl rfl Tryd.isAgg5 (rfl)) rfl ?_
      refine JQ.v (JV.idxArr0 (k := 1) rfl rfl Tryd.runUnderlying48 Tryd.sizeOf5 (by omega)) rfl ?_
      refine JQ.v (JV.load1 1 rfl rfl Tryd.isAgg5 (rfl)) rfl ?_
      by_cases hs4_4 : c1.toNat = c2.toNat
      · refine JQ.v (JV.tt (JV.eqlN rfl rfl) hs4_4) rfl ?_
        refine JQ.v (JV.move rfl) rfl ?_
        refine JQ.vg rfl rfl (JV.move rfl) rfl ?_
        refine JQ.vg rfl rfl (JV.lenRo 100 rfl rfl Tryd.runUnderlying27) rfl ?_
        refine JQ.vg rfl rfl (JV.move rfl) rfl ?_
        refine JQ.vg rfl rfl (JV.lenRo 101 rfl rfl Tryd.runUnderlying27) rfl ?_
        refine JQ.vg rfl rfl (JV.eqlN rfl rfl) rfl ?_
        refine JQ.v (JV.pickT rfl rfl) rfl ?_
        refine JQ.v (JV.assign rfl) rfl ?_
        refine JQ.nil ?_
        refine JQ.n_then ?_
        refine JQ.seq ?_
        refine JQ.seq ?_
        refine JQ.region ?_
        refine JQ.v (JV.assign rfl) rfl ?_
        refine JQ.nil ?_
        refine JQ.n_then ?_
        refine JQ.block ?_
        refine JQ.loopI (ι := Nat × Bool) (fun i => [(1, v1), (2, v2), (3, .pointer (some ⟨i0_0, 0, none⟩)), (7, .bool true), (8, .bool i.2), (9, .int .i64 ((i.1 : Nat) : Int))]) (fun i => [(1, .cells i0_0 ([c1, c2].map b8) 48 (0, 0)), (901, .ro (gv 1 64) 1 64 (Pl.K.map u32)), (100, .ro v1 1 ms1.length (ms1.map str)), (101, .ro v2 1 ms2.length (ms2.map str))]) (fun i => i.1 ≤ ms1.length ∧ (i.2 = true → c1 = c2 ∧ ms1.length = ms2.length ∧ ms1.take i.1 = ms2.take i.1) ∧ (i.2 = false → ¬ (c1 = c2 ∧ ms1 = ms2))) (fun i => ms1.length - i.1) (0, decide (ms1.length = ms2.length)) ⟨Nat.zero_le _, fun h => ⟨UInt8.toNat_inj.1 hs4_4, of_decide_eq_true h, by simp⟩, fun h h2 => of_decide_eq_false h (by rw [h2.2])⟩ (subk_cons rfl (subk_cons rfl (subk_cons rfl (subk_cons rfl (subk_cons rfl (subk_cons rfl subk_nil)))))) (subr_cons rfl (subr_cons rfl (subr_cons rfl (subr_cons rfl subr_nil)))) ?_
        intro i hi
        have hle := hi.1
        refine JQ.seq ?_
        refine JQ.seq ?_
        refine JQ.region ?_
        refine JQ.v (JV.move rfl) rfl ?_
        refine JQ.v (JV.move rfl) rfl ?_
        refine JQ.v (JV.lenRo 100 rfl rfl Tryd.runUnderlying27) rfl ?_
        by_cases hs6_3 : i.1 < ms1.length
        · refine JQ.v (JV.tt (JV.lssN rfl rfl) hs6_3) rfl ?_
          refine JQ.v (JV.move rfl) rfl ?_
          refine JQ.vg rfl rfl (JV.move rfl) rfl ?_
          refine JQ.v (JV.pickT rfl rfl) rfl ?_
          refine JQ.nil ?_
          refine JQ.n_then ?_
          refine JQ.cond rfl (fun h46 => ?_) (fun h46 => ?_)
          · refine JQ.skip ?_
            refine JQ.n_then ?_
            refine JQ.seq ?_
            refine JQ.block ?_
            obtain ⟨hb1, hb2, hb3⟩ := hi.2.1 h46
            have hlt : i.1 < ms2.length := by omega
            refine JQ.any [_, _, _, _, _, _, _, _, _, _] [fun _ => [], fun _ => [], fun _ => [], fun _ => [], fun _ => [], fun _ => [], fun _ => [], fun _ => [], fun _ => [], fun _ => []] [⟨[], [], [], []⟩, ⟨[], [], [], []⟩, ⟨[100], [], [], [0, 1]⟩, ⟨[100], [], [], [0, 1, 2]⟩, ⟨[], [], [], []⟩, ⟨[], [], [], []⟩, ⟨[101], [], [], [4, 5]⟩, ⟨[101], [], [], [4, 5, 6]⟩, ⟨[], [], [], [0, 1, 2, 3, 4, 5, 6, 7]⟩, ⟨[], [], [], [0, 1, 2, 3, 4, 5, 6, 7, 8]⟩] Tryd.mixed rfl (by kernel_rfl) ⟨Ob.v rfl (fun _ _ h => by cases h) (fun _ _ _ => rfl) (fun e L' hL => JV.move rfl),
                            Ob.v rfl (fun _ _ h => by cases h) (fun _ _ _ => rfl) (fun e L' hL => JV.move rfl),
                            Ob.v rfl (fun _ _ h => by cases h) (fun _ _ _ => rfl) (fun e L' hL => JV.idxRo1 100 rfl rfl ((hL 100 (by decide)).trans rfl) Tryd.runUnderlying27 Tryd.sizeOf9 (by decide) (by omega)),
                            Ob.v rfl (fun _ _ h => by cases h) (fun _ _ _ => rfl) (fun e L' hL => JV.loadR 100 rfl ((hL 100 (by decide)).trans rfl) Tryd.isAgg9 (getS _ _ (by omega))),
                            Ob.v rfl (fun _ _ h => by cases h) (fun _ _ _ => rfl) (fun e L' hL => JV.move rfl),
                            Ob.v rfl (fun _ _ h => by cases h) (fun _ _ _ => rfl) (fun e L' hL => JV.move rfl),
                            Ob.v rfl (fun _ _ h => by cases h) (fun _ _ _ => rfl) (fun e L' hL => JV.idxRo1 101 rfl rfl ((hL 101 (by decide)).trans rfl) Tryd.runUnderlying27 Tryd.sizeOf9 (by decide) (by omega)),
                            Ob.v rfl (fun _ _ h => by cases h) (fun _ _ _ => rfl) (fun e L' hL => JV.loadR 101 rfl ((hL 101 (by decide)).trans rfl) Tryd.isAgg9 (getS _ _ (by omega))),
                            Ob.v rfl (fun _ _ h => by cases h) (fun _ _ _ => rfl) (fun e L' hL => JV.eqlS rfl rfl),
                            Ob.v rfl (fun _ _ h => by cases h) (fun _ _ _ => rfl) (fun e L' hL => JV.assign rfl), trivial⟩ (fun ev8 => ?_)
            simp only [endF, endL, putF, List.nil_append, List.cons_append]
            refine JQ.n_block ?_
            refine JQ.n_then ?_
            refine JQ.region ?_
            refine JQ.v (JV.move rfl) rfl ?_
            refine JQ.v (JV.addN (b := 1) rfl rfl (by omega)) rfl ?_
            refine JQ.v (JV.assign rfl) rfl ?_
            refine JQ.nil ?_
            refine JQ.n_then ?_
            exact JQ.nextI (i.1 + 1, decide (ms1.getD i.1 [] = ms2.getD i.1 [])) (by exact ⟨by show i.1 + 1 ≤ _; omega, fun h => ⟨hb1, hb2, Pl.take_next hs6_3 hlt hb3 (of_decide_eq_true h)⟩, fun h h2 => of_decide_eq_false h (by rw [h2.2])⟩) (by show ms1.length - (i.1 + 1) < ms1.length - i.1; omega) (subk_cons rfl (subk_cons rfl (subk_cons rfl (subk_cons rfl (subk_cons rfl (subk_cons rfl subk_nil)))))) (subr_cons rfl (subr_cons rfl (subr_cons rfl (subr_cons rfl subr_nil))))
          · refine JQ.exit ?_
            refine JQ.e_then ?_
            refine JQ.e_then ?_
            refine JQ.e_here ?_
            refine JQ.n_then ?_
            refine JQ.seq ?_
            refine JQ.region ?_
            refine JQ.v (JV.idxArr0 (k := 0) rfl rfl Tryd.runUnderlying48 Tryd.sizeOf5 (by omega)) rfl ?_
            refine JQ.v (JV.load1 1 rfl rfl Tryd.isAgg5 (rfl)) rfl ?_
            refine JQ.v (JV.convK Tryd.runUnderlying5 Tryd.runUnderlying3 rfl ((wrap_i64 (by have := c1.toNat_lt; omega)))) rfl ?_
            refine JQ.v (JV.move rfl) rfl ?_
            refine JQ.x (JO.callRow 2 Tryd.call23 (evs_cons rfl (evs_cons rfl evs_nil)) (fun w hw => input_spec _ c1 (wrapc c1) v1 ms1 hf1 w (hw.reads (id := 100) rfl))) rfl ?_
            intro i9_4
            refine JQ.v (JV.assign rfl) rfl ?_
            refine JQ.nil ?_
            refine JQ.n_then ?_
            refine JQ.seq ?_
            refine JQ.region ?_
            refine JQ.v (JV.idxArr0 (k := 1) rfl rfl Tryd.runUnderlying48 Tryd.sizeOf5 (by omega)) rfl ?_
            refine JQ.v (JV.load1 1 rfl rfl Tryd.isAgg5 (rfl)) rfl ?_
            refine JQ.v (JV.convK Tryd.runUnderlying5 Tryd.runUnderlying3 rfl ((wrap_i64 (by have := c2.toNat_lt; omega)))) rfl ?_
            refine JQ.v (JV.move rfl) rfl ?_
            refine JQ.x (JO.callRow 3 Tryd.call23 (evs_cons rfl (evs_cons rfl evs_nil)) (fun w hw => input_spec _ c2 (wrapc c2) v2 ms2 hf2 w (hw.reads (id := 101) rfl))) rfl ?_
            intro i10_4
            refine JQ.v (JV.assign rfl) rfl ?_
            refine JQ.nil ?_
            refine JQ.n_then ?_
            refine JQ.seq ?_
            refine JQ.seq ?_
            refine JQ.region ?_
            refine JQ.v (JV.move rfl) rfl ?_
            refine JQ.nil ?_
            refine JQ.n_then ?_
            refine JQ.cond rfl (fun h68 => ?_) (fun h68 => ?_)
            · refine JQ.seq ?_
              have heq : c1 = c2 ∧ ms1 = ms2 := by
                first
                | exact absurd (h46.symm.trans h68) (by decide)
                | (obtain ⟨e1, e2, e3⟩ := hi.2.1 h68; rw [List.take_of_length_le (by omega), List.take_of_length_le (by omega)] at e3; exact ⟨e1, e3⟩)
              refine JQ.region ?_
              refine JQ.v (JV.move rfl) rfl ?_
              refine JQ.v (JV.move rfl) rfl ?_
              refine JQ.vg rfl rfl (JV.move rfl) rfl ?_
              refine JQ.vg rfl rfl (JV.bytesStrW 2 (l := Pl.input c1 ms1) Tryd.runUnderlying22 Tryd.runUnderlying5 Tryd.runUnderlying9 rfl rfl) rfl ?_
              refine JQ.vg rfl rfl (JV.move rfl) rfl ?_
              refine JQ.vg rfl rfl (JV.bytesStrW 3 (l := Pl.input c2 ms2) Tryd.runUnderlying22 Tryd.runUnderlying5 Tryd.runUnderlying9 rfl rfl) rfl ?_
              refine JQ.vg rfl rfl (JV.tt (JV.eqlS rfl rfl) (by rw [heq.1, heq.2])) rfl ?_
              refine JQ.v (JV.pickT rfl rfl) rfl ?_
              refine JQ.v (JV.assign rfl) rfl ?_
              refine JQ.nil ?_
              refine JQ.n_then ?_
              refine JQ.ret ?_
              refine JQ.r_then ?_
              refine JQ.done1 Tryd.results8 rfl ?_
              exact fun w hw => ⟨rfl, hw.below⟩
            · refine JQ.skip ?_
              refine JQ.n_then ?_
              refine JQ.seq ?_
              have hne := hi.2.2 h68
              refine JQ.region ?_
              refine JQ.v (JV.idxArr0 (k := 0) rfl rfl Tryd.runUnderlying48 Tryd.sizeOf5 (by omega)) rfl ?_
              refine JQ.v (JV.load1 1 rfl rfl Tryd.isAgg5 (rfl)) rfl ?_
              refine JQ.v (JV.convK Tryd.runUnderlying5 Tryd.runUnderlying3 rfl ((wrap_i64 (by have := c1.toNat_lt; omega)))) rfl ?_
              refine JQ.v (JV.move rfl) rfl ?_
              refine JQ.v (JV.callM Tryd.call21 (evs_cons rfl (evs_cons rfl evs_nil)) (fun w hw => of_spec _ c1 (wrapc c1) v1 ms1 hf1 w (hw.reads (id := 901) rfl) (hw.reads (id := 100) rfl))) rfl ?_
              refine JQ.x (JO.alloc 4 (zs := ((List.replicate 16 0).map b8)) Tryd.zeroValue44 rfl) rfl ?_
              intro i13_5
              refine JQ.s (JO.storeV 4 rfl rfl rfl (us := (Pl.ofH c1 ms1).map b8) (allB _) Tryd.sizeOf44 (by simp [Pl.ofH_len]) rfl) ?_
              refine JQ.nil ?_
              refine JQ.n_then ?_
              refine JQ.seq ?_
              refine JQ.region ?_
              refine JQ.v (JV.idxArr0 (k := 1) rfl rfl Tryd.runUnderlying48 Tryd.sizeOf5 (by omega)) rfl ?_
              refine JQ.v (JV.load1 1 rfl rfl Tryd.isAgg5 (rfl)) rfl ?_
              refine JQ.v (JV.convK Tryd.runUnderlying5 Tryd.runUnderlying3 rfl ((wrap_i64 (by have := c2.toNat_lt; omega)))) rfl ?_
              refine JQ.v (JV.move rfl) rfl ?_
              refine JQ.v (JV.callM Tryd.call21 (evs_cons rfl (evs_cons rfl evs_nil)) (fun w hw => of_spec _ c2 (wrapc c2) v2 ms2 hf2 w (hw.reads (id := 901) rfl) (hw.reads (id := 101) rfl))) rfl ?_
              refine JQ.x (JO.alloc 5 (zs := ((List.replicate 16 0).map b8)) Tryd.zeroValue44 rfl) rfl ?_
              intro i14_5
              refine JQ.s (JO.storeV 5 rfl rfl rfl (us := (Pl.ofH c2 ms2).map b8) (allB _) Tryd.sizeOf44 (by simp [Pl.ofH_len]) rfl) ?_
              refine JQ.nil ?_
              refine JQ.n_then ?_
              refine JQ.seq ?_
              refine JQ.region ?_
              refine JQ.v (JV.move rfl) rfl ?_
              refine JQ.v (JV.callM Tryd.call11 (evs_cons rfl evs_nil) (fun w hw => hsum_spec _ (Pl.input c1 ms1) (by have := Pl.input_few c1 hf1; omega) w (hw.reads (id := 901) rfl) (hw.readsRow (id := 2) rfl))) rfl ?_
              refine JQ.x (JO.alloc 6 (zs := ((List.replicate 32 0).map b8)) Tryd.zeroValue24 rfl) rfl ?_
              intro i15_2
              refine JQ.s (JO.storeV 6 rfl rfl rfl (us := (Pl.sha (Pl.input c1 ms1)).map b8) (allB _) Tryd.sizeOf24 (by simp [Pl.sha_len]) rfl) ?_
              refine JQ.nil ?_
              refine JQ.n_then ?_
              refine JQ.seq ?_
              refine JQ.region ?_
              refine JQ.v (JV.move rfl) rfl ?_
              refine JQ.v (JV.callM Tryd.call11 (evs_cons rfl evs_nil) (fun w hw => hsum_spec _ (Pl.input c2 ms2) (by have := Pl.input_few c2 hf2; omega) w (hw.reads (id := 901) rfl) (hw.readsRow (id := 3) rfl))) rfl ?_
              refine JQ.x (JO.alloc 7 (zs := ((List.replicate 32 0).map b8)) Tryd.zeroValue24 rfl) rfl ?_
              intro i16_2
              refine JQ.s (JO.storeV 7 rfl rfl rfl (us := (Pl.sha (Pl.input c2 ms2)).map b8) (allB _) Tryd.sizeOf24 (by simp [Pl.sha_len]) rfl) ?_
              refine JQ.nil ?_
              refine JQ.n_then ?_
              refine JQ.seq ?_
              refine JQ.region ?_
              refine JQ.v (JV.assign rfl) rfl ?_
              refine JQ.nil ?_
              refine JQ.n_then ?_
              refine JQ.seq ?_
              refine JQ.seq ?_
              refine JQ.region ?_
              refine JQ.v (JV.assign rfl) rfl ?_
              refine JQ.nil ?_
              refine JQ.n_then ?_
              refine JQ.block ?_
              refine JQ.loopI (ι := Nat × Bool) (fun j => [(7, .bool true), (10, i9_4), (11, i10_4), (12, .pointer (some ⟨i13_5, 0, none⟩)), (13, .pointer (some ⟨i14_5, 0, none⟩)), (14, .pointer (some ⟨i15_2, 0, none⟩)), (15, .pointer (some ⟨i16_2, 0, none⟩)), (16, .bool j.2), (17, .int .i64 ((j.1 : Nat) : Int))]) (fun j => [(2, .row i9_4 5 1 (Pl.input c1 ms1).length ((Pl.input c1 ms1).map b8)), (3, .row i10_4 5 1 (Pl.input c2 ms2).length ((Pl.input c2 ms2).map b8)), (4, .cells i13_5 ((Pl.ofH c1 ms1).map b8) 44 (0, 0)), (5, .cells i14_5 ((Pl.ofH c2 ms2).map b8) 44 (0, 0)), (6, .cells i15_2 ((Pl.sha (Pl.input c1 ms1)).map b8) 24 (0, 0)), (7, .cells i16_2 ((Pl.sha (Pl.input c2 ms2)).map b8) 24 (0, 0))]) (fun j => j.1 ≤ 16 ∧ j.2 = decide ((Pl.sha (Pl.input c1 ms1)).take j.1 = (Pl.sha (Pl.input c2 ms2)).take j.1)) (fun j => 16 - j.1) (0, true) ⟨Nat.zero_le _, by simp⟩ (subk_cons rfl (subk_cons rfl (subk_cons rfl (subk_cons rfl (subk_cons rfl (subk_cons rfl (subk_cons rfl (subk_cons rfl (subk_cons rfl subk_nil))))))))) (subr_cons rfl (subr_cons rfl (subr_cons rfl (subr_cons rfl (subr_cons rfl (subr_cons rfl subr_nil)))))) ?_
              intro j hj
              have hj1 := hj.1
              refine JQ.seq ?_
              refine JQ.seq ?_
              refine JQ.region ?_
              refine JQ.v (JV.move rfl) rfl ?_
              refine JQ.v (JV.lssN (b := 16) rfl rfl) rfl ?_
              refine JQ.nil ?_
              refine JQ.n_then ?_
              refine JQ.condP rfl (fun h92 => ?_) (fun h92 => ?_)
              · refine JQ.skip ?_
                refine JQ.n_then ?_
                refine JQ.seq ?_
                refine JQ.block ?_
                cases hb21 : j.2
                · refine JQ.any [_, _, (fun _ => undef), (fun _ => undef), (fun _ => undef), (fun _ => undef), (fun _ => undef), (fun _ => undef), (fun _ => undef), _, _] [fun _ => [], fun _ => [], (fun _ => []), (fun _ => []), (fun _ => []), (fun _ => []), (fun _ => []), (fun _ => []), (fun _ => []), fun _ => [], fun _ => []] [⟨[], [], [], []⟩, ⟨[], [], [], [0]⟩, ⟨[], [], [], [0, 1]⟩, ⟨[], [], [], [0, 1, 2]⟩, ⟨[], [], [], [0, 1, 2, 3]⟩, ⟨[], [], [], [0, 1]⟩, ⟨[], [], [], [0, 1, 5]⟩, ⟨[], [], [], [0, 1, 5, 6]⟩, ⟨[], [], [], [0, 1, 2, 3, 4, 5, 6, 7]⟩, ⟨[], [], [], [0, 1, 2, 3, 4, 5, 6, 7, 8]⟩, ⟨[], [], [], [0, 1, 2, 3, 4, 5, 6, 7, 8, 9]⟩] Tryd.mixed rfl (by kernel_rfl) ⟨Ob.v rfl (fun _ _ h => by cases h) (fun _ _ _ => rfl) (fun e L' hL => JV.move rfl),
                                        Ob.v rfl (fun _ _ h => by cases h) (fun _ _ _ => rfl) (fun e L' hL => JV.move rfl),
                                        Ob.g0 rfl rfl (fun _ => rfl) rfl (fun _ _ h => by cases h),
                                        Ob.g0 rfl rfl (fun _ => rfl) rfl (fun _ _ h => by cases h),
                                        Ob.g0 rfl rfl (fun _ => rfl) rfl (fun _ _ h => by cases h),
                                        Ob.g0 rfl rfl (fun _ => rfl) rfl (fun _ _ h => by cases h),
                                        Ob.g0 rfl rfl (fun _ => rfl) rfl (fun _ _ h => by cases h),
                                        Ob.g0 rfl rfl (fun _ => rfl) rfl (fun _ _ h => by cases h),
                                        Ob.g0 rfl rfl (fun _ => rfl) rfl (fun _ _ h => by cases h),
                                        Ob.v rfl (fun _ _ h => by cases h) (fun _ _ _ => rfl) (fun e L' hL => JV.pickF rfl rfl),
                                        Ob.v rfl (fun _ _ h => by cases h) (fun _ _ _ => rfl) (fun e L' hL => JV.assign rfl), trivial⟩ (fun ev21 => ?_)
                  simp only [endF, endL, putF, List.nil_append, List.cons_append]
                  refine JQ.n_block ?_
                  refine JQ.n_then ?_
                  refine JQ.region ?_
                  refine JQ.v (JV.move rfl) rfl ?_
                  refine JQ.v (JV.addN (b := 1) rfl rfl (by omega)) rfl ?_
                  refine JQ.v (JV.assign rfl) rfl ?_
                  refine JQ.nil ?_
                  refine JQ.n_then ?_
                  exact JQ.nextI (j.1 + 1, false) (by exact ⟨by show j.1 + 1 ≤ 16; omega, by first | exact (decide_eq_false (Pl.take_ne (of_decide_eq_false (hj.2.symm.trans hb21)))).symm | exact decide_eq_decide.2 (Pl.take_step (by rw [Pl.sha_len]; omega) (by rw [Pl.sha_len]; omega) (of_decide_eq_true (hj.2.symm.trans hb21)))⟩) (by show 16 - (j.1 + 1) < 16 - j.1; omega) (subk_cons rfl (subk_cons rfl (subk_cons rfl (subk_cons rfl (subk_cons rfl (subk_cons rfl (subk_cons rfl (subk_cons rfl (subk_cons rfl subk_nil))))))))) (subr_cons rfl (subr_cons rfl (subr_cons rfl (subr_cons rfl (subr_cons rfl (subr_cons rfl subr_nil))))))
                · refine JQ.any [_, _, _, _, _, _, _, _, _, _, _] [fun _ => [], fun _ => [], fun _ => [], fun _ => [], fun _ => [], fun _ => [], fun _ => [], fun _ => [], fun _ => [], fun _ => [], fun _ => []] [⟨[], [], [], []⟩, ⟨[], [], [], [0]⟩, ⟨[], [], [], [0, 1]⟩, ⟨[], [], [], [0, 1, 2]⟩, ⟨[6], [], [], [0, 1, 2, 3]⟩, ⟨[], [], [], [0, 1]⟩, ⟨[], [], [], [0, 1, 5]⟩, ⟨[7], [], [], [0, 1, 5, 6]⟩, ⟨[], [], [], [0, 1, 2, 3, 4, 5, 6, 7]⟩, ⟨[], [], [], [0, 1, 2, 3, 4, 5, 6, 7, 8]⟩, ⟨[], [], [], [0, 1, 2, 3, 4, 5, 6, 7, 8, 9]⟩] Tryd.mixed rfl (by kernel_rfl) ⟨Ob.v rfl (fun _ _ h => by cases h) (fun _ _ _ => rfl) (fun e L' hL => JV.move rfl),
                                        Ob.v rfl (fun _ _ h => by cases h) (fun _ _ _ => rfl) (fun e L' hL => JV.move rfl),
                                        Ob.vg rfl rfl (fun _ => rfl) (fun _ _ h => by cases h) (fun _ _ _ => rfl) (fun e L' hL => JV.move rfl),
                                        Ob.vg rfl rfl (fun _ => rfl) (fun _ _ h => by cases h) (fun _ _ _ => rfl) (fun e L' hL => JV.idxArr0 rfl rfl Tryd.runUnderlying24 Tryd.sizeOf5 (by omega)),
                                        Ob.vg rfl rfl (fun _ => rfl) (fun _ _ h => by cases h) (fun _ _ _ => rfl) (fun e L' hL => JV.load1 6 rfl ((hL 6 (by decide)).trans rfl) Tryd.isAgg5 (getB _ _ (by rw [Pl.sha_len]; omega))),
                                        Ob.vg rfl rfl (fun _ => rfl) (fun _ _ h => by cases h) (fun _ _ _ => rfl) (fun e L' hL => JV.move rfl),
                                        Ob.vg rfl rfl (fun _ => rfl) (fun _ _ h => by cases h) (fun _ _ _ => rfl) (fun e L' hL => JV.idxArr0 rfl rfl Tryd.runUnderlying24 Tryd.sizeOf5 (by omega)),
                                        Ob.vg rfl rfl (fun _ => rfl) (fun _ _ h => by cases h) (fun _ _ _ => rfl) (fun e L' hL => JV.load1 7 rfl ((hL 7 (by decide)).trans rfl) Tryd.isAgg5 (getB _ _ (by rw [Pl.sha_len]; omega))),
                                        Ob.vg rfl rfl (fun _ => rfl) (fun _ _ h => by cases h) (fun _ _ _ => rfl) (fun e L' hL => JV.eqlN rfl rfl),
                                        Ob.v rfl (fun _ _ h => by cases h) (fun _ _ _ => rfl) (fun e L' hL => JV.pickT rfl rfl),
                                        Ob.v rfl (fun _ _ h => by cases h) (fun _ _ _ => rfl) (fun e L' hL => JV.assign rfl), trivial⟩ (fun ev21 => ?_)
                  simp only [endF, endL, putF, List.nil_append, List.cons_append]
                  refine JQ.n_block ?_
                  refine JQ.n_then ?_
                  refine JQ.region ?_
                  refine JQ.v (JV.move rfl) rfl ?_
                  refine JQ.v (JV.addN (b := 1) rfl rfl (by omega)) rfl ?_
                  refine JQ.v (JV.assign rfl) rfl ?_
                  refine JQ.nil ?_
                  refine JQ.n_then ?_
                  exact JQ.nextI (j.1 + 1, decide (((Pl.sha (Pl.input c1 ms1)).getD j.1 0).toNat = ((Pl.sha (Pl.input c2 ms2)).getD j.1 0).toNat)) (by exact ⟨by show j.1 + 1 ≤ 16; omega, by first | exact (decide_eq_false (Pl.take_ne (of_decide_eq_false (hj.2.symm.trans hb21)))).symm | exact decide_eq_decide.2 (Pl.take_step (by rw [Pl.sha_len]; omega) (by rw [Pl.sha_len]; omega) (of_decide_eq_true (hj.2.symm.trans hb21)))⟩) (by show 16 - (j.1 + 1) < 16 - j.1; omega) (subk_cons rfl (subk_cons rfl (subk_cons rfl (subk_cons rfl (subk_cons rfl (subk_cons rfl (subk_cons rfl (subk_cons rfl (subk_cons rfl subk_nil))))))))) (subr_cons rfl (subr_cons rfl (subr_cons rfl (subr_cons rfl (subr_cons rfl (subr_cons rfl subr_nil))))))
              · refine JQ.exit ?_
                refine JQ.e_then ?_
                refine JQ.e_then ?_
                refine JQ.e_here ?_
                refine JQ.n_then ?_
                refine JQ.seq ?_
                refine JQ.region ?_
                refine JQ.v (JV.move rfl) rfl ?_
                refine JQ.v (JV.move rfl) rfl ?_
                refine JQ.vg rfl rfl (JV.move rfl) rfl ?_
                refine JQ.vg rfl rfl (JV.bytesStrW 2 (l := Pl.input c1 ms1) Tryd.runUnderlying22 Tryd.runUnderlying5 Tryd.runUnderlying9 rfl rfl) rfl ?_
                refine JQ.vg rfl rfl (JV.move rfl) rfl ?_
                refine JQ.vg rfl rfl (JV.bytesStrW 3 (l := Pl.input c2 ms2) Tryd.runUnderlying22 Tryd.runUnderlying5 Tryd.runUnderlying9 rfl rfl) rfl ?_
                refine JQ.vg rfl rfl (JV.tt (JV.neqS rfl rfl) (fun h => hne (Pl.input_inj hf1 hf2 h))) rfl ?_
                refine JQ.v (JV.pickT rfl rfl) rfl ?_
                refine JQ.v (JV.move rfl) rfl ?_
                refine JQ.vg rfl rfl (JV.loadV 4 rfl rfl Tryd.isAgg44 Tryd.sizeOf44 (by simp [Pl.ofH_len])) rfl ?_
                refine JQ.vg rfl rfl (JV.loadV 5 rfl rfl Tryd.isAgg44 Tryd.sizeOf44 (by simp [Pl.ofH_len])) rfl ?_
                refine JQ.vg rfl rfl (JV.eqlBytes (xs := Pl.ofH c1 ms1) (ys := Pl.ofH c2 ms2) rfl rfl Tryd.runUnderlying44 Tryd.underlying5 Tryd.sizeOf5 Tryd.isAgg5 Tryd.eqGuardType44 (Pl.ofH_len _ _) (Pl.ofH_len _ _)) rfl ?_
                refine JQ.vg rfl rfl (JV.move rfl) rfl ?_
                refine JQ.vg rfl rfl (JV.bt (JV.eqlB rfl rfl Tryd.underlying4) (by rw [hj.2, show j.1 = 16 from by omega]; simp [Pl.ofH])) rfl ?_
                refine JQ.v (JV.pickT rfl rfl) rfl ?_
                refine JQ.v (JV.assign rfl) rfl ?_
                refine JQ.nil ?_
                refine JQ.n_then ?_
                refine JQ.ret ?_
                refine JQ.done1 Tryd.results8 rfl ?_
                exact fun w hw => ⟨rfl, hw.below⟩
        · refine JQ.v (JV.ff (JV.lssN rfl rfl) hs6_3) rfl ?_
          refine JQ.v (JV.move rfl) rfl ?_
          refine JQ.g0 rfl rfl rfl rfl ?_
          refine JQ.v (JV.pickF rfl rfl) rfl ?_
          refine JQ.nil ?_
          refine JQ.n_then ?_
          refine JQ.condF rfl ?_
          refine JQ.exit ?_
          refine JQ.e_then ?_
          refine JQ.e_then ?_
          refine JQ.e_here ?_
          refine JQ.n_then ?_
          refine JQ.seq ?_
          refine JQ.region ?_
          refine JQ.v (JV.idxArr0 (k := 0) rfl rfl Tryd.runUnderlying48 Tryd.sizeOf5 (by omega)) rfl ?_
          refine JQ.v (JV.load1 1 rfl rfl Tryd.isAgg5 (rfl)) rfl ?_
          refine JQ.v (JV.convK Tryd.runUnderlying5 Tryd.runUnderlying3 rfl ((wrap_i64 (by have := c1.toNat_lt; omega)))) rfl ?_
          refine JQ.v (JV.move rfl) rfl ?_
          refine JQ.x (JO.callRow 2 Tryd.call23 (evs_cons rfl (evs_cons rfl evs_nil)) (fun w hw => input_spec _ c1 (wrapc c1) v1 ms1 hf1 w (hw.reads (id := 100) rfl))) rfl ?_
          intro i9_4
          refine JQ.v (JV.assign rfl) rfl ?_
          refine JQ.nil ?_
          refine JQ.n_then ?_
          refine JQ.seq ?_
          refine JQ.region ?_
          refine JQ.v (JV.idxArr0 (k := 1) rfl rfl Tryd.runUnderlying48 Tryd.sizeOf5 (by omega)) rfl ?_
          refine JQ.v (JV.load1 1 rfl rfl Tryd.isAgg5 (rfl)) rfl ?_
          refine JQ.v (JV.convK Tryd.runUnderlying5 Tryd.runUnderlying3 rfl ((wrap_i64 (by have := c2.toNat_lt; omega)))) rfl ?_
          refine JQ.v (JV.move rfl) rfl ?_
          refine JQ.x (JO.callRow 3 Tryd.call23 (evs_cons rfl (evs_cons rfl evs_nil)) (fun w hw => input_spec _ c2 (wrapc c2) v2 ms2 hf2 w (hw.reads (id := 101) rfl))) rfl ?_
          intro i10_4
          refine JQ.v (JV.assign rfl) rfl ?_
          refine JQ.nil ?_
          refine JQ.n_then ?_
          refine JQ.seq ?_
          refine JQ.seq ?_
          refine JQ.region ?_
          refine JQ.v (JV.move rfl) rfl ?_
          refine JQ.nil ?_
          refine JQ.n_then ?_
          refine JQ.cond rfl (fun h68 => ?_) (fun h68 => ?_)
          · refine JQ.seq ?_
            have heq : c1 = c2 ∧ ms1 = ms2 := by
              first
              | exact absurd (h46.symm.trans h68) (by decide)
              | (obtain ⟨e1, e2, e3⟩ := hi.2.1 h68; rw [List.take_of_length_le (by omega), List.take_of_length_le (by omega)] at e3; exact ⟨e1, e3⟩)
            refine JQ.region ?_
            refine JQ.v (JV.move rfl) rfl ?_
            refine JQ.v (JV.move rfl) rfl ?_
            refine JQ.vg rfl rfl (JV.move rfl) rfl ?_
            refine JQ.vg rfl rfl (JV.bytesStrW 2 (l := Pl.input c1 ms1) Tryd.runUnderlying22 Tryd.runUnderlying5 Tryd.runUnderlying9 rfl rfl) rfl ?_
            refine JQ.vg rfl rfl (JV.move rfl) rfl ?_
            refine JQ.vg rfl rfl (JV.bytesStrW 3 (l := Pl.input c2 ms2) Tryd.runUnderlying22 Tryd.runUnderlying5 Tryd.runUnderlying9 rfl rfl) rfl ?_
            refine JQ.vg rfl rfl (JV.tt (JV.eqlS rfl rfl) (by rw [heq.1, heq.2])) rfl ?_
            refine JQ.v (JV.pickT rfl rfl) rfl ?_
            refine JQ.v (JV.assign rfl) rfl ?_
            refine JQ.nil ?_
            refine JQ.n_then ?_
            refine JQ.ret ?_
            refine JQ.r_then ?_
            refine JQ.done1 Tryd.results8 rfl ?_
            exact fun w hw => ⟨rfl, hw.below⟩
          · refine JQ.skip ?_
            refine JQ.n_then ?_
            refine JQ.seq ?_
            have hne := hi.2.2 h68
            refine JQ.region ?_
            refine JQ.v (JV.idxArr0 (k := 0) rfl rfl Tryd.runUnderlying48 Tryd.sizeOf5 (by omega)) rfl ?_
            refine JQ.v (JV.load1 1 rfl rfl Tryd.isAgg5 (rfl)) rfl ?_
            refine JQ.v (JV.convK Tryd.runUnderlying5 Tryd.runUnderlying3 rfl ((wrap_i64 (by have := c1.toNat_lt; omega)))) rfl ?_
            refine JQ.v (JV.move rfl) rfl ?_
            refine JQ.v (JV.callM Tryd.call21 (evs_cons rfl (evs_cons rfl evs_nil)) (fun w hw => of_spec _ c1 (wrapc c1) v1 ms1 hf1 w (hw.reads (id := 901) rfl) (hw.reads (id := 100) rfl))) rfl ?_
            refine JQ.x (JO.alloc 4 (zs := ((List.replicate 16 0).map b8)) Tryd.zeroValue44 rfl) rfl ?_
            intro i13_5
            refine JQ.s (JO.storeV 4 rfl rfl rfl (us := (Pl.ofH c1 ms1).map b8) (allB _) Tryd.sizeOf44 (by simp [Pl.ofH_len]) rfl) ?_
            refine JQ.nil ?_
            refine JQ.n_then ?_
            refine JQ.seq ?_
            refine JQ.region ?_
            refine JQ.v (JV.idxArr0 (k := 1) rfl rfl Tryd.runUnderlying48 Tryd.sizeOf5 (by omega)) rfl ?_
            refine JQ.v (JV.load1 1 rfl rfl Tryd.isAgg5 (rfl)) rfl ?_
            refine JQ.v (JV.convK Tryd.runUnderlying5 Tryd.runUnderlying3 rfl ((wrap_i64 (by have := c2.toNat_lt; omega)))) rfl ?_
            refine JQ.v (JV.move rfl) rfl ?_
            refine JQ.v (JV.callM Tryd.call21 (evs_cons rfl (evs_cons rfl evs_nil)) (fun w hw => of_spec _ c2 (wrapc c2) v2 ms2 hf2 w (hw.reads (id := 901) rfl) (hw.reads (id := 101) rfl))) rfl ?_
            refine JQ.x (JO.alloc 5 (zs := ((List.replicate 16 0).map b8)) Tryd.zeroValue44 rfl) rfl ?_
            intro i14_5
            refine JQ.s (JO.storeV 5 rfl rfl rfl (us := (Pl.ofH c2 ms2).map b8) (allB _) Tryd.sizeOf44 (by simp [Pl.ofH_len]) rfl) ?_
            refine JQ.nil ?_
            refine JQ.n_then ?_
            refine JQ.seq ?_
            refine JQ.region ?_
            refine JQ.v (JV.move rfl) rfl ?_
            refine JQ.v (JV.callM Tryd.call11 (evs_cons rfl evs_nil) (fun w hw => hsum_spec _ (Pl.input c1 ms1) (by have := Pl.input_few c1 hf1; omega) w (hw.reads (id := 901) rfl) (hw.readsRow (id := 2) rfl))) rfl ?_
            refine JQ.x (JO.alloc 6 (zs := ((List.replicate 32 0).map b8)) Tryd.zeroValue24 rfl) rfl ?_
            intro i15_2
            refine JQ.s (JO.storeV 6 rfl rfl rfl (us := (Pl.sha (Pl.input c1 ms1)).map b8) (allB _) Tryd.sizeOf24 (by simp [Pl.sha_len]) rfl) ?_
            refine JQ.nil ?_
            refine JQ.n_then ?_
            refine JQ.seq ?_
            refine JQ.region ?_
            refine JQ.v (JV.move rfl) rfl ?_
            refine JQ.v (JV.callM Tryd.call11 (evs_cons rfl evs_nil) (fun w hw => hsum_spec _ (Pl.input c2 ms2) (by have := Pl.input_few c2 hf2; omega) w (hw.reads (id := 901) rfl) (hw.readsRow (id := 3) rfl))) rfl ?_
            refine JQ.x (JO.alloc 7 (zs := ((List.replicate 32 0).map b8)) Tryd.zeroValue24 rfl) rfl ?_
            intro i16_2
            refine JQ.s (JO.storeV 7 rfl rfl rfl (us := (Pl.sha (Pl.input c2 ms2)).map b8) (allB _) Tryd.sizeOf24 (by simp [Pl.sha_len]) rfl) ?_
            refine JQ.nil ?_
            refine JQ.n_then ?_
            refine JQ.seq ?_
            refine JQ.region ?_
            refine JQ.v (JV.assign rfl) rfl ?_
            refine JQ.nil ?_
            refine JQ.n_then ?_
            refine JQ.seq ?_
            refine JQ.seq ?_
            refine JQ.region ?_
            refine JQ.v (JV.assign rfl) rfl ?_
            refine JQ.nil ?_
            refine JQ.n_then ?_
            refine JQ.block ?_
            refine JQ.loopI (ι := Nat × Bool) (fun j => [(7, .bool true), (10, i9_4), (11, i10_4), (12, .pointer (some ⟨i13_5, 0, none⟩)), (13, .pointer (some ⟨i14_5, 0, none⟩)), (14, .pointer (some ⟨i15_2, 0, none⟩)), (15, .pointer (some ⟨i16_2, 0, none⟩)), (16, .bool j.2), (17, .int .i64 ((j.1 : Nat) : Int))]) (fun j => [(2, .row i9_4 5 1 (Pl.input c1 ms1).length ((Pl.input c1 ms1).map b8)), (3, .row i10_4 5 1 (Pl.input c2 ms2).length ((Pl.input c2 ms2).map b8)), (4, .cells i13_5 ((Pl.ofH c1 ms1).map b8) 44 (0, 0)), (5, .cells i14_5 ((Pl.ofH c2 ms2).map b8) 44 (0, 0)), (6, .cells i15_2 ((Pl.sha (Pl.input c1 ms1)).map b8) 24 (0, 0)), (7, .cells i16_2 ((Pl.sha (Pl.input c2 ms2)).map b8) 24 (0, 0))]) (fun j => j.1 ≤ 16 ∧ j.2 = decide ((Pl.sha (Pl.input c1 ms1)).take j.1 = (Pl.sha (Pl.input c2 ms2)).take j.1)) (fun j => 16 - j.1) (0, true) ⟨Nat.zero_le _, by simp⟩ (subk_cons rfl (subk_cons rfl (subk_cons rfl (subk_cons rfl (subk_cons rfl (subk_cons rfl (subk_cons rfl (subk_cons rfl (subk_cons rfl subk_nil))))))))) (subr_cons rfl (subr_cons rfl (subr_cons rfl (subr_cons rfl (subr_cons rfl (subr_cons rfl subr_nil)))))) ?_
            intro j hj
            have hj1 := hj.1
            refine JQ.seq ?_
            refine JQ.seq ?_
            refine JQ.region ?_
            refine JQ.v (JV.move rfl) rfl ?_
            refine JQ.v (JV.lssN (b := 16) rfl rfl) rfl ?_
            refine JQ.nil ?_
            refine JQ.n_then ?_
            refine JQ.condP rfl (fun h92 => ?_) (fun h92 => ?_)
            · refine JQ.skip ?_
              refine JQ.n_then ?_
              refine JQ.seq ?_
              refine JQ.block ?_
              cases hb21 : j.2
              · refine JQ.any [_, _, (fun _ => undef), (fun _ => undef), (fun _ => undef), (fun _ => undef), (fun _ => undef), (fun _ => undef), (fun _ => undef), _, _] [fun _ => [], fun _ => [], (fun _ => []), (fun _ => []), (fun _ => []), (fun _ => []), (fun _ => []), (fun _ => []), (fun _ => []), fun _ => [], fun _ => []] [⟨[], [], [], []⟩, ⟨[], [], [], [0]⟩, ⟨[], [], [], [0, 1]⟩, ⟨[], [], [], [0, 1, 2]⟩, ⟨[], [], [], [0, 1, 2, 3]⟩, ⟨[], [], [], [0, 1]⟩, ⟨[], [], [], [0, 1, 5]⟩, ⟨[], [], [], [0, 1, 5, 6]⟩, ⟨[], [], [], [0, 1, 2, 3, 4, 5, 6, 7]⟩, ⟨[], [], [], [0, 1, 2, 3, 4, 5, 6, 7, 8]⟩, ⟨[], [], [], [0, 1, 2, 3, 4, 5, 6, 7, 8, 9]⟩] Tryd.mixed rfl (by kernel_rfl) ⟨Ob.v rfl (fun _ _ h => by cases h) (fun _ _ _ => rfl) (fun e L' hL => JV.move rfl),
                                    Ob.v rfl (fun _ _ h => by cases h) (fun _ _ _ => rfl) (fun e L' hL => JV.move rfl),
                                    Ob.g0 rfl rfl (fun _ => rfl) rfl (fun _ _ h => by cases h),
                                    Ob.g0 rfl rfl (fun _ => rfl) rfl (fun _ _ h => by cases h),
                                    Ob.g0 rfl rfl (fun _ => rfl) rfl (fun _ _ h => by cases h),
                                    Ob.g0 rfl rfl (fun _ => rfl) rfl (fun _ _ h => by cases h),
                                    Ob.g0 rfl rfl (fun _ => rfl) rfl (fun _ _ h => by cases h),
                                    Ob.g0 rfl rfl (fun _ => rfl) rfl (fun _ _ h => by cases h),
                                    Ob.g0 rfl rfl (fun _ => rfl) rfl (fun _ _ h => by cases h),
                                    Ob.v rfl (fun _ _ h => by cases h) (fun _ _ _ => rfl) (fun e L' hL => JV.pickF rfl rfl),
                                    Ob.v rfl (fun _ _ h => by cases h) (fun _ _ _ => rfl) (fun e L' hL => JV.assign rfl), trivial⟩ (fun ev21 => ?_)
                simp only [endF, endL, putF, List.nil_append, List.cons_append]
                refine JQ.n_block ?_
                refine JQ.n_then ?_
                refine JQ.region ?_
                refine JQ.v (JV.move rfl) rfl ?_
                refine JQ.v (JV.addN (b := 1) rfl rfl (by omega)) rfl ?_
                refine JQ.v (JV.assign rfl) rfl ?_
                refine JQ.nil ?_
                refine JQ.n_then ?_
                exact JQ.nextI (j.1 + 1, false) (by exact ⟨by show j.1 + 1 ≤ 16; omega, by first | exact (decide_eq_false (Pl.take_ne (of_decide_eq_false (hj.2.symm.trans hb21)))).symm | exact decide_eq_decide.2 (Pl.take_step (by rw [Pl.sha_len]; omega) (by rw [Pl.sha_len]; omega) (of_decide_eq_true (hj.2.symm.trans hb21)))⟩) (by show 16 - (j.1 + 1) < 16 - j.1; omega) (subk_cons rfl (subk_cons rfl (subk_cons rfl (subk_cons rfl (subk_cons rfl (subk_cons rfl (subk_cons rfl (subk_cons rfl (subk_cons rfl subk_nil))))))))) (subr_cons rfl (subr_cons rfl (subr_cons rfl (subr_cons rfl (subr_cons rfl (subr_cons rfl subr_nil))))))
              · refine JQ.any [_, _, _, _, _, _, _, _, _, _, _] [fun _ => [], fun _ => [], fun _ => [], fun _ => [], fun _ => [], fun _ => [], fun _ => [], fun _ => [], fun _ => [], fun _ => [], fun _ => []] [⟨[], [], [], []⟩, ⟨[], [], [], [0]⟩, ⟨[], [], [], [0, 1]⟩, ⟨[], [], [], [0, 1, 2]⟩, ⟨[6], [], [], [0, 1, 2, 3]⟩, ⟨[], [], [], [0, 1]⟩, ⟨[], [], [], [0, 1, 5]⟩, ⟨[7], [], [], [0, 1, 5, 6]⟩, ⟨[], [], [], [0, 1, 2, 3, 4, 5, 6, 7]⟩, ⟨[], [], [], [0, 1, 2, 3, 4, 5, 6, 7, 8]⟩, ⟨[], [], [], [0, 1, 2, 3, 4, 5, 6, 7, 8, 9]⟩] Tryd.mixed rfl (by kernel_rfl) ⟨Ob.v rfl (fun _ _ h => by cases h) (fun _ _ _ => rfl) (fun e L' hL => JV.move rfl),
                                    Ob.v rfl (fun _ _ h => by cases h) (fun _ _ _ => rfl) (fun e L' hL => JV.move rfl),
                                    Ob.vg rfl rfl (fun _ => rfl) (fun _ _ h => by cases h) (fun _ _ _ => rfl) (fun e L' hL => JV.move rfl),
                                    Ob.vg rfl rfl (fun _ => rfl) (fun _ _ h => by cases h) (fun _ _ _ => rfl) (fun e L' hL => JV.idxArr0 rfl rfl Tryd.runUnderlying24 Tryd.sizeOf5 (by omega)),
                                    Ob.vg rfl rfl (fun _ => rfl) (fun _ _ h => by cases h) (fun _ _ _ => rfl) (fun e L' hL => JV.load1 6 rfl ((hL 6 (by decide)).trans rfl) Tryd.isAgg5 (getB _ _ (by rw [Pl.sha_len]; omega))),
                                    Ob.vg rfl rfl (fun _ => rfl) (fun _ _ h => by cases h) (fun _ _ _ => rfl) (fun e L' hL => JV.move rfl),
                                    Ob.vg rfl rfl (fun _ => rfl) (fun _ _ h => by cases h) (fun _ _ _ => rfl) (fun e L' hL => JV.idxArr0 rfl rfl Tryd.runUnderlying24 Tryd.sizeOf5 (by omega)),
                                    Ob.vg rfl rfl (fun _ => rfl) (fun _ _ h => by cases h) (fun _ _ _ => rfl) (fun e L' hL => JV.load1 7 rfl ((hL 7 (by decide)).trans rfl) Tryd.isAgg5 (getB _ _ (by rw [Pl.sha_len]; omega))),
                                    Ob.vg rfl rfl (fun _ => rfl) (fun _ _ h => by cases h) (fun _ _ _ => rfl) (fun e L' hL => JV.eqlN rfl rfl),
                                    Ob.v rfl (fun _ _ h => by cases h) (fun _ _ _ => rfl) (fun e L' hL => JV.pickT rfl rfl),
                                    Ob.v rfl (fun _ _ h => by cases h) (fun _ _ _ => rfl) (fun e L' hL => JV.assign rfl), trivial⟩ (fun ev21 => ?_)
                simp only [endF, endL, putF, List.nil_append, List.cons_append]
                refine JQ.n_block ?_
                refine JQ.n_then ?_
                refine JQ.region ?_
                refine JQ.v (JV.move rfl) rfl ?_
                refine JQ.v (JV.addN (b := 1) rfl rfl (by omega)) rfl ?_
                refine JQ.v (JV.assign rfl) rfl ?_
                refine JQ.nil ?_
                refine JQ.n_then ?_
                exact JQ.nextI (j.1 + 1, decide (((Pl.sha (Pl.input c1 ms1)).getD j.1 0).toNat = ((Pl.sha (Pl.input c2 ms2)).getD j.1 0).toNat)) (by exact ⟨by show j.1 + 1 ≤ 16; omega, by first | exact (decide_eq_false (Pl.take_ne (of_decide_eq_false (hj.2.symm.trans hb21)))).symm | exact decide_eq_decide.2 (Pl.take_step (by rw [Pl.sha_len]; omega) (by rw [Pl.sha_len]; omega) (of_decide_eq_true (hj.2.symm.trans hb21)))⟩) (by show 16 - (j.1 + 1) < 16 - j.1; omega) (subk_cons rfl (subk_cons rfl (subk_cons rfl (subk_cons rfl (subk_cons rfl (subk_cons rfl (subk_cons rfl (subk_cons rfl (subk_cons rfl subk_nil))))))))) (subr_cons rfl (subr_cons rfl (subr_cons rfl (subr_cons rfl (subr_cons rfl (subr_cons rfl subr_nil))))))
            · refine JQ.exit ?_
              refine JQ.e_then ?_
              refine JQ.e_then ?_
              refine JQ.e_here ?_
              refine JQ.n_then ?_
              refine JQ.seq ?_
              refine JQ.region ?_
              refine JQ.v (JV.move rfl) rfl ?_
              refine JQ.v (JV.move rfl) rfl ?_
              refine JQ.vg rfl rfl (JV.move rfl) rfl ?_
              refine JQ.vg rfl rfl (JV.bytesStrW 2 (l := Pl.input c1 ms1) Tryd.runUnderlying22 Tryd.runUnderlying5 Tryd.runUnderlying9 rfl rfl) rfl ?_
              refine JQ.vg rfl rfl (JV.move rfl) rfl ?_
              refine JQ.vg rfl rfl (JV.bytesStrW 3 (l := Pl.input c2 ms2) Tryd.runUnderlying22 Tryd.runUnderlying5 Tryd.runUnderlying9 rfl rfl) rfl ?_
              refine JQ.vg rfl rfl (JV.tt (JV.neqS rfl rfl) (fun h => hne (Pl.input_inj hf1 hf2 h))) rfl ?_
              refine JQ.v (JV.pickT rfl rfl) rfl ?_
              refine JQ.v (JV.move rfl) rfl ?_
              refine JQ.vg rfl rfl (JV.loadV 4 rfl rfl Tryd.isAgg44 Tryd.sizeOf44 (by simp [Pl.ofH_len])) rfl ?_
              refine JQ.vg rfl rfl (JV.loadV 5 rfl rfl Tryd.isAgg44 Tryd.sizeOf44 (by simp [Pl.ofH_len])) rfl ?_
              refine JQ.vg rfl rfl (JV.eqlBytes (xs := Pl.ofH c1 ms1) (ys := Pl.ofH c2 ms2) rfl rfl Tryd.runUnderlying44 Tryd.underlying5 Tryd.sizeOf5 Tryd.isAgg5 Tryd.eqGuardType44 (Pl.ofH_len _ _) (Pl.ofH_len _ _)) rfl ?_
              refine JQ.vg rfl rfl (JV.move rfl) rfl ?_
              refine JQ.vg rfl rfl (JV.bt (JV.eqlB rfl rfl Tryd.underlying4) (by rw [hj.2, show j.1 = 16 from by omega]; simp [Pl.ofH])) rfl ?_
              refine JQ.v (JV.pickT rfl rfl) rfl ?_
              refine JQ.v (JV.assign rfl) rfl ?_
              refine JQ.nil ?_
              refine JQ.n_then ?_
              refine JQ.ret ?_
              refine JQ.done1 Tryd.results8 rfl ?_
              exact fun w hw => ⟨rfl, hw.below⟩
      · refine JQ.v (JV.ff (JV.eqlN rfl rfl) hs4_4) rfl ?_
        refine JQ.v (JV.move rfl) rfl ?_
        refine JQ.g0 rfl rfl rfl rfl ?_
        refine JQ.g0 rfl rfl rfl rfl ?_
        refine JQ.g0 rfl rfl rfl rfl ?_
        refine JQ.g0 rfl rfl rfl rfl ?_
        refine JQ.g0 rfl rfl rfl rfl ?_
        refine JQ.v (JV.pickF rfl rfl) rfl ?_
        refine JQ.v (JV.assign rfl) rfl ?_
        refine JQ.nil ?_
        refine JQ.n_then ?_
        refine JQ.seq ?_
        refine JQ.seq ?_
        refine JQ.region ?_
        refine JQ.v (JV.assign rfl) rfl ?_
        refine JQ.nil ?_
        refine JQ.n_then ?_
        refine JQ.block ?_
        refine JQ.loopI (ι := Nat × Bool) (fun i => [(1, v1), (2, v2), (3, .pointer (some ⟨i0_0, 0, none⟩)), (7, .bool true), (8, .bool i.2), (9, .int .i64 ((i.1 : Nat) : Int))]) (fun i => [(1, .cells i0_0 ([c1, c2].map b8) 48 (0, 0)), (901, .ro (gv 1 64) 1 64 (Pl.K.map u32)), (100, .ro v1 1 ms1.length (ms1.map str)), (101, .ro v2 1 ms2.length (ms2.map str))]) (fun i => i.1 ≤ ms1.length ∧ (i.2 = true → c1 = c2 ∧ ms1.length = ms2.length ∧ ms1.take i.1 = ms2.take i.1) ∧ (i.2 = false → ¬ (c1 = c2 ∧ ms1 = ms2))) (fun i => ms1.length - i.1) (0, false) ⟨Nat.zero_le _, (fun h => by cases h), fun _ h2 => hs4_4 (by rw [h2.1])⟩ (subk_cons rfl (subk_cons rfl (subk_cons rfl (subk_cons rfl (subk_cons rfl (subk_cons rfl subk_nil)))))) (subr_cons rfl (subr_cons rfl (subr_cons rfl (subr_cons rfl subr_nil)))) ?_
        intro i hi
        have hle := hi.1
        refine JQ.seq ?_
        refine JQ.seq ?_
        refine JQ.region ?_
        refine JQ.v (JV.move rfl) rfl ?_
        refine JQ.v (JV.move rfl) rfl ?_
        refine JQ.v (JV.lenRo 100 rfl rfl Tryd.runUnderlying27) rfl ?_
        by_cases hs6_3 : i.1 < ms1.length
        · refine JQ.v (JV.tt (JV.lssN rfl rfl) hs6_3) rfl ?_
          refine JQ.v (JV.move rfl) rfl ?_
          refine JQ.vg rfl rfl (JV.move rfl) rfl ?_
          refine JQ.v (JV.pickT rfl rfl) rfl ?_
          refine JQ.nil ?_
          refine JQ.n_then ?_
          refine JQ.cond rfl (fun h46 => ?_) (fun h46 => ?_)
          · refine JQ.skip ?_
            refine JQ.n_then ?_
            refine JQ.seq ?_
            refine JQ.block ?_
            obtain ⟨hb1, hb2, hb3⟩ := hi.2.1 h46
            have hlt : i.1 < ms2.length := by omega
            refine JQ.any [_, _, _, _, _, _, _, _, _, _] [fun _ => [], fun _ => [], fun _ => [], fun _ => [], fun _ => [], fun _ => [], fun _ => [], fun _ => [], fun _ => [], fun _ => []] [⟨[], [], [], []⟩, ⟨[], [], [], []⟩, ⟨[100], [], [], [0, 1]⟩, ⟨[100], [], [], [0, 1, 2]⟩, ⟨[], [], [], []⟩, ⟨[], [], [], []⟩, ⟨[101], [], [], [4, 5]⟩, ⟨[101], [], [], [4, 5, 6]⟩, ⟨[], [], [], [0, 1, 2, 3, 4, 5, 6, 7]⟩, ⟨[], [], [], [0, 1, 2, 3, 4, 5, 6, 7, 8]⟩] Tryd.mixed rfl (by kernel_rfl) ⟨Ob.v rfl (fun _ _ h => by cases h) (fun _ _ _ => rfl) (fun e L' hL => JV.move rfl),
                            Ob.v rfl (fun _ _ h => by cases h) (fun _ _ _ => rfl) (fun e L' hL => JV.move rfl),
                            Ob.v rfl (fun _ _ h => by cases h) (fun _ _ _ => rfl) (fun e L' hL => JV.idxRo1 100 rfl rfl ((hL 100 (by decide)).trans rfl) Tryd.runUnderlying27 Tryd.sizeOf9 (by decide) (by omega)),
                            Ob.v rfl (fun _ _ h => by cases h) (fun _ _ _ => rfl) (fun e L' hL => JV.loadR 100 rfl ((hL 100 (by decide)).trans rfl) Tryd.isAgg9 (getS _ _ (by omega))),
                            Ob.v rfl (fun _ _ h => by cases h) (fun _ _ _ => rfl) (fun e L' hL => JV.move rfl),
                            Ob.v rfl (fun _ _ h => by cases h) (fun _ _ _ => rfl) (fun e L' hL => JV.move rfl),
                            Ob.v rfl (fun _ _ h => by cases h) (fun _ _ _ => rfl) (fun e L' hL => JV.idxRo1 101 rfl rfl ((hL 101 (by decide)).trans rfl) Tryd.runUnderlying27 Tryd.sizeOf9 (by decide) (by omega)),
                            Ob.v rfl (fun _ _ h => by cases h) (fun _ _ _ => rfl) (fun e L' hL => JV.loadR 101 rfl ((hL 101 (by decide)).trans rfl) Tryd.isAgg9 (getS _ _ (by omega))),
                            Ob.v rfl (fun _ _ h => by cases h) (fun _ _ _ => rfl) (fun e L' hL => JV.eqlS rfl rfl),
                            Ob.v rfl (fun _ _ h => by cases h) (fun _ _ _ => rfl) (fun e L' hL => JV.assign rfl), trivial⟩ (fun ev8 => ?_)
            simp only [endF, endL, putF, List.nil_append, List.cons_append]
            refine JQ.n_block ?_
            refine JQ.n_then ?_
            refine JQ.region ?_
            refine JQ.v (JV.move rfl) rfl ?_
            refine JQ.v (JV.addN (b := 1) rfl rfl (by omega)) rfl ?_
            refine JQ.v (JV.assign rfl) rfl ?_
            refine JQ.nil ?_
            refine JQ.n_then ?_
            exact JQ.nextI (i.1 + 1, decide (ms1.getD i.1 [] = ms2.getD i.1 [])) (by exact ⟨by show i.1 + 1 ≤ _; omega, fun h => ⟨hb1, hb2, Pl.take_next hs6_3 hlt hb3 (of_decide_eq_true h)⟩, fun h h2 => of_decide_eq_false h (by rw [h2.2])⟩) (by show ms1.length - (i.1 + 1) < ms1.length - i.1; omega) (subk_cons rfl (subk_cons rfl (subk_cons rfl (subk_cons rfl (subk_cons rfl (subk_cons rfl subk_nil)))))) (subr_cons rfl (subr_cons rfl (subr_cons rfl (subr_cons rfl subr_nil))))
          · refine JQ.exit ?_
            refine JQ.e_then ?_
            refine JQ.e_then ?_
            refine JQ.e_here ?_
            refine JQ.n_then ?_
            refine JQ.seq ?_
            refine JQ.region ?_
            refine JQ.v (JV.idxArr0 (k := 0) rfl rfl Tryd.runUnderlying48 Tryd.sizeOf5 (by omega)) rfl ?_
            refine JQ.v (JV.load1 1 rfl rfl Tryd.isAgg5 (rfl)) rfl ?_
            refine JQ.v (JV.convK Tryd.runUnderlying5 Tryd.runUnderlying3 rfl ((wrap_i64 (by have := c1.toNat_lt; omega)))) rfl ?_
            refine JQ.v (JV.move rfl) rfl ?_
            refine JQ.x (JO.callRow 2 Tryd.call23 (evs_cons rfl (evs_cons rfl evs_nil)) (fun w hw => input_spec _ c1 (wrapc c1) v1 ms1 hf1 w (hw.reads (id := 100) rfl))) rfl ?_
            intro i9_4
            refine JQ.v (JV.assign rfl) rfl ?_
            refine JQ.nil ?_
            refine JQ.n_then ?_
            refine JQ.seq ?_
            refine JQ.region ?_
            refine JQ.v (JV.idxArr0 (k := 1) rfl rfl Tryd.runUnderlying48 Tryd.sizeOf5 (by omega)) rfl ?_
            refine JQ.v (JV.load1 1 rfl rfl Tryd.isAgg5 (rfl)) rfl ?_
            refine JQ.v (JV.convK Tryd.runUnderlying5 Tryd.runUnderlying3 rfl ((wrap_i64 (by have := c2.toNat_lt; omega)))) rfl ?_
            refine JQ.v (JV.move rfl) rfl ?_
            refine JQ.x (JO.callRow 3 Tryd.call23 (evs_cons rfl (evs_cons rfl evs_nil)) (fun w hw => input_spec _ c2 (wrapc c2) v2 ms2 hf2 w (hw.reads (id := 101) rfl))) rfl ?_
            intro i10_4
            refine JQ.v (JV.assign rfl) rfl ?_
            refine JQ.nil ?_
            refine JQ.n_then ?_
            refine JQ.seq ?_
            refine JQ.seq ?_
            refine JQ.region ?_
            refine JQ.v (JV.move rfl) rfl ?_
            refine JQ.nil ?_
            refine JQ.n_then ?_
            refine JQ.cond rfl (fun h68 => ?_) (fun h68 => ?_)
            · refine JQ.seq ?_
              have heq : c1 = c2 ∧ ms1 = ms2 := by
                first
                | exact absurd (h46.symm.trans h68) (by decide)
                | (obtain ⟨e1, e2, e3⟩ := hi.2.1 h68; rw [List.take_of_length_le (by omega), List.take_of_length_le (by omega)] at e3; exact ⟨e1, e3⟩)
              refine JQ.region ?_
              refine JQ.v (JV.move rfl) rfl ?_
              refine JQ.v (JV.move rfl) rfl ?_
              refine JQ.vg rfl rfl (JV.move rfl) rfl ?_
              refine JQ.vg rfl rfl (JV.bytesStrW 2 (l := Pl.input c1 ms1) Tryd.runUnderlying22 Tryd.runUnderlying5 Tryd.runUnderlying9 rfl rfl) rfl ?_
              refine JQ.vg rfl rfl (JV.move rfl) rfl ?_
              refine JQ.vg rfl rfl (JV.bytesStrW 3 (l := Pl.input c2 ms2) Tryd.runUnderlying22 Tryd.runUnderlying5 Tryd.runUnderlying9 rfl rfl) rfl ?_
              refine JQ.vg rfl rfl (JV.tt (JV.eqlS rfl rfl) (by rw [heq.1, heq.2])) rfl ?_
              refine JQ.v (JV.pickT rfl rfl) rfl ?_
              refine JQ.v (JV.assign rfl) rfl ?_
              refine JQ.nil ?_
              refine JQ.n_then ?_
              refine JQ.ret ?_
              refine JQ.r_then ?_
              refine JQ.done1 Tryd.results8 rfl ?_
              exact fun w hw => ⟨rfl, hw.below⟩
            · refine JQ.skip ?_
              refine JQ.n_then ?_
              refine JQ.seq ?_
              have hne := hi.2.2 h68
              refine JQ.region ?_
              refine JQ.v (JV.idxArr0 (k := 0) rfl rfl Tryd.runUnderlying48 Tryd.sizeOf5 (by omega)) rfl ?_
              refine JQ.v (JV.load1 1 rfl rfl Tryd.isAgg5 (rfl)) rfl ?_
              refine JQ.v (JV.convK Tryd.runUnderlying5 Tryd.runUnderlying3 rfl ((wrap_i64 (by have := c1.toNat_lt; omega)))) rfl ?_
              refine JQ.v (JV.move rfl) rfl ?_
              refine JQ.v (JV.callM Tryd.call21 (evs_cons rfl (evs_cons rfl evs_nil)) (fun w hw => of_spec _ c1 (wrapc c1) v1 ms1 hf1 w (hw.reads (id := 901) rfl) (hw.reads (id := 100) rfl))) rfl ?_
              refine JQ.x (JO.alloc 4 (zs := ((List.replicate 16 0).map b8)) Tryd.zeroValue44 rfl) rfl ?_
              intro i13_5
              refine JQ.s (JO.storeV 4 rfl rfl rfl (us := (Pl.ofH c1 ms1).map b8) (allB _) Tryd.sizeOf44 (by simp [Pl.ofH_len]) rfl) ?_
              refine JQ.nil ?_
              refine JQ.n_then ?_
              refine JQ.seq ?_
              refine JQ.region ?_
              refine JQ.v (JV.idxArr0 (k := 1) rfl rfl Tryd.runUnderlying48 Tryd.sizeOf5 (by omega)) rfl ?_
              refine JQ.v (JV.load1 1 rfl rfl Tryd.isAgg5 (rfl)) rfl ?_
              refine JQ.v (JV.convK Tryd.runUnderlying5 Tryd.runUnderlying3 rfl ((wrap_i64 (by have := c2.toNat_lt; omega)))) rfl ?_
              refine JQ.v (JV.move rfl) rfl ?_
              refine JQ.v (JV.callM Tryd.call21 (evs_cons rfl (evs_cons rfl evs_nil)) (fun w hw => of_spec _ c2 (wrapc c2) v2 ms2 hf2 w (hw.reads (id := 901) rfl) (hw.reads (id := 101) rfl))) rfl ?_
              refine JQ.x (JO.alloc 5 (zs := ((List.replicate 16 0).map b8)) Tryd.zeroValue44 rfl) rfl ?_
              intro i14_5
              refine JQ.s (JO.storeV 5 rfl rfl rfl (us := (Pl.ofH c2 ms2).map b8) (allB _) Tryd.sizeOf44 (by simp [Pl.ofH_len]) rfl) ?_
              refine JQ.nil ?_
              refine JQ.n_then ?_
              refine JQ.seq ?_
              refine JQ.region ?_
              refine JQ.v (JV.move rfl) rfl ?_
              refine JQ.v (JV.callM Tryd.call11 (evs_cons rfl evs_nil) (fun w hw => hsum_spec _ (Pl.input c1 ms1) (by have := Pl.input_few c1 hf1; omega) w (hw.reads (id := 901) rfl) (hw.readsRow (id := 2) rfl))) rfl ?_
              refine JQ.x (JO.alloc 6 (zs := ((List.replicate 32 0).map b8)) Tryd.zeroValue24 rfl) rfl ?_
              intro i15_2
              refine JQ.s (JO.storeV 6 rfl rfl rfl (us := (Pl.sha (Pl.input c1 ms1)).map b8) (allB _) Tryd.sizeOf24 (by simp [Pl.sha_len]) rfl) ?_
              refine JQ.nil ?_
              refine JQ.n_then ?_
              refine JQ.seq ?_
              refine JQ.region ?_
              refine JQ.v (JV.move rfl) rfl ?_
              refine JQ.v (JV.callM Tryd.call11 (evs_cons rfl evs_nil) (fun w hw => hsum_spec _ (Pl.input c2 ms2) (by have := Pl.input_few c2 hf2; omega) w (hw.reads (id := 901) rfl) (hw.readsRow (id := 3) rfl))) rfl ?_
              refine JQ.x (JO.alloc 7 (zs := ((List.replicate 32 0).map b8)) Tryd.zeroValue24 rfl) rfl ?_
              intro i16_2
              refine JQ.s (JO.storeV 7 rfl rfl rfl (us := (Pl.sha (Pl.input c2 ms2)).map b8) (allB _) Tryd.sizeOf24 (by simp [Pl.sha_len]) rfl) ?_
              refine JQ.nil ?_
              refine JQ.n_then ?_
              refine JQ.seq ?_
              refine JQ.region ?_
              refine JQ.v (JV.assign rfl) rfl ?_
              refine JQ.nil ?_
              refine JQ.n_then ?_
              refine JQ.seq ?_
              refine JQ.seq ?_
              refine JQ.region ?_
              refine JQ.v (JV.assign rfl) rfl ?_
              refine JQ.nil ?_
              refine JQ.n_then ?_
              refine JQ.block ?_
              refine JQ.loopI (ι := Nat × Bool) (fun j => [(7, .bool true), (10, i9_4), (11, i10_4), (12, .pointer (some ⟨i13_5, 0, none⟩)), (13, .pointer (some ⟨i14_5, 0, none⟩)), (14, .pointer (some ⟨i15_2, 0, none⟩)), (15, .pointer (some ⟨i16_2, 0, none⟩)), (16, .bool j.2), (17, .int .i64 ((j.1 : Nat) : Int))]) (fun j => [(2, .row i9_4 5 1 (Pl.input c1 ms1).length ((Pl.input c1 ms1).map b8)), (3, .row i10_4 5 1 (Pl.input c2 ms2).length ((Pl.input c2 ms2).map b8)), (4, .cells i13_5 ((Pl.ofH c1 ms1).map b8) 44 (0, 0)), (5, .cells i14_5 ((Pl.ofH c2 ms2).map b8) 44 (0, 0)), (6, .cells i15_2 ((Pl.sha (Pl.input c1 ms1)).map b8) 24 (0, 0)), (7, .cells i16_2 ((Pl.sha (Pl.input c2 ms2)).map b8) 24 (0, 0))]) (fun j => j.1 ≤ 16 ∧ j.2 = decide ((Pl.sha (Pl.input c1 ms1)).take j.1 = (Pl.sha (Pl.input c2 ms2)).take j.1)) (fun j => 16 - j.1) (0, true) ⟨Nat.zero_le _, by simp⟩ (subk_cons rfl (subk_cons rfl (subk_cons rfl (subk_cons rfl (subk_cons rfl (subk_cons rfl (subk_cons rfl (subk_cons rfl (subk_cons rfl subk_nil))))))))) (subr_cons rfl (subr_cons rfl (subr_cons rfl (subr_cons rfl (subr_cons rfl (subr_cons rfl subr_nil)))))) ?_
              intro j hj
              have hj1 := hj.1
              refine JQ.seq ?_
              refine JQ.seq ?_
              refine JQ.region ?_
              refine JQ.v (JV.move rfl) rfl ?_
              refine JQ.v (JV.lssN (b := 16) rfl rfl) rfl ?_
              refine JQ.nil ?_
              refine JQ.n_then ?_
              refine JQ.condP rfl (fun h92 => ?_) (fun h92 => ?_)
              · refine JQ.skip ?_
                refine JQ.n_then ?_
                refine JQ.seq ?_
                refine JQ.block ?_
                cases hb21 : j.2
                · refine JQ.any [_, _, (fun _ => undef), (fun _ => undef), (fun _ => undef), (fun _ => undef), (fun _ => undef), (fun _ => undef), (fun _ => undef), _, _] [fun _ => [], fun _ => [], (fun _ => []), (fun _ => []), (fun _ => []), (fun _ => []), (fun _ => []), (fun _ => []), (fun _ => []), fun _ => [], fun _ => []] [⟨[], [], [], []⟩, ⟨[], [], [], [0]⟩, ⟨[], [], [], [0, 1]⟩, ⟨[], [], [], [0, 1, 2]⟩, ⟨[], [], [], [0, 1, 2, 3]⟩, ⟨[], [], [], [0, 1]⟩, ⟨[], [], [], [0, 1, 5]⟩, ⟨[], [], [], [0, 1, 5, 6]⟩, ⟨[], [], [], [0, 1, 2, 3, 4, 5, 6, 7]⟩, ⟨[], [], [], [0, 1, 2, 3, 4, 5, 6, 7, 8]⟩, ⟨[], [], [], [0, 1, 2, 3, 4, 5, 6, 7, 8, 9]⟩] Tryd.mixed rfl (by kernel_rfl) ⟨Ob.v rfl (fun _ _ h => by cases h) (fun _ _ _ => rfl) (fun e L' hL => JV.move rfl),
                                        Ob.v rfl (fun _ _ h => by cases h) (fun _ _ _ => rfl) (fun e L' hL => JV.move rfl),
                                        Ob.g0 rfl rfl (fun _ => rfl) rfl (fun _ _ h => by cases h),
                                        Ob.g0 rfl rfl (fun _ => rfl) rfl (fun _ _ h => by cases h),
                                        Ob.g0 rfl rfl (fun _ => rfl) rfl (fun _ _ h => by cases h),
                                        Ob.g0 rfl rfl (fun _ => rfl) rfl (fun _ _ h => by cases h),
                                        Ob.g0 rfl rfl (fun _ => rfl) rfl (fun _ _ h => by cases h),
                                        Ob.g0 rfl rfl (fun _ => rfl) rfl (fun _ _ h => by cases h),
                                        Ob.g0 rfl rfl (fun _ => rfl) rfl (fun _ _ h => by cases h),
                                        Ob.v rfl (fun _ _ h => by cases h) (fun _ _ _ => rfl) (fun e L' hL => JV.pickF rfl rfl),
                                        Ob.v rfl (fun _ _ h => by cases h) (fun _ _ _ => rfl) (fun e L' hL => JV.assign rfl), trivial⟩ (fun ev21 => ?_)
                  simp only [endF, endL, putF, List.nil_append, List.cons_append]
                  refine JQ.n_block ?_
                  refine JQ.n_then ?_
                  refine JQ.region ?_
                  refine JQ.v (JV.move rfl) rfl ?_
                  refine JQ.v (JV.addN (b := 1) rfl rfl (by omega)) rfl ?_
                  refine JQ.v (JV.assign rfl) rfl ?_
                  refine JQ.nil ?_
                  refine JQ.n_then ?_
                  exact JQ.nextI (j.1 + 1, false) (by exact ⟨by show j.1 + 1 ≤ 16; omega, by first | exact (decide_eq_false (Pl.take_ne (of_decide_eq_false (hj.2.symm.trans hb21)))).symm | exact decide_eq_decide.2 (Pl.take_step (by rw [Pl.sha_len]; omega) (by rw [Pl.sha_len]; omega) (of_decide_eq_true (hj.2.symm.trans hb21)))⟩) (by show 16 - (j.1 + 1) < 16 - j.1; omega) (subk_cons rfl (subk_cons rfl (subk_cons rfl (subk_cons rfl (subk_cons rfl (subk_cons rfl (subk_cons rfl (subk_cons rfl (subk_cons rfl subk_nil))))))))) (subr_cons rfl (subr_cons rfl (subr_cons rfl (subr_cons rfl (subr_cons rfl (subr_cons rfl subr_nil))))))
                · refine JQ.any [_, _, _, _, _, _, _, _, _, _, _] [fun _ => [], fun _ => [], fun _ => [], fun _ => [], fun _ => [], fun _ => [], fun _ => [], fun _ => [], fun _ => [], fun _ => [], fun _ => []] [⟨[], [], [], []⟩, ⟨[], [], [], [0]⟩, ⟨[], [], [], [0, 1]⟩, ⟨[], [], [], [0, 1, 2]⟩, ⟨[6], [], [], [0, 1, 2, 3]⟩, ⟨[], [], [], [0, 1]⟩, ⟨[], [], [], [0, 1, 5]⟩, ⟨[7], [], [], [0, 1, 5, 6]⟩, ⟨[], [], [], [0, 1, 2, 3, 4, 5, 6, 7]⟩, ⟨[], [], [], [0, 1, 2, 3, 4, 5, 6, 7, 8]⟩, ⟨[], [], [], [0, 1, 2, 3, 4, 5, 6, 7, 8, 9]⟩] Tryd.mixed rfl (by kernel_rfl) ⟨Ob.v rfl (fun _ _ h => by cases h) (fun _ _ _ => rfl) (fun e L' hL => JV.move rfl),
                                        Ob.v rfl (fun _ _ h => by cases h) (fun _ _ _ => rfl) (fun e L' hL => JV.move rfl),
                                        Ob.vg rfl rfl (fun _ => rfl) (fun _ _ h => by cases h) (fun _ _ _ => rfl) (fun e L' hL => JV.move rfl),
                                        Ob.vg rfl rfl (fun _ => rfl) (fun _ _ h => by cases h) (fun _ _ _ => rfl) (fun e L' hL => JV.idxArr0 rfl rfl Tryd.runUnderlying24 Tryd.sizeOf5 (by omega)),
                                        Ob.vg rfl rfl (fun _ => rfl) (fun _ _ h => by cases h) (fun _ _ _ => rfl) (fun e L' hL => JV.load1 6 rfl ((hL 6 (by decide)).trans rfl) Tryd.isAgg5 (getB _ _ (by rw [Pl.sha_len]; omega))),
                                        Ob.vg rfl rfl (fun _ => rfl) (fun _ _ h => by cases h) (fun _ _ _ => rfl) (fun e L' hL => JV.move rfl),
                                        Ob.vg rfl rfl (fun _ => rfl) (fun _ _ h => by cases h) (fun _ _ _ => rfl) (fun e L' hL => JV.idxArr0 rfl rfl Tryd.runUnderlying24 Tryd.sizeOf5 (by omega)),
                                        Ob.vg rfl rfl (fun _ => rfl) (fun _ _ h => by cases h) (fun _ _ _ => rfl) (fun e L' hL => JV.load1 7 rfl ((hL 7 (by decide)).trans rfl) Tryd.isAgg5 (getB _ _ (by rw [Pl.sha_len]; omega))),
                                        Ob.vg rfl rfl (fun _ => rfl) (fun _ _ h => by cases h) (fun _ _ _ => rfl) (fun e L' hL => JV.eqlN rfl rfl),
                                        Ob.v rfl (fun _ _ h => by cases h) (fun _ _ _ => rfl) (fun e L' hL => JV.pickT rfl rfl),
                                        Ob.v rfl (fun _ _ h => by cases h) (fun _ _ _ => rfl) (fun e L' hL => JV.assign rfl), trivial⟩ (fun ev21 => ?_)
                  simp only [endF, endL, putF, List.nil_append, List.cons_append]
                  refine JQ.n_block ?_
                  refine JQ.n_then ?_
                  refine JQ.region ?_
                  refine JQ.v (JV.move rfl) rfl ?_
                  refine JQ.v (JV.addN (b := 1) rfl rfl (by omega)) rfl ?_
                  refine JQ.v (JV.assign rfl) rfl ?_
                  refine JQ.nil ?_
                  refine JQ.n_then ?_
                  exact JQ.nextI (j.1 + 1, decide (((Pl.sha (Pl.input c1 ms1)).getD j.1 0).toNat = ((Pl.sha (Pl.input c2 ms2)).getD j.1 0).toNat)) (by exact ⟨by show j.1 + 1 ≤ 16; omega, by first | exact (decide_eq_false (Pl.take_ne (of_decide_eq_false (hj.2.symm.trans hb21)))).symm | exact decide_eq_decide.2 (Pl.take_step (by rw [Pl.sha_len]; omega) (by rw [Pl.sha_len]; omega) (of_decide_eq_true (hj.2.symm.trans hb21)))⟩) (by show 16 - (j.1 + 1) < 16 - j.1; omega) (subk_cons rfl (subk_cons rfl (subk_cons rfl (subk_cons rfl (subk_cons rfl (subk_cons rfl (subk_cons rfl (subk_cons rfl (subk_cons rfl subk_nil))))))))) (subr_cons rfl (subr_cons rfl (subr_cons rfl (subr_cons rfl (subr_cons rfl (subr_cons rfl subr_nil))))))
              · refine JQ.exit ?_
                refine JQ.e_then ?_
                refine JQ.e_then ?_
                refine JQ.e_here ?_
                refine JQ.n_then ?_
                refine JQ.seq ?_
                refine JQ.region ?_
                refine JQ.v (JV.move rfl) rfl ?_
                refine JQ.v (JV.move rfl) rfl ?_
                refine JQ.vg rfl rfl (JV.move rfl) rfl ?_
                refine JQ.vg rfl rfl (JV.bytesStrW 2 (l := Pl.input c1 ms1) Tryd.runUnderlying22 Tryd.runUnderlying5 Tryd.runUnderlying9 rfl rfl) rfl ?_
                refine JQ.vg rfl rfl (JV.move rfl) rfl ?_
                refine JQ.vg rfl rfl (JV.bytesStrW 3 (l := Pl.input c2 ms2) Tryd.runUnderlying22 Tryd.runUnderlying5 Tryd.runUnderlying9 rfl rfl) rfl ?_
                refine JQ.vg rfl rfl (JV.tt (JV.neqS rfl rfl) (fun h => hne (Pl.input_inj hf1 hf2 h))) rfl ?_
                refine JQ.v (JV.pickT rfl rfl) rfl ?_
                refine JQ.v (JV.move rfl) rfl ?_
                refine JQ.vg rfl rfl (JV.loadV 4 rfl rfl Tryd.isAgg44 Tryd.sizeOf44 (by simp [Pl.ofH_len])) rfl ?_
                refine JQ.vg rfl rfl (JV.loadV 5 rfl rfl Tryd.isAgg44 Tryd.sizeOf44 (by simp [Pl.ofH_len])) rfl ?_
                refine JQ.vg rfl rfl (JV.eqlBytes (xs := Pl.ofH c1 ms1) (ys := Pl.ofH c2 ms2) rfl rfl Tryd.runUnderlying44 Tryd.underlying5 Tryd.sizeOf5 Tryd.isAgg5 Tryd.eqGuardType44 (Pl.ofH_len _ _) (Pl.ofH_len _ _)) rfl ?_
                refine JQ.vg rfl rfl (JV.move rfl) rfl ?_
                refine JQ.vg rfl rfl (JV.bt (JV.eqlB rfl rfl Tryd.underlying4) (by rw [hj.2, show j.1 = 16 from by omega]; simp [Pl.ofH])) rfl ?_
                refine JQ.v (JV.pickT rfl rfl) rfl ?_
                refine JQ.v (JV.assign rfl) rfl ?_
                refine JQ.nil ?_
                refine JQ.n_then ?_
                refine JQ.ret ?_
                refine JQ.done1 Tryd.results8 rfl ?_
                exact fun w hw => ⟨rfl, hw.below⟩
        · refine JQ.v (JV.ff (JV.lssN rfl rfl) hs6_3) rfl ?_
          refine JQ.v (JV.move rfl) rfl ?_
          refine JQ.g0 rfl rfl rfl rfl ?_
          refine JQ.v (JV.pickF rfl rfl) rfl ?_
          refine JQ.nil ?_
          refine JQ.n_then ?_
          refine JQ.condF rfl ?_
          refine JQ.exit ?_
          refine JQ.e_then ?_
          refine JQ.e_then ?_
          refine JQ.e_here ?_
          refine JQ.n_then ?_
          refine JQ.seq ?_
          refine JQ.region ?_
          refine JQ.v (JV.idxArr0 (k := 0) rfl rfl Tryd.runUnderlying48 Tryd.sizeOf5 (by omega)) rfl ?_
          refine JQ.v (JV.load1 1 rfl rfl Tryd.isAgg5 (rfl)) rfl ?_
          refine JQ.v (JV.convK Tryd.runUnderlying5 Tryd.runUnderlying3 rfl ((wrap_i64 (by have := c1.toNat_lt; omega)))) rfl ?_
          refine JQ.v (JV.move rfl) rfl ?_
          refine JQ.x (JO.callRow 2 Tryd.call23 (evs_cons rfl (evs_cons rfl evs_nil)) (fun w hw => input_spec _ c1 (wrapc c1) v1 ms1 hf1 w (hw.reads (id := 100) rfl))) rfl ?_
          intro i9_4
          refine JQ.v (JV.assign rfl) rfl ?_
          refine JQ.nil ?_
          refine JQ.n_then ?_
          refine JQ.seq ?_
          refine JQ.region ?_
          refine JQ.v (JV.idxArr0 (k := 1) rfl rfl Tryd.runUnderlying48 Tryd.sizeOf5 (by omega)) rfl ?_
          refine JQ.v (JV.load1 1 rfl rfl Tryd.isAgg5 (rfl)) rfl ?_
          refine JQ.v (JV.convK Tryd.runUnderlying5 Tryd.runUnderlying3 rfl ((wrap_i64 (by have := c2.toNat_lt; omega)))) rfl ?_
          refine JQ.v (JV.move rfl) rfl ?_
          refine JQ.x (JO.callRow 3 Tryd.call23 (evs_cons rfl (evs_cons rfl evs_nil)) (fun w hw => input_spec _ c2 (wrapc c2) v2 ms2 hf2 w (hw.reads (id := 101) rfl))) rfl ?_
          intro i10_4
          refine JQ.v (JV.assign rfl) rfl ?_
          refine JQ.nil ?_
          refine JQ.n_then ?_
          refine JQ.seq ?_
          refine JQ.seq ?_
          refine JQ.region ?_
          refine JQ.v (JV.move rfl) rfl ?_
          refine JQ.nil ?_
          refine JQ.n_then ?_
          refine JQ.cond rfl (fun h68 => ?_) (fun h68 => ?_)
          · refine JQ.seq ?_
            have heq : c1 = c2 ∧ ms1 = ms2 := by
              first
              | exact absurd (h46.symm.trans h68) (by decide)
              | (obtain ⟨e1, e2, e3⟩ := hi.2.1 h68; rw [List.take_of_length_le (by omega), List.take_of_length_le (by omega)] at e3; exact ⟨e1, e3⟩)
            refine JQ.region ?_
            refine JQ.v (JV.move rfl) rfl ?_
            refine JQ.v (JV.move rfl) rfl ?_
            refine JQ.vg rfl rfl (JV.move rfl) rfl ?_
            refine JQ.vg rfl rfl (JV.bytesStrW 2 (l := Pl.input c1 ms1) Tryd.runUnderlying22 Tryd.runUnderlying5 Tryd.runUnderlying9 rfl rfl) rfl ?_
            refine JQ.vg rfl rfl (JV.move rfl) rfl ?_
            refine JQ.vg rfl rfl (JV.bytesStrW 3 (l := Pl.input c2 ms2) Tryd.runUnderlying22 Tryd.runUnderlying5 Tryd.runUnderlying9 rfl rfl) rfl ?_
            refine JQ.vg rfl rfl (JV.tt (JV.eqlS rfl rfl) (by rw [heq.1, heq.2])) rfl ?_
            refine JQ.v (JV.pickT rfl rfl) rfl ?_
            refine JQ.v (JV.assign rfl) rfl ?_
            refine JQ.nil ?_
            refine JQ.n_then ?_
            refine JQ.ret ?_
            refine JQ.r_then ?_
            refine JQ.done1 Tryd.results8 rfl ?_
            exact fun w hw => ⟨rfl, hw.below⟩
          · refine JQ.skip ?_
            refine JQ.n_then ?_
            refine JQ.seq ?_
            have hne := hi.2.2 h68
            refine JQ.region ?_
            refine JQ.v (JV.idxArr0 (k := 0) rfl rfl Tryd.runUnderlying48 Tryd.sizeOf5 (by omega)) rfl ?_
            refine JQ.v (JV.load1 1 rfl rfl Tryd.isAgg5 (rfl)) rfl ?_
            refine JQ.v (JV.convK Tryd.runUnderlying5 Tryd.runUnderlying3 rfl ((wrap_i64 (by have := c1.toNat_lt; omega)))) rfl ?_
            refine JQ.v (JV.move rfl) rfl ?_
            refine JQ.v (JV.callM Tryd.call21 (evs_cons rfl (evs_cons rfl evs_nil)) (fun w hw => of_spec _ c1 (wrapc c1) v1 ms1 hf1 w (hw.reads (id := 901) rfl) (hw.reads (id := 100) rfl))) rfl ?_
            refine JQ.x (JO.alloc 4 (zs := ((List.replicate 16 0).map b8)) Tryd.zeroValue44 rfl) rfl ?_
            intro i13_5
            refine JQ.s (JO.storeV 4 rfl rfl rfl (us := (Pl.ofH c1 ms1).map b8) (allB _) Tryd.sizeOf44 (by simp [Pl.ofH_len]) rfl) ?_
            refine JQ.nil ?_
            refine JQ.n_then ?_
            refine JQ.seq ?_
            refine JQ.region ?_
            refine JQ.v (JV.idxArr0 (k := 1) rfl rfl Tryd.runUnderlying48 Tryd.sizeOf5 (by omega)) rfl ?_
            refine JQ.v (JV.load1 1 rfl rfl Tryd.isAgg5 (rfl)) rfl ?_
            refine JQ.v (JV.convK Tryd.runUnderlying5 Tryd.runUnderlying3 rfl ((wrap_i64 (by have := c2.toNat_lt; omega)))) rfl ?_
            refine JQ.v (JV.move rfl) rfl ?_
            refine JQ.v (JV.callM Tryd.call21 (evs_cons rfl (evs_cons rfl evs_nil)) (fun w hw => of_spec _ c2 (wrapc c2) v2 ms2 hf2 w (hw.reads (id := 901) rfl) (hw.reads (id := 101) rfl))) rfl ?_
            refine JQ.x (JO.alloc 5 (zs := ((List.replicate 16 0).map b8)) Tryd.zeroValue44 rfl) rfl ?_
            intro i14_5
            refine JQ.s (JO.storeV 5 rfl rfl rfl (us := (Pl.ofH c2 ms2).map b8) (allB _) Tryd.sizeOf44 (by simp [Pl.ofH_len]) rfl) ?_
            refine JQ.nil ?_
            refine JQ.n_then ?_
            refine JQ.seq ?_
            refine JQ.region ?_
            refine JQ.v (JV.move rfl) rfl ?_
            refine JQ.v (JV.callM Tryd.call11 (evs_cons rfl evs_nil) (fun w hw => hsum_spec _ (Pl.input c1 ms1) (by have := Pl.input_few c1 hf1; omega) w (hw.reads (id := 901) rfl) (hw.readsRow (id := 2) rfl))) rfl ?_
            refine JQ.x (JO.alloc 6 (zs := ((List.replicate 32 0).map b8)) Tryd.zeroValue24 rfl) rfl ?_
            intro i15_2
            refine JQ.s (JO.storeV 6 rfl rfl rfl (us := (Pl.sha (Pl.input c1 ms1)).map b8) (allB _) Tryd.sizeOf24 (by simp [Pl.sha_len]) rfl) ?_
            refine JQ.nil ?_
            refine JQ.n_then ?_
            refine JQ.seq ?_
            refine JQ.region ?_
            refine JQ.v (JV.move rfl) rfl ?_
            refine JQ.v (JV.callM Tryd.call11 (evs_cons rfl evs_nil) (fun w hw => hsum_spec _ (Pl.input c2 ms2) (by have := Pl.input_few c2 hf2; omega) w (hw.reads (id := 901) rfl) (hw.readsRow (id := 3) rfl))) rfl ?_
            refine JQ.x (JO.alloc 7 (zs := ((List.replicate 32 0).map b8)) Tryd.zeroValue24 rfl) rfl ?_
            intro i16_2
            refine JQ.s (JO.storeV 7 rfl rfl rfl (us := (Pl.sha (Pl.input c2 ms2)).map b8) (allB _) Tryd.sizeOf24 (by simp [Pl.sha_len]) rfl) ?_
            refine JQ.nil ?_
            refine JQ.n_then ?_
            refine JQ.seq ?_
            refine JQ.region ?_
            refine JQ.v (JV.assign rfl) rfl ?_
            refine JQ.nil ?_
            refine JQ.n_then ?_
            refine JQ.seq ?_
            refine JQ.seq ?_
            refine JQ.region ?_
            refine JQ.v (JV.assign rfl) rfl ?_
            refine JQ.nil ?_
            refine JQ.n_then ?_
            refine JQ.block ?_
            refine JQ.loopI (ι := Nat × Bool) (fun j => [(7, .bool true), (10, i9_4), (11, i10_4), (12, .pointer (some ⟨i13_5, 0, none⟩)), (13, .pointer (some ⟨i14_5, 0, none⟩)), (14, .pointer (some ⟨i15_2, 0, none⟩)), (15, .pointer (some ⟨i16_2, 0, none⟩)), (16, .bool j.2), (17, .int .i64 ((j.1 : Nat) : Int))]) (fun j => [(2, .row i9_4 5 1 (Pl.input c1 ms1).length ((Pl.input c1 ms1).map b8)), (3, .row i10_4 5 1 (Pl.input c2 ms2).length ((Pl.input c2 ms2).map b8)), (4, .cells i13_5 ((Pl.ofH c1 ms1).map b8) 44 (0, 0)), (5, .cells i14_5 ((Pl.ofH c2 ms2).map b8) 44 (0, 0)), (6, .cells i15_2 ((Pl.sha (Pl.input c1 ms1)).map b8) 24 (0, 0)), (7, .cells i16_2 ((Pl.sha (Pl.input c2 ms2)).map b8) 24 (0, 0))]) (fun j => j.1 ≤ 16 ∧ j.2 = decide ((Pl.sha (Pl.input c1 ms1)).take j.1 = (Pl.sha (Pl.input c2 ms2)).take j.1)) (fun j => 16 - j.1) (0, true) ⟨Nat.zero_le _, by simp⟩ (subk_cons rfl (subk_cons rfl (subk_cons rfl (subk_cons rfl (subk_cons rfl (subk_cons rfl (subk_cons rfl (subk_cons rfl (subk_cons rfl subk_nil))))))))) (subr_cons rfl (subr_cons rfl (subr_cons rfl (subr_cons rfl (subr_cons rfl (subr_cons rfl subr_nil)))))) ?_
            intro j hj
            have hj1 := hj.1
            refine JQ.seq ?_
            refine JQ.seq ?_
            refine JQ.region ?_
            refine JQ.v (JV.move rfl) rfl ?_
            refine JQ.v (JV.lssN (b := 16) rfl rfl) rfl ?_
            refine JQ.nil ?_
            refine JQ.n_then ?_
            refine JQ.condP rfl (fun h92 => ?_) (fun h92 => ?_)
            · refine JQ.skip ?_
              refine JQ.n_then ?_
              refine JQ.seq ?_
              refine JQ.block ?_
              cases hb21 : j.2
              · refine JQ.any [_, _, (fun _ => undef), (fun _ => undef), (fun _ => undef), (fun _ => undef), (fun _ => undef), (fun _ => undef), (fun _ => undef), _, _] [fun _ => [], fun _ => [], (fun _ => []), (fun _ => []), (fun _ => []), (fun _ => []), (fun _ => []), (fun _ => []), (fun _ => []), fun _ => [], fun _ => []] [⟨[], [], [], []⟩, ⟨[], [], [], [0]⟩, ⟨[], [], [], [0, 1]⟩, ⟨[], [], [], [0, 1, 2]⟩, ⟨[], [], [], [0, 1, 2, 3]⟩, ⟨[], [], [], [0, 1]⟩, ⟨[], [], [], [0, 1, 5]⟩, ⟨[], [], [], [0, 1, 5, 6]⟩, ⟨[], [], [], [0, 1, 2, 3, 4, 5, 6, 7]⟩, ⟨[], [], [], [0, 1, 2, 3, 4, 5, 6, 7, 8]⟩, ⟨[], [], [], [0, 1, 2, 3, 4, 5, 6, 7, 8, 9]⟩] Tryd.mixed rfl (by kernel_rfl) ⟨Ob.v rfl (fun _ _ h => by cases h) (fun _ _ _ => rfl) (fun e L' hL => JV.move rfl),
                                    Ob.v rfl (fun _ _ h => by cases h) (fun _ _ _ => rfl) (fun e L' hL => JV.move rfl),
                                    Ob.g0 rfl rfl (fun _ => rfl) rfl (fun _ _ h => by cases h),
                                    Ob.g0 rfl rfl (fun _ => rfl) rfl (fun _ _ h => by cases h),
                                    Ob.g0 rfl rfl (fun _ => rfl) rfl (fun _ _ h => by cases h),
                                    Ob.g0 rfl rfl (fun _ => rfl) rfl (fun _ _ h => by cases h),
                                    Ob.g0 rfl rfl (fun _ => rfl) rfl (fun _ _ h => by cases h),
                                    Ob.g0 rfl rfl (fun _ => rfl) rfl (fun _ _ h => by cases h),
                                    Ob.g0 rfl rfl (fun _ => rfl) rfl (fun _ _ h => by cases h),
                                    Ob.v rfl (fun _ _ h => by cases h) (fun _ _ _ => rfl) (fun e L' hL => JV.pickF rfl rfl),
                                    Ob.v rfl (fun _ _ h => by cases h) (fun _ _ _ => rfl) (fun e L' hL => JV.assign rfl), trivial⟩ (fun ev21 => ?_)
                simp only [endF, endL, putF, List.nil_append, List.cons_append]
                refine JQ.n_block ?_
                refine JQ.n_then ?_
                refine JQ.region ?_
                refine JQ.v (JV.move rfl) rfl ?_
                refine JQ.v (JV.addN (b := 1) rfl rfl (by omega)) rfl ?_
                refine JQ.v (JV.assign rfl) rfl ?_
                refine JQ.nil ?_
                refine JQ.n_then ?_
                exact JQ.nextI (j.1 + 1, false) (by exact ⟨by show j.1 + 1 ≤ 16; omega, by first | exact (decide_eq_false (Pl.take_ne (of_decide_eq_false (hj.2.symm.trans hb21)))).symm | exact decide_eq_decide.2 (Pl.take_step (by rw [Pl.sha_len]; omega) (by rw [Pl.sha_len]; omega) (of_decide_eq_true (hj.2.symm.trans hb21)))⟩) (by show 16 - (j.1 + 1) < 16 - j.1; omega) (subk_cons rfl (subk_cons rfl (subk_cons rfl (subk_cons rfl (subk_cons rfl (subk_cons rfl (subk_cons rfl (subk_cons rfl (subk_cons rfl subk_nil))))))))) (subr_cons rfl (subr_cons rfl (subr_cons rfl (subr_cons rfl (subr_cons rfl (subr_cons rfl subr_nil))))))
              · refine JQ.any [_, _, _, _, _, _, _, _, _, _, _] [fun _ => [], fun _ => [], fun _ => [], fun _ => [], fun _ => [], fun _ => [], fun _ => [], fun _ => [], fun _ => [], fun _ => [], fun _ => []] [⟨[], [], [], []⟩, ⟨[], [], [], [0]⟩, ⟨[], [], [], [0, 1]⟩, ⟨[], [], [], [0, 1, 2]⟩, ⟨[6], [], [], [0, 1, 2, 3]⟩, ⟨[], [], [], [0, 1]⟩, ⟨[], [], [], [0, 1, 5]⟩, ⟨[7], [], [], [0, 1, 5, 6]⟩, ⟨[], [], [], [0, 1, 2, 3, 4, 5, 6, 7]⟩, ⟨[], [], [], [0, 1, 2, 3, 4, 5, 6, 7, 8]⟩, ⟨[], [], [], [0, 1, 2, 3, 4, 5, 6, 7, 8, 9]⟩] Tryd.mixed rfl (by kernel_rfl) ⟨Ob.v rfl (fun _ _ h => by cases h) (fun _ _ _ => rfl) (fun e L' hL => JV.move rfl),
                                    Ob.v rfl (fun _ _ h => by cases h) (fun _ _ _ => rfl) (fun e L' hL => JV.move rfl),
                                    Ob.vg rfl rfl (fun _ => rfl) (fun _ _ h => by cases h) (fun _ _ _ => rfl) (fun e L' hL => JV.move rfl),
                                    Ob.vg rfl rfl (fun _ => rfl) (fun _ _ h => by cases h) (fun _ _ _ => rfl) (fun e L' hL => JV.idxArr0 rfl rfl Tryd.runUnderlying24 Tryd.sizeOf5 (by omega)),
                                    Ob.vg rfl rfl (fun _ => rfl) (fun _ _ h => by cases h) (fun _ _ _ => rfl) (fun e L' hL => JV.load1 6 rfl ((hL 6 (by decide)).trans rfl) Tryd.isAgg5 (getB _ _ (by rw [Pl.sha_len]; omega))),
                                    Ob.vg rfl rfl (fun _ => rfl) (fun _ _ h => by cases h) (fun _ _ _ => rfl) (fun e L' hL => JV.move rfl),
                                    Ob.vg rfl rfl (fun _ => rfl) (fun _ _ h => by cases h) (fun _ _ _ => rfl) (fun e L' hL => JV.idxArr0 rfl rfl Tryd.runUnderlying24 Tryd.sizeOf5 (by omega)),
                                    Ob.vg rfl rfl (fun _ => rfl) (fun _ _ h => by cases h) (fun _ _ _ => rfl) (fun e L' hL => JV.load1 7 rfl ((hL 7 (by decide)).trans rfl) Tryd.isAgg5 (getB _ _ (by rw [Pl.sha_len]; omega))),
                                    Ob.vg rfl rfl (fun _ => rfl) (fun _ _ h => by cases h) (fun _ _ _ => rfl) (fun e L' hL => JV.eqlN rfl rfl),
                                    Ob.v rfl (fun _ _ h => by cases h) (fun _ _ _ => rfl) (fun e L' hL => JV.pickT rfl rfl),
                                    Ob.v rfl (fun _ _ h => by cases h) (fun _ _ _ => rfl) (fun e L' hL => JV.assign rfl), trivial⟩ (fun ev21 => ?_)
                simp only [endF, endL, putF, List.nil_append, List.cons_append]
                refine JQ.n_block ?_
                refine JQ.n_then ?_
                refine JQ.region ?_
                refine JQ.v (JV.move rfl) rfl ?_
                refine JQ.v (JV.addN (b := 1) rfl rfl (by omega)) rfl ?_
                refine JQ.v (JV.assign rfl) rfl ?_
                refine JQ.nil ?_
                refine JQ.n_then ?_
                exact JQ.nextI (j.1 + 1, decide (((Pl.sha (Pl.input c1 ms1)).getD j.1 0).toNat = ((Pl.sha (Pl.input c2 ms2)).getD j.1 0).toNat)) (by exact ⟨by show j.1 + 1 ≤ 16; omega, by first | exact (decide_eq_false (Pl.take_ne (of_decide_eq_false (hj.2.symm.trans hb21)))).symm | exact decide_eq_decide.2 (Pl.take_step (by rw [Pl.sha_len]; omega) (by rw [Pl.sha_len]; omega) (of_decide_eq_true (hj.2.symm.trans hb21)))⟩) (by show 16 - (j.1 + 1) < 16 - j.1; omega) (subk_cons rfl (subk_cons rfl (subk_cons rfl (subk_cons rfl (subk_cons rfl (subk_cons rfl (subk_cons rfl (subk_cons rfl (subk_cons rfl subk_nil))))))))) (subr_cons rfl (subr_cons rfl (subr_cons rfl (subr_cons rfl (subr_cons rfl (subr_cons rfl subr_nil))))))
            · refine JQ.exit ?_
              refine JQ.e_then ?_
              refine JQ.e_then ?_
              refine JQ.e_here ?_
              refine JQ.n_then ?_
              refine JQ.seq ?_
              refine JQ.region ?_
              refine JQ.v (JV.move rfl) rfl ?_
              refine JQ.v (JV.move rfl) rfl ?_
              refine JQ.vg rfl rfl (JV.move rfl) rfl ?_
              refine JQ.vg rfl rfl (JV.bytesStrW 2 (l := Pl.input c1 ms1) Tryd.runUnderlying22 Tryd.runUnderlying5 Tryd.runUnderlying9 rfl rfl) rfl ?_
              refine JQ.vg rfl rfl (JV.move rfl) rfl ?_
              refine JQ.vg rfl rfl (JV.bytesStrW 3 (l := Pl.input c2 ms2) Tryd.runUnderlying22 Tryd.runUnderlying5 Tryd.runUnderlying9 rfl rfl) rfl ?_
              refine JQ.vg rfl rfl (JV.tt (JV.neqS rfl rfl) (fun h => hne (Pl.input_inj hf1 hf2 h))) rfl ?_
              refine JQ.v (JV.pickT rfl rfl) rfl ?_
              refine JQ.v (JV.move rfl) rfl ?_
              refine JQ.vg rfl rfl (JV.loadV 4 rfl rfl Tryd.isAgg44 Tryd.sizeOf44 (by simp [Pl.ofH_len])) rfl ?_
              refine JQ.vg rfl rfl (JV.loadV 5 rfl rfl Tryd.isAgg44 Tryd.sizeOf44 (by simp [Pl.ofH_len])) rfl ?_
              refine JQ.vg rfl rfl (JV.eqlBytes (xs := Pl.ofH c1 ms1) (ys := Pl.ofH c2 ms2) rfl rfl Tryd.runUnderlying44 Tryd.underlying5 Tryd.sizeOf5 Tryd.isAgg5 Tryd.eqGuardType44 (Pl.ofH_len _ _) (Pl.ofH_len _ _)) rfl ?_
              refine JQ.vg rfl rfl (JV.move rfl) rfl ?_
              refine JQ.vg rfl rfl (JV.bt (JV.eqlB rfl rfl Tryd.underlying4) (by rw [hj.2, show j.1 = 16 from by omega]; simp [Pl.ofH])) rfl ?_
              refine JQ.v (JV.pickT rfl rfl) rfl ?_
              refine JQ.v (JV.assign rfl) rfl ?_
              refine JQ.nil ?_
              refine JQ.n_then ?_
              refine JQ.ret ?_
              refine JQ.done1 Tryd.results8 rfl ?_
              exact fun w hw => ⟨rfl, hw.below⟩
    · refine JQ.vg rfl rfl (JV.ff (JV.callM Tryd.call13 (evs_cons rfl evs_nil) (fun w hw => few_spec v2 ms2 (by omega) w (hw.reads (id := 101) rfl))) hs2_5) rfl ?_
      refine JQ.vg rfl rfl (JV.notB rfl) rfl ?_
      refine JQ.v (JV.pickF rfl rfl) rfl ?_
      refine JQ.nil ?_
      refine JQ.n_then ?_
      refine JQ.condT rfl ?_
      refine JQ.seq ?_
      refine JQ.region ?_
      refine JQ.v (JV.move rfl) rfl ?_
      refine JQ.v (JV.assign rfl) rfl ?_
      refine JQ.nil ?_
      refine JQ.n_then ?_
      refine JQ.ret ?_
      refine JQ.r_then ?_
      refine JQ.done1 Tryd.results8 rfl ?_
      exact fun w hw => ⟨rfl, hw.below⟩
  · refine JQ.v (JV.ff (JV.callM Tryd.call13 (evs_cons rfl evs_nil) (fun w hw => few_spec v1 ms1 (by omega) w (hw.reads (id := 100) rfl))) hs2_1) rfl ?_
    refine JQ.v (JV.notB rfl) rfl ?_
    refine JQ.v (JV.move rfl) rfl ?_
    refine JQ.g0 rfl rfl rfl rfl ?_
    refine JQ.g0 rfl rfl rfl rfl ?_
    refine JQ.g0 rfl rfl rfl rfl ?_
    refine JQ.v (JV.pickT rfl rfl) rfl ?_
    refine JQ.nil ?_
    refine JQ.n_then ?_
    refine JQ.condT rfl ?_
    refine JQ.seq ?_
    refine JQ.region ?_
    refine JQ.v (JV.move rfl) rfl ?_
    refine JQ.v (JV.assign rfl) rfl ?_
    refine JQ.nil ?_
    refine JQ.n_then ?_
    refine JQ.ret ?_
    refine JQ.r_then ?_
    refine JQ.done1 Tryd.results8 rfl ?_
    exact fun w hw => ⟨rfl, hw.below⟩
end Go.Fw
end
