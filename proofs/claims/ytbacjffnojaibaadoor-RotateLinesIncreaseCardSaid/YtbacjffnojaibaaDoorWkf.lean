/- The sanity example and three laws of the seat return true, walked, and what the laws' arguments read as; the condition is that the tables read as they are laid. -/
import Derived.Test.YtbacjffnojaibaaDoorWke
import Derived.Test.YtbacjffnojaibaaDoorProg
import Derived.Test.YtbacjffnojaibaaDoorFwd
section
open Go.RowKit
set_option maxRecDepth 100000
set_option linter.unusedVariables false
set_option linter.unusedSimpArgs false
namespace Go.Fw
open Go.Proofs
theorem reads_rnil (w : World) : Reads w (.slice none 0 0) 3 ([] : List Pl.Rule).length (rcs []) := ⟨rfl, none, 0, rfl, ⟨Nat.le_refl _, by decide⟩, .inl rfl⟩
theorem MemOk.roCellsS {w0 w : World} {L : ML} (h : MemOk w0 L w) {id : Nat} {b n s : Nat} {us vs : List Value} {e : TypeId} {fz : Nat × Nat} (hr : lr L id = some (.cells b us e fz)) (hu : us = vs) (hn : vs.length = n * s) (hm : n ≤ 9223372036854775807) : MemOk w0 ((id, .ro (.slice (some ⟨b, 0, none⟩) n n) s n vs) :: L) w := by
  subst hu
  have hrd : Reads w (.slice (some ⟨b, 0, none⟩) n n) s n us := reads_cells9 (h.blk hr) rfl hn hm
  have hg : w.grownBy w none := ⟨rfl, rfl, rfl, Nat.le_refl _, fun _ _ _ => rfl⟩
  cases us with
  | nil => exact h.put (old := none) hg (.inl rfl) hrd (.inl rfl)
  | cons u us => exact h.put (old := some b) ⟨rfl, rfl, rfl, Nat.le_refl _, fun _ _ _ => rfl⟩ (.inr ⟨_, hr, rfl, rfl⟩) hrd (.inr (.inl ⟨rfl, by simp⟩))
theorem JQ.roCellsS {w0 : World} {sz : Nat} {F : FL} {L : ML} {K : Act → World → Prop} (id : Nat) {b n s : Nat} {us vs : List Value} {e : TypeId} {fz : Nat × Nat} (hr : lr L id = some (.cells b us e fz)) (hu : us = vs) (hn : vs.length = n * s) (hm : n ≤ 9223372036854775807) (h : JQ w0 sz F ((id, .ro (.slice (some ⟨b, 0, none⟩) n n) s n vs) :: L) K) : JQ w0 sz F L K :=
  fun a w h1 h2 h3 h4 => h a w h1 h2 h3 (h4.roCellsS hr hu hn hm)
def sTy : Pl.Typ := ⟨[97], 25, 50⟩
def sK0 : Pl.Key := ⟨1, 0, List.replicate 32 7, 24, 10, 40, 1, 0, false⟩
def sK1 : Pl.Key := ⟨1, 0, List.replicate 32 7, 16, 10, 40, 1, 0, false⟩
def sK2 : Pl.Key := ⟨2, 0, Pl.val [115], 24, 30, 60, 2, 1, false⟩
def sK3 : Pl.Key := ⟨2, 0, [], 24, 30, 60, 2, 1, false⟩
theorem value_spec_p : Pure Tryd.prog 30 #[b8 7] (str (List.replicate 32 7)) := fun w => value_spec 7 w
theorem s_ok0 : tabOk 2 [sK0] := by
  refine ⟨by decide, by decide, fun i j hij hj => ?_, fun i hi => ?_⟩
  · simp at hj; omega
  · simp at hi; subst hi; decide +kernel
theorem s_chk : kchk [sTy] [] [sK0] 30 1 = 0 := by decide +kernel
theorem s_e : keyE [sTy] [] 2 [sK0] 30 1 = 0 := by decide +kernel
theorem s_life : lifeK [sTy] (Pl.getK [sK0] 1) 30 = 30 := by decide +kernel
theorem s_keys1 : keys1 [sK0] 1 = [sK1] := by decide +kernel
theorem s_getK : Pl.getK [sK0] 1 = sK0 := by decide +kernel
theorem s_T : keyT [sTy] [] 2 [sK0] 30 1 [115] = ⟨3, [sK1, sK2]⟩ := by
  rw [(keyT_eq s_e [115]).1, s_keys1]
  have e : withId 2 (fresh [sTy] (Pl.getK [sK0] 1) 30 1 [115]) = sK2 := by
    unfold fresh; rw [s_life, s_getK]; rfl
  rw [e]; rfl
theorem s_ok1 : tabOk 3 [sK1, sK2] := by
  have h := (key_tabOk s_ok0 (by decide) s_e [115] (by decide)).1
  rw [s_T] at h; exact h
theorem s_e2 : keyE [sTy] [] 3 [sK1, sK2] 30 1 = 12 := by decide +kernel
theorem s_c2 : kchk [sTy] [] [sK1, sK2] 30 1 = 12 := by decide +kernel
theorem s_c3 : kchk [sTy] [] [sK0] 40 1 = 13 := by decide +kernel
theorem s_nI : Pl.nextI [sK1, sK2] 1 = 2 := by decide +kernel
theorem s_nB : Pl.nextB [sK1, sK2] 1 = true := by decide +kernel
theorem s_gE : Pl.getE [sK1, sK2] 1 = 0 := by decide +kernel
theorem s_line : Pl.lineL [sK1, sK2] 1 = [1, 2] := by decide +kernel
theorem s_new : Pl.newest [sK1, sK2] 1 = 2 := by decide +kernel
theorem s_due : dueL [sTy] [sK0] 30 10 = [1] := by decide +kernel
theorem s_all : allR [sTy] [] 30 2 [sK0] [115] [] [1] = ⟨3, [sK1, sK2], Pl.seed [115], [2], 0⟩ := by
  have h := keyT_eq s_e [115]
  rw [allR, if_neg (by rw [s_e]; decide), s_T, h.2.1, h.2.2, allR]; rfl
theorem sT_eq : tc sTy = tcs [sTy] := rfl
theorem sT_len : (tcs [sTy]).length = 1 * 3 := rfl
theorem sKs_eq : kc sK0 = kcs [sK0] := rfl
theorem sKs_len : (kcs [sK0]).length = 1 * 9 := rfl
theorem sK2_at : ((kcs [sK1, sK2]).drop (1 * 9)).take 9 = kc sK2 := rfl
theorem sK_16 : (kcs [sK1, sK2])[0 * 9 + 3]? = some (iv 16) := rfl
theorem sK_val : (kcs [sK1, sK2])[1 * 9 + 2]? = some (str (Pl.val [115])) := rfl
section
variable (pv kv iw : Value) (w : World)
theorem san_key (ht : Reads w pv 3 1 (tcs [sTy])) (hr : Reads w kv 9 1 (kcs [sK0])) (hB : Gl 0 byRule w) (hG : Gl 2 (Pl.K.map u32) w) : Calls Tryd.prog 13 #[.agg [str [], pv, .slice none 0 0, .slice none 0 0].toArray, .agg [iv 2, kv].toArray, .agg [str [115]].toArray, iv 30, iv 1] w fun e w' =>
    ∃ v, e = .returned (.tuple #[.agg [iv 3, v].toArray, .agg [str (Pl.seed [115])].toArray, iv 2, iv 0]) ∧ w'.ownsRow w.heap.size 34 9 v 2 (kcs [sK1, sK2]) ∧ Below w.heap.size w w' := by
  have h := key_spec [] pv (.slice none 0 0) (.slice none 0 0) [sTy] [] (by decide) (by decide) 2 kv [sK0] s_ok0 [115] (by decide) 30 1 w ht (reads_rnil w) hr hB hG
  rw [s_T, (keyT_eq s_e [115]).2.1, (keyT_eq s_e [115]).2.2, s_e] at h
  exact h
theorem san_key2 (ht : Reads w pv 3 1 (tcs [sTy])) (hr : Reads w kv 9 2 (kcs [sK1, sK2])) (hB : Gl 0 byRule w) (hG : Gl 2 (Pl.K.map u32) w) : Calls Tryd.prog 13 #[.agg [str [], pv, .slice none 0 0, .slice none 0 0].toArray, .agg [iv 3, kv].toArray, .agg [str (Pl.seed [115])].toArray, iv 30, iv 1] w fun e w' =>
    ∃ v, e = .returned (.tuple #[.agg [iv 0, v].toArray, .agg [str []].toArray, iv 0, iv 12]) ∧ w'.ownsRow w.heap.size 34 9 v 0 (kcs []) ∧ Below w.heap.size w w' := by
  have h := key_spec [] pv (.slice none 0 0) (.slice none 0 0) [sTy] [] (by decide) (by decide) 3 kv [sK1, sK2] s_ok1 (Pl.seed [115]) (by rw [Pl.seed_len]; decide) 30 1 w ht (reads_rnil w) hr hB hG
  rw [keyT, keyS, keyI, keyE, s_c2] at h
  exact h
theorem san_key3 (ht : Reads w pv 3 1 (tcs [sTy])) (hr : Reads w kv 9 1 (kcs [sK0])) (hB : Gl 0 byRule w) (hG : Gl 2 (Pl.K.map u32) w) : Calls Tryd.prog 13 #[.agg [str [], pv, .slice none 0 0, .slice none 0 0].toArray, .agg [iv 2, kv].toArray, .agg [str (Pl.seed [115])].toArray, iv 40, iv 1] w fun e w' =>
    ∃ v, e = .returned (.tuple #[.agg [iv 0, v].toArray, .agg [str []].toArray, iv 0, iv 13]) ∧ w'.ownsRow w.heap.size 34 9 v 0 (kcs []) ∧ Below w.heap.size w w' := by
  have h := key_spec [] pv (.slice none 0 0) (.slice none 0 0) [sTy] [] (by decide) (by decide) 2 kv [sK0] s_ok0 (Pl.seed [115]) (by rw [Pl.seed_len]; decide) 40 1 w ht (reads_rnil w) hr hB hG
  rw [keyT, keyS, keyI, keyE, s_c3] at h
  exact h
theorem san_next (hr : Reads w kv 9 2 (kcs [sK1, sK2])) : Calls Tryd.prog 20 #[.agg [iv 3, kv].toArray, iv 1] w fun e w' => e = .returned (.tuple #[iv 2, .bool true]) ∧ Below w.heap.size w w' := by
  have h := next1_spec 3 kv [sK1, sK2] (by decide) s_ok1.2.2.1 s_ok1.ver 1 w hr
  rw [s_nI, s_nB] at h; exact h
theorem san_newest (hr : Reads w kv 9 2 (kcs [sK1, sK2])) : Calls Tryd.prog 12 #[.agg [iv 3, kv].toArray, iv 1] w fun e w' => e = .returned (.tuple #[iv 2, iv 0]) ∧ Below w.heap.size w w' := by
  have h := newest_spec 3 kv [sK1, sK2] (by decide) s_ok1.2.2.1 s_ok1.ver 1 w hr
  rw [s_new, s_gE] at h; exact h
theorem san_line (hr : Reads w kv 9 2 (kcs [sK1, sK2])) : Calls Tryd.prog 14 #[.agg [iv 3, kv].toArray, iv 1] w fun e w' => ∃ v, e = .returned (.tuple #[v, iv 0]) ∧ NewRo w v 1 2 (([1, 2] : List Int).map iv) w' ∧ Below w.heap.size w w' := by
  have h := lineS_spec 3 kv [sK1, sK2] (by decide) s_ok1.2.2.1 s_ok1.ver 1 w hr
  rw [s_line, s_gE] at h; exact h
theorem san_due (ht : Reads w pv 3 1 (tcs [sTy])) (hr : Reads w kv 9 1 (kcs [sK0])) : Calls Tryd.prog 27 #[.agg [str [], pv, .slice none 0 0, .slice none 0 0].toArray, .agg [iv 2, kv].toArray, iv 30, iv 10] w fun e w' => ∃ v, e = .returned v ∧ NewRo w v 1 1 (([1] : List Int).map iv) w' ∧ Below w.heap.size w w' := by
  have h := due_spec [] pv (.slice none 0 0) (.slice none 0 0) [sTy] [] 2 kv [sK0] s_ok0 30 10 w ht hr
  rw [s_due] at h; exact h
theorem san_all (ht : Reads w pv 3 1 (tcs [sTy])) (hr : Reads w kv 9 1 (kcs [sK0])) (hi : Reads w iw 1 1 [iv 1]) (hB : Gl 0 byRule w) (hG : Gl 2 (Pl.K.map u32) w) : Calls Tryd.prog 25 #[.agg [str [], pv, .slice none 0 0, .slice none 0 0].toArray, .agg [iv 2, kv].toArray, .agg [str [115]].toArray, iv 30, iw] w fun e w' =>
    ∃ v m, e = .returned (.tuple #[.agg [iv 3, v].toArray, .agg [str (Pl.seed [115])].toArray, m, iv 0]) ∧ Reads w' v 9 2 (kcs [sK1, sK2]) ∧ ((v = kv ∧ kcs [sK1, sK2] = kcs [sK0]) ∨ fresh? w v) ∧ NewRo w m 1 1 (([2] : List Int).map iv) w' ∧ Below w.heap.size w w' := by
  have h := all_spec [] pv (.slice none 0 0) (.slice none 0 0) [sTy] [] (by decide) (by decide) 2 kv [sK0] s_ok0 (by decide) [115] (by decide) 30 iw [1] (by decide) w ht (reads_rnil w) hr hi hB hG
  rw [s_all] at h; exact h
end
attribute [local irreducible] kcs tcs rcs Pl.val Pl.seed
set_option maxHeartbeats 1000000 in
theorem san_spec (w : World) (hB : Gl 0 byRule w) (hG : Gl 2 (Pl.K.map u32) w) :
    Calls Tryd.prog 9 #[] w fun e w' => e = .returned (.bool true) ∧ Below w.heap.size w w' := by
  
  refine enterA (vs := []) Tryd.func9 rfl 178 rfl [(902, .ro (gv 2 64) 1 64 (Pl.K.map u32)), (900, .ro (gv 0 15) 1 15 byRule)] ((MemOk.start1 900 hB).addRo 902 hG (ro_cons ro_nil)) ?_
  refine JQ.seq ?_
  refine JQ.region ?_
  refine JQ.v (JV.assign rfl) rfl ?_
  refine JQ.nil ?_
  refine JQ.n_then ?_
  refine JQ.seq ?_
  refine JQ.region ?_
  refine JQ.v (JV.build (v := .agg (tc sTy).toArray) (evp_cons rfl (evp_cons rfl (evp_cons rfl evp_nil))) (fun w => by kernel_rfl)) rfl ?_
  refine JQ.x (JO.buildSlice 101 (us := (tc sTy)) (e := 51) (evp_cons rfl evp_nil) (fun w => by kernel_rfl)) rfl ?_
  intro i1_1
  refine JQ.roCellsS 101 (b := i1_1) (s := 3) (n := 1) (vs := (tcs [sTy])) rfl sT_eq sT_len (by decide) ?_
  refine JQ.v (JV.build (v := .agg [str [], (.slice (some ⟨i1_1, 0, none⟩) 1 1), (.slice none 0 0), (.slice none 0 0)].toArray) (evp_cons rfl evp_nil) (fun w => by kernel_rfl)) rfl ?_
  refine JQ.x (JO.alloc 1 (zs := [str [], .slice none 0 0, .slice none 0 0, .slice none 0 0]) Tryd.zeroValue26 rfl) rfl ?_
  intro i1_3
  refine JQ.s (JO.storeV 1 rfl rfl rfl (us := [str [], (.slice (some ⟨i1_1, 0, none⟩) 1 1), (.slice none 0 0), (.slice none 0 0)]) rfl Tryd.sizeOf26 rfl rfl) ?_
  refine JQ.nil ?_
  refine JQ.n_then ?_
  refine JQ.seq ?_
  refine JQ.region ?_
  refine JQ.v (JV.call Tryd.call30 (evs_cons rfl evs_nil) value_spec_p) rfl ?_
  refine JQ.v (JV.build (v := .agg (kc sK0).toArray) (evp_cons rfl (evp_cons rfl (evp_cons rfl (evp_cons rfl (evp_cons rfl (evp_cons rfl evp_nil)))))) (fun w => by kernel_rfl)) rfl ?_
  refine JQ.x (JO.buildSlice 100 (us := (kc sK0)) (e := 34) (evp_cons rfl evp_nil) (fun w => by kernel_rfl)) rfl ?_
  intro i2_2
  refine JQ.roCellsS 100 (b := i2_2) (s := 9) (n := 1) (vs := (kcs [sK0])) rfl sKs_eq sKs_len (by decide) ?_
  refine JQ.v (JV.build (v := .agg [iv 2, (.slice (some ⟨i2_2, 0, none⟩) 1 1)].toArray) (evp_cons rfl (evp_cons rfl evp_nil)) (fun w => by kernel_rfl)) rfl ?_
  refine JQ.x (JO.alloc 2 (zs := [iv 0, .slice none 0 0]) Tryd.zeroValue29 rfl) rfl ?_
  intro i2_4
  refine JQ.s (JO.storeV 2 rfl rfl rfl (us := [iv 2, (.slice (some ⟨i2_2, 0, none⟩) 1 1)]) rfl Tryd.sizeOf29 rfl rfl) ?_
  refine JQ.nil ?_
  refine JQ.n_then ?_
  refine JQ.seq ?_
  refine JQ.region ?_
  refine JQ.v (JV.loadV 1 rfl rfl Tryd.isAgg26 Tryd.sizeOf26 rfl) rfl ?_
  refine JQ.v (JV.loadV 2 rfl rfl Tryd.isAgg29 Tryd.sizeOf29 rfl) rfl ?_
  refine JQ.v (JV.build (v := .agg [str [115]].toArray) (evp_cons rfl evp_nil) (fun w => by kernel_rfl)) rfl ?_
  refine JQ.x (JO.callRowV 110 (fun v => .tuple #[.agg [iv 3, v].toArray, .agg [str (Pl.seed [115])].toArray, iv 2, iv 0]) Tryd.call13 (evs_cons rfl (evs_cons rfl (evs_cons rfl (evs_cons rfl (evs_cons rfl evs_nil))))) (fun w hw => san_key (.slice (some ⟨i1_1, 0, none⟩) 1 1) (.slice (some ⟨i2_2, 0, none⟩) 1 1) w (hw.reads (id := 101) rfl) (hw.reads (id := 100) rfl) (hw.reads (id := 900) rfl) (hw.reads (id := 902) rfl))) rfl ?_
  intro i3_3
  refine JQ.roOf 110 rfl ?_
  refine JQ.v (JV.move rfl) rfl ?_
  refine JQ.v (JV.extract rfl rfl) rfl ?_
  refine JQ.v (JV.extract rfl rfl) rfl ?_
  refine JQ.v (JV.extract rfl rfl) rfl ?_
  refine JQ.v (JV.extract rfl rfl) rfl ?_
  refine JQ.x (JO.alloc 3 (zs := [iv 0, .slice none 0 0]) Tryd.zeroValue29 rfl) rfl ?_
  intro i3_9
  refine JQ.x (JO.alloc 4 (zs := [str []]) Tryd.zeroValue39 rfl) rfl ?_
  intro i3_10
  refine JQ.s (JO.storeV 3 rfl rfl rfl (us := [iv 3, (slv i3_3 2)]) rfl Tryd.sizeOf29 rfl rfl) ?_
  refine JQ.s (JO.storeV 4 rfl rfl rfl (us := [str (Pl.seed [115])]) rfl Tryd.sizeOf39 rfl rfl) ?_
  refine JQ.v (JV.assign rfl) rfl ?_
  refine JQ.v (JV.assign rfl) rfl ?_
  refine JQ.nil ?_
  refine JQ.n_then ?_
  refine JQ.seq ?_
  refine JQ.region ?_
  refine JQ.v (JV.loadV 3 rfl rfl Tryd.isAgg29 Tryd.sizeOf29 rfl) rfl ?_
  refine JQ.v (JV.callM Tryd.call20 (evs_cons rfl (evs_cons rfl evs_nil)) (fun w hw => san_next (slv i3_3 2) w (hw.reads (id := 110) rfl))) rfl ?_
  refine JQ.v (JV.move rfl) rfl ?_
  refine JQ.v (JV.extract rfl rfl) rfl ?_
  refine JQ.v (JV.extract rfl rfl) rfl ?_
  refine JQ.v (JV.assign rfl) rfl ?_
  refine JQ.v (JV.assign rfl) rfl ?_
  refine JQ.nil ?_
  refine JQ.n_then ?_
  refine JQ.seq ?_
  refine JQ.region ?_
  refine JQ.v (JV.loadV 3 rfl rfl Tryd.isAgg29 Tryd.sizeOf29 rfl) rfl ?_
  refine JQ.v (JV.callM Tryd.call12 (evs_cons rfl (evs_cons rfl evs_nil)) (fun w hw => san_newest (slv i3_3 2) w (hw.reads (id := 110) rfl))) rfl ?_
  refine JQ.v (JV.move rfl) rfl ?_
  refine JQ.v (JV.extract rfl rfl) rfl ?_
  refine JQ.v (JV.extract rfl rfl) rfl ?_
  refine JQ.v (JV.assign rfl) rfl ?_
  refine JQ.v (JV.assign rfl) rfl ?_
  refine JQ.nil ?_
  refine JQ.n_then ?_
  refine JQ.seq ?_
  refine JQ.region ?_
  refine JQ.v (JV.loadV 3 rfl rfl Tryd.isAgg29 Tryd.sizeOf29 rfl) rfl ?_
  refine JQ.x (JO.callNew 111 (fun v => .tuple #[v, iv 0]) Tryd.call14 (evs_cons rfl (evs_cons rfl evs_nil)) (fun w hw => san_line (slv i3_3 2) w (hw.reads (id := 110) rfl))) rfl ?_
  intro i6_1
  refine JQ.v (JV.move rfl) rfl ?_
  refine JQ.v (JV.extract rfl rfl) rfl ?_
  refine JQ.v (JV.extract rfl rfl) rfl ?_
  refine JQ.v (JV.assign rfl) rfl ?_
  refine JQ.v (JV.assign rfl) rfl ?_
  refine JQ.nil ?_
  refine JQ.n_then ?_
  refine JQ.seq ?_
  refine JQ.region ?_
  refine JQ.v (JV.loadV 1 rfl rfl Tryd.isAgg26 Tryd.sizeOf26 rfl) rfl ?_
  refine JQ.v (JV.loadV 3 rfl rfl Tryd.isAgg29 Tryd.sizeOf29 rfl) rfl ?_
  refine JQ.v (JV.loadV 4 rfl rfl Tryd.isAgg39 Tryd.sizeOf39 rfl) rfl ?_
  refine JQ.x (JO.callRowV 112 (fun v => .tuple #[.agg [iv 0, v].toArray, .agg [str []].toArray, iv 0, iv 12]) Tryd.call13 (evs_cons rfl (evs_cons rfl (evs_cons rfl (evs_cons rfl (evs_cons rfl evs_nil))))) (fun w hw => san_key2 (.slice (some ⟨i1_1, 0, none⟩) 1 1) (slv i3_3 2) w (hw.reads (id := 101) rfl) (hw.reads (id := 110) rfl) (hw.reads (id := 900) rfl) (hw.reads (id := 902) rfl))) rfl ?_
  intro i7_3
  refine JQ.roOf 112 rfl ?_
  refine JQ.v (JV.move rfl) rfl ?_
  refine JQ.v (JV.extract rfl rfl) rfl ?_
  refine JQ.v (JV.extract rfl rfl) rfl ?_
  refine JQ.v (JV.extract rfl rfl) rfl ?_
  refine JQ.v (JV.extract rfl rfl) rfl ?_
  refine JQ.x (JO.alloc 5 (zs := [iv 0, .slice none 0 0]) Tryd.zeroValue29 rfl) rfl ?_
  intro i7_9
  refine JQ.x (JO.alloc 6 (zs := [str []]) Tryd.zeroValue39 rfl) rfl ?_
  intro i7_10
  refine JQ.s (JO.storeV 5 rfl rfl rfl (us := [iv 0, slv i7_3 0]) rfl Tryd.sizeOf29 rfl rfl) ?_
  refine JQ.s (JO.storeV 6 rfl rfl rfl (us := [str []]) rfl Tryd.sizeOf39 rfl rfl) ?_
  refine JQ.v (JV.assign rfl) rfl ?_
  refine JQ.v (JV.assign rfl) rfl ?_
  refine JQ.nil ?_
  refine JQ.n_then ?_
  refine JQ.seq ?_
  refine JQ.region ?_
  refine JQ.v (JV.loadV 1 rfl rfl Tryd.isAgg26 Tryd.sizeOf26 rfl) rfl ?_
  refine JQ.v (JV.loadV 2 rfl rfl Tryd.isAgg29 Tryd.sizeOf29 rfl) rfl ?_
  refine JQ.v (JV.loadV 4 rfl rfl Tryd.isAgg39 Tryd.sizeOf39 rfl) rfl ?_
  refine JQ.x (JO.callRowV 113 (fun v => .tuple #[.agg [iv 0, v].toArray, .agg [str []].toArray, iv 0, iv 13]) Tryd.call13 (evs_cons rfl (evs_cons rfl (evs_cons rfl (evs_cons rfl (evs_cons rfl evs_nil))))) (fun w hw => san_key3 (.slice (some ⟨i1_1, 0, none⟩) 1 1) (.slice (some ⟨i2_2, 0, none⟩) 1 1) w (hw.reads (id := 101) rfl) (hw.reads (id := 100) rfl) (hw.reads (id := 900) rfl) (hw.reads (id := 902) rfl))) rfl ?_
  intro i8_3
  refine JQ.roOf 113 rfl ?_
  refine JQ.v (JV.move rfl) rfl ?_
  refine JQ.v (JV.extract rfl rfl) rfl ?_
  refine JQ.v (JV.extract rfl rfl) rfl ?_
  refine JQ.v (JV.extract rfl rfl) rfl ?_
  refine JQ.v (JV.extract rfl rfl) rfl ?_
  refine JQ.x (JO.alloc 7 (zs := [iv 0, .slice none 0 0]) Tryd.zeroValue29 rfl) rfl ?_
  intro i8_9
  refine JQ.x (JO.alloc 8 (zs := [str []]) Tryd.zeroValue39 rfl) rfl ?_
  intro i8_10
  refine JQ.s (JO.storeV 7 rfl rfl rfl (us := [iv 0, slv i8_3 0]) rfl Tryd.sizeOf29 rfl rfl) ?_
  refine JQ.s (JO.storeV 8 rfl rfl rfl (us := [str []]) rfl Tryd.sizeOf39 rfl rfl) ?_
  refine JQ.v (JV.assign rfl) rfl ?_
  refine JQ.v (JV.assign rfl) rfl ?_
  refine JQ.nil ?_
  refine JQ.n_then ?_
  refine JQ.seq ?_
  refine JQ.region ?_
  refine JQ.v (JV.loadV 1 rfl rfl Tryd.isAgg26 Tryd.sizeOf26 rfl) rfl ?_
  refine JQ.v (JV.loadV 2 rfl rfl Tryd.isAgg29 Tryd.sizeOf29 rfl) rfl ?_
  refine JQ.v (JV.build (v := .agg [str [115]].toArray) (evp_cons rfl evp_nil) (fun w => by kernel_rfl)) rfl ?_
  refine JQ.x (JO.buildSlice 120 (us := [iv 1]) (e := 3) (evp_cons rfl evp_nil) (fun w => by kernel_rfl)) rfl ?_
  intro i9_3
  refine JQ.x (JO.callNew2 114 115 100 (fun v m => .tuple #[.agg [iv 3, v].toArray, .agg [str (Pl.seed [115])].toArray, m, iv 0]) Tryd.call25 (evs_cons rfl (evs_cons rfl (evs_cons rfl (evs_cons rfl (evs_cons rfl evs_nil))))) rfl (by decide) (fun w hw => san_all (.slice (some ⟨i1_1, 0, none⟩) 1 1) (.slice (some ⟨i2_2, 0, none⟩) 1 1) (.slice (some ⟨i9_3, 0, none⟩) 1 1) w (hw.reads (id := 101) rfl) (hw.reads (id := 100) rfl) (reads_cells9 (hw.blk (id := 120) rfl) rfl rfl (by decide)) (hw.reads (id := 900) rfl) (hw.reads (id := 902) rfl))) rfl ?_
  intro i9_4
  refine JQ.v (JV.move rfl) rfl ?_
  refine JQ.v (JV.extract rfl rfl) rfl ?_
  refine JQ.v (JV.extract rfl rfl) rfl ?_
  refine JQ.v (JV.extract rfl rfl) rfl ?_
  refine JQ.v (JV.extract rfl rfl) rfl ?_
  refine JQ.x (JO.alloc 9 (zs := [iv 0, .slice none 0 0]) Tryd.zeroValue29 rfl) rfl ?_
  intro i9_10
  refine JQ.x (JO.alloc 10 (zs := [str []]) Tryd.zeroValue39 rfl) rfl ?_
  intro i9_11
  refine JQ.s (JO.storeV 9 rfl rfl rfl (us := [iv 3, slv i9_4.1 2]) rfl Tryd.sizeOf29 rfl rfl) ?_
  refine JQ.s (JO.storeV 10 rfl rfl rfl (us := [str (Pl.seed [115])]) rfl Tryd.sizeOf39 rfl rfl) ?_
  refine JQ.v (JV.assign rfl) rfl ?_
  refine JQ.v (JV.assign rfl) rfl ?_
  refine JQ.nil ?_
  refine JQ.n_then ?_
  refine JQ.seq ?_
  refine JQ.region ?_
  refine JQ.v (JV.loadV 1 rfl rfl Tryd.isAgg26 Tryd.sizeOf26 rfl) rfl ?_
  refine JQ.v (JV.loadV 2 rfl rfl Tryd.isAgg29 Tryd.sizeOf29 rfl) rfl ?_
  refine JQ.x (JO.callRo 116 Tryd.call27 (evs_cons rfl (evs_cons rfl (evs_cons rfl (evs_cons rfl evs_nil)))) (fun w hw => san_due (.slice (some ⟨i1_1, 0, none⟩) 1 1) (.slice (some ⟨i2_2, 0, none⟩) 1 1) w (hw.reads (id := 101) rfl) (hw.reads (id := 100) rfl))) rfl ?_
  intro i10_2
  refine JQ.v (JV.assign rfl) rfl ?_
  refine JQ.nil ?_
  refine JQ.n_then ?_
  refine JQ.seq ?_
  refine JQ.seq ?_
  refine JQ.region ?_
  refine JQ.v (JV.move rfl) rfl ?_
  refine JQ.v (JV.known (c := false) (JV.neqI rfl rfl) (by decide)) rfl ?_
  refine JQ.v (JV.move rfl) rfl ?_
  refine JQ.vg rfl rfl (JV.move rfl) rfl ?_
  refine JQ.vg rfl rfl (JV.known (c := false) (JV.neqI rfl rfl) (by decide)) rfl ?_
  refine JQ.v (JV.pickF rfl rfl) rfl ?_
  refine JQ.v (JV.move rfl) rfl ?_
  refine JQ.vg rfl rfl (JV.move rfl) rfl ?_
  refine JQ.vg rfl rfl (JV.known (c := false) (JV.neqI rfl rfl) (by decide)) rfl ?_
  refine JQ.v (JV.pickF rfl rfl) rfl ?_
  refine JQ.v (JV.move rfl) rfl ?_
  refine JQ.vg rfl rfl (JV.move rfl) rfl ?_
  refine JQ.vg rfl rfl (JV.known (c := false) (JV.neqI rfl rfl) (by decide)) rfl ?_
  refine JQ.v (JV.pickF rfl rfl) rfl ?_
  refine JQ.v (JV.move rfl) rfl ?_
  refine JQ.vg rfl rfl (JV.fieldAddrK (o := 1) rfl Tryd.runUnderlying29 rfl Tryd.sizeOf27 rfl rfl) rfl ?_
  refine JQ.vg rfl rfl (JV.load1 3 rfl rfl Tryd.isAgg27 (rfl)) rfl ?_
  refine JQ.vg rfl rfl (JV.lenRo 110 rfl rfl Tryd.runUnderlying27) rfl ?_
  refine JQ.vg rfl rfl (JV.known (c := false) (JV.neqN (b := 2) rfl rfl) (by decide)) rfl ?_
  refine JQ.v (JV.pickF rfl rfl) rfl ?_
  refine JQ.v (JV.move rfl) rfl ?_
  refine JQ.vg rfl rfl (JV.fieldAddrK (o := 1) rfl Tryd.runUnderlying29 rfl Tryd.sizeOf27 rfl rfl) rfl ?_
  refine JQ.vg rfl rfl (JV.load1 9 rfl rfl Tryd.isAgg27 (rfl)) rfl ?_
  refine JQ.vg rfl rfl (JV.lenRo 114 rfl rfl Tryd.runUnderlying27) rfl ?_
  refine JQ.vg rfl rfl (JV.known (c := false) (JV.neqN (b := 2) rfl rfl) (by decide)) rfl ?_
  refine JQ.v (JV.pickF rfl rfl) rfl ?_
  refine JQ.nil ?_
  refine JQ.n_then ?_
  refine JQ.condF rfl ?_
  refine JQ.skip ?_
  refine JQ.n_then ?_
  refine JQ.seq ?_
  refine JQ.region ?_
  refine JQ.v (JV.fieldAddrK (o := 1) rfl Tryd.runUnderlying29 rfl Tryd.sizeOf27 rfl rfl) rfl ?_
  refine JQ.v (JV.load1 3 rfl rfl Tryd.isAgg27 (rfl)) rfl ?_
  refine JQ.v (JV.idxRo 110 (k := 1) rfl rfl rfl Tryd.runUnderlying27 Tryd.sizeOf34 (by decide) (by decide)) rfl ?_
  refine JQ.v (JV.loadRA 110 rfl rfl Tryd.isAgg34 Tryd.sizeOf34 (us := kc sK2) sK2_at rfl (by decide)) rfl ?_
  refine JQ.x (JO.alloc 11 (zs := (kc Pl.Key.zero)) Tryd.zeroValue34 rfl) rfl ?_
  intro i13_4
  refine JQ.s (JO.storeV 11 rfl rfl rfl (us := kc sK2) rfl Tryd.sizeOf34 rfl rfl) ?_
  refine JQ.nil ?_
  refine JQ.n_then ?_
  refine JQ.seq ?_
  refine JQ.region ?_
  refine JQ.v (JV.fieldAddrK (o := 2) rfl Tryd.runUnderlying34 rfl Tryd.sizeOf9 rfl rfl) rfl ?_
  refine JQ.s (JO.store1 11 rfl rfl rfl rfl Tryd.sizeOf9 (Nat.le_of_ble_eq_true rfl)) ?_
  refine JQ.nil ?_
  refine JQ.n_then ?_
  refine JQ.seq ?_
  refine JQ.region ?_
  refine JQ.v (JV.move rfl) rfl ?_
  refine JQ.v (JV.known (c := true) (JV.eqlI rfl rfl) (by decide)) rfl ?_
  refine JQ.v (JV.move rfl) rfl ?_
  refine JQ.vg rfl rfl (JV.move rfl) rfl ?_
  refine JQ.vg rfl rfl (JV.known (c := true) (JV.eqlI rfl rfl) (by decide)) rfl ?_
  refine JQ.v (JV.pickT rfl rfl) rfl ?_
  refine JQ.v (JV.move rfl) rfl ?_
  refine JQ.vg rfl rfl (JV.move rfl) rfl ?_
  refine JQ.v (JV.pickT rfl rfl) rfl ?_
  refine JQ.v (JV.move rfl) rfl ?_
  refine JQ.vg rfl rfl (JV.move rfl) rfl ?_
  refine JQ.vg rfl rfl (JV.known (c := true) (JV.eqlI rfl rfl) (by decide)) rfl ?_
  refine JQ.v (JV.pickT rfl rfl) rfl ?_
  refine JQ.v (JV.move rfl) rfl ?_
  refine JQ.vg rfl rfl (JV.move rfl) rfl ?_
  refine JQ.xg rfl rfl (JO.buildSlice 12 (us := [iv 1, iv 2]) (e := 3) (evp_cons rfl (evp_cons rfl evp_nil)) (fun w => by kernel_rfl)) rfl ?_
  intro i15_15
  refine JQ.vg rfl rfl (JV.known (c := true) (JV.callM Tryd.call24 (evs_cons rfl (evs_cons rfl evs_nil)) (fun w hw => same14_spec _ _ [1, 2] [1, 2] (by decide) (by decide) w (hw.reads (id := 111) rfl) (reads_cells9 (hw.blk (id := 12) rfl) rfl rfl (by decide)))) (decide_eq_true rfl)) rfl ?_
  refine JQ.v (JV.pickT rfl rfl) rfl ?_
  refine JQ.v (JV.move rfl) rfl ?_
  refine JQ.vg rfl rfl (JV.move rfl) rfl ?_
  refine JQ.vg rfl rfl (JV.known (c := true) (JV.eqlI rfl rfl) (by decide)) rfl ?_
  refine JQ.v (JV.pickT rfl rfl) rfl ?_
  refine JQ.v (JV.move rfl) rfl ?_
  refine JQ.vg rfl rfl (JV.move rfl) rfl ?_
  refine JQ.vg rfl rfl (JV.known (c := true) (JV.eqlI rfl rfl) (by decide)) rfl ?_
  refine JQ.v (JV.pickT rfl rfl) rfl ?_
  refine JQ.v (JV.move rfl) rfl ?_
  refine JQ.vg rfl rfl (JV.move rfl) rfl ?_
  refine JQ.xg rfl rfl (JO.buildSlice 13 (us := [iv 2]) (e := 3) (evp_cons rfl evp_nil) (fun w => by kernel_rfl)) rfl ?_
  intro i15_28
  refine JQ.vg rfl rfl (JV.known (c := true) (JV.callM Tryd.call24 (evs_cons rfl (evs_cons rfl evs_nil)) (fun w hw => same14_spec _ _ [2] [2] (by decide) (by decide) w (hw.reads (id := 115) rfl) (reads_cells9 (hw.blk (id := 13) rfl) rfl rfl (by decide)))) (decide_eq_true rfl)) rfl ?_
  refine JQ.v (JV.pickT rfl rfl) rfl ?_
  refine JQ.v (JV.move rfl) rfl ?_
  refine JQ.vg rfl rfl (JV.move rfl) rfl ?_
  refine JQ.xg rfl rfl (JO.buildSlice 14 (us := [iv 1]) (e := 3) (evp_cons rfl evp_nil) (fun w => by kernel_rfl)) rfl ?_
  intro i15_33
  refine JQ.vg rfl rfl (JV.known (c := true) (JV.callM Tryd.call24 (evs_cons rfl (evs_cons rfl evs_nil)) (fun w hw => same14_spec _ _ [1] [1] (by decide) (by decide) w (hw.reads (id := 116) rfl) (reads_cells9 (hw.blk (id := 14) rfl) rfl rfl (by decide)))) (decide_eq_true rfl)) rfl ?_
  refine JQ.v (JV.pickT rfl rfl) rfl ?_
  refine JQ.v (JV.move rfl) rfl ?_
  refine JQ.vg rfl rfl (JV.fieldAddrK (o := 1) rfl Tryd.runUnderlying29 rfl Tryd.sizeOf27 rfl rfl) rfl ?_
  refine JQ.vg rfl rfl (JV.load1 3 rfl rfl Tryd.isAgg27 (rfl)) rfl ?_
  refine JQ.vg rfl rfl (JV.idxRo 110 (k := 0) rfl rfl rfl Tryd.runUnderlying27 Tryd.sizeOf34 (by decide) (by decide)) rfl ?_
  refine JQ.vg rfl rfl (JV.fieldAddrRo 110 rfl rfl (by decide) (by decide) Tryd.runUnderlying34 rfl Tryd.sizeOf3 rfl) rfl ?_
  refine JQ.vg rfl rfl (JV.loadR 110 rfl rfl Tryd.isAgg3 (sK_16)) rfl ?_
  refine JQ.vg rfl rfl (JV.known (c := true) (JV.eqlI rfl rfl) (by decide)) rfl ?_
  refine JQ.v (JV.pickT rfl rfl) rfl ?_
  refine JQ.v (JV.move rfl) rfl ?_
  refine JQ.vg rfl rfl (JV.fieldAddrK (o := 1) rfl Tryd.runUnderlying29 rfl Tryd.sizeOf27 rfl rfl) rfl ?_
  refine JQ.vg rfl rfl (JV.load1 3 rfl rfl Tryd.isAgg27 (rfl)) rfl ?_
  refine JQ.vg rfl rfl (JV.idxRo 110 (k := 1) rfl rfl rfl Tryd.runUnderlying27 Tryd.sizeOf34 (by decide) (by decide)) rfl ?_
  refine JQ.vg rfl rfl (JV.fieldAddrRo 110 rfl rfl (by decide) (by decide) Tryd.runUnderlying34 rfl Tryd.sizeOf9 rfl) rfl ?_
  refine JQ.vg rfl rfl (JV.loadR 110 rfl rfl Tryd.isAgg9 (sK_val)) rfl ?_
  refine JQ.vg rfl rfl (JV.lenStr rfl Tryd.runUnderlying9) rfl ?_
  refine JQ.vg rfl rfl (JV.known (c := true) (JV.eqlN (b := 32) rfl rfl) (decide_eq_true (Pl.val_len _))) rfl ?_
  refine JQ.v (JV.pickT rfl rfl) rfl ?_
  refine JQ.v (JV.move rfl) rfl ?_
  refine JQ.vg rfl rfl (JV.loadV 11 rfl rfl Tryd.isAgg34 Tryd.sizeOf34 rfl) rfl ?_
  refine JQ.vg rfl rfl (JV.build (v := .agg (kc sK3).toArray) (evp_cons rfl (evp_cons rfl (evp_cons rfl (evp_cons rfl (evp_cons rfl (evp_cons rfl evp_nil)))))) (fun w => by kernel_rfl)) rfl ?_
  refine JQ.vg rfl rfl (JV.known (c := true) (JV.eqlKey (a := sK3) (b := sK3) rfl rfl) (decide_eq_true rfl)) rfl ?_
  refine JQ.v (JV.pickT rfl rfl) rfl ?_
  refine JQ.v (JV.assign rfl) rfl ?_
  refine JQ.nil ?_
  refine JQ.n_then ?_
  refine JQ.ret ?_
  refine JQ.done1 Tryd.results9 rfl ?_
  exact fun w hw => ⟨rfl, hw.below⟩
end Go.Fw
end
section
open Go.RowKit
set_option maxRecDepth 100000
set_option linter.unusedVariables false
set_option linter.unusedSimpArgs false
namespace Go.Fw
open Go.Proofs
theorem reads_tnil (w : World) : Reads w (.slice none 0 0) 3 ([] : List Pl.Typ).length (tcs []) := ⟨rfl, none, 0, rfl, ⟨Nat.le_refl _, by decide⟩, .inl rfl⟩
theorem reads_qnil (w : World) : Reads w (.slice none 0 0) 5 0 [] := ⟨rfl, none, 0, rfl, ⟨Nat.le_refl _, by decide⟩, .inl rfl⟩
theorem vtl_ok {n : Int} : ∀ {last : Int} {ks : List Pl.Key}, vtl n last ks = true → (∀ i, i < ks.length → vkR (Pl.at_ ks i) = true ∧ last < (Pl.at_ ks i).id ∧ (Pl.at_ ks i).id < n ∧ (Pl.at_ ks i).par < n) ∧ Pl.incr ks
  | _, [], _ => ⟨fun i h => by simp at h, fun i j _ h => by simp at h⟩
  | last, k :: ks, h => by
    simp only [vtl, Bool.and_eq_true, decide_eq_true_eq] at h
    obtain ⟨h1, h2, h3, h4, h5⟩ := h
    obtain ⟨h6, h7⟩ := vtl_ok h5
    have a0 : ∀ i, Pl.at_ (k :: ks) (i + 1) = Pl.at_ ks i := fun i => rfl
    refine ⟨fun i hi => ?_, fun i j hij hj => ?_⟩
    · cases i with
      | zero => exact ⟨h1, h2, h3, h4⟩
      | succ i =>
        rw [a0]
        have := h6 i (by simpa using hi)
        exact ⟨this.1, by omega, this.2.2.1, this.2.2.2⟩
    · cases j with
      | zero => omega
      | succ j =>
        have hj' : j < ks.length := by simpa using hj
        cases i with
        | zero => rw [a0]; exact (h6 j hj').2.1
        | succ i => rw [a0, a0]; exact h7 i j (by omega) hj'
theorem vtab_ok {n : Int} {ks : List Pl.Key} (h : vtab n ks = true) (hl : ks.length ≤ 4000) : tabOk n ks := by
  simp only [vtab, Pl.within, Bool.and_eq_true, decide_eq_true_eq] at h
  obtain ⟨_, hn, hv⟩ := h
  obtain ⟨h1, h2⟩ := vtl_ok hv
  exact ⟨hl, hn, h2, h1⟩
theorem few_all {ts : List Pl.Typ} {rs : List Pl.Rule} {nq : Nat} {n : Int} {ks : List Pl.Key} (h : fewT ts rs nq n ks = true) : tabOk n ks ∧ ts.length ≤ 40 ∧ rs.length ≤ 100 ∧ ks.length ≤ 30 := by
  simp only [fewT, fewP, Bool.and_eq_true, decide_eq_true_eq] at h
  exact ⟨vtab_ok h.2.2 (by omega), h.1.1, h.1.2.1, h.2.1⟩
theorem few_tab {ts : List Pl.Typ} {rs : List Pl.Rule} {nq : Nat} {n : Int} {ks : List Pl.Key} (h : fewT ts rs nq n ks = true) : tabOk n ks := (few_all h).1
theorem lineL_le {ks : List Pl.Key} (hs : Pl.incr ks) (hl : ks.length ≤ 4000) (id : Int) : (Pl.lineL ks id).length ≤ 4611686018427387904 := by
  unfold Pl.lineL; split
  · have := Pl.line_len hs id; omega
  · simp
theorem sameT_refl (n : Int) (ks : List Pl.Key) : sameT n n ks ks = true := by simp [sameT]
theorem keyT_len (ts : List Pl.Typ) (rs : List Pl.Rule) (n : Int) (ks : List Pl.Key) (now id : Int) (sd : List UInt8) : (keyT ts rs n ks now id sd).keys.length ≤ ks.length + 1 := by
  unfold keyT addT
  split
  · simp
  · split
    · simp
    · show (keys1 ks id ++ [_]).length ≤ _
      rw [List.length_append, keys1_len]; exact Nat.le_refl _
theorem keyT_le {ts : List Pl.Typ} {rs : List Pl.Rule} {n : Int} {ks : List Pl.Key} (hl : ks.length ≤ 4000) (now id : Int) (sd : List UInt8) : (keyT ts rs n ks now id sd).keys.length ≤ 4611686018427387904 := by
  have := keyT_len ts rs n ks now id sd; omega
theorem allR_len (ts : List Pl.Typ) (rs : List Pl.Rule) (now : Int) : ∀ (is : List Int) (n : Int) (ks : List Pl.Key) (sd : List UInt8) (made : List Int), (allR ts rs now n ks sd made is).ks.length ≤ ks.length + is.length ∧ (allR ts rs now n ks sd made is).ids.length ≤ made.length + is.length
  | [], n, ks, sd, made => ⟨Nat.le_refl _, Nat.le_refl _⟩
  | id :: is, n, ks, sd, made => by
    rw [allR]; split
    · exact ⟨Nat.zero_le _, Nat.zero_le _⟩
    · have h := allR_len ts rs now is (keyT ts rs n ks now id sd).next (keyT ts rs n ks now id sd).keys (keyS ts rs n ks now id sd) (made ++ [keyI ts rs n ks now id])
      have h2 := keyT_len ts rs n ks now id sd
      rw [List.length_append] at h
      simp only [List.length_cons, List.length_nil] at h ⊢
      omega
theorem allR_le {ts : List Pl.Typ} {rs : List Pl.Rule} {n : Int} {ks : List Pl.Key} {is : List Int} (hok : tabOk n ks) (hl : ks.length ≤ 30) (hi : is.length ≤ 10) (now : Int) (sd : List UInt8) : (allR ts rs now n ks sd [] is).ks.length ≤ 4611686018427387904 ∧ (allR ts rs now n ks sd [] is).ids.length ≤ 4611686018427387904 := by
  have := allR_len ts rs now is n ks sd []
  simp only [List.length_nil] at this
  omega
theorem dueL_le {ks : List Pl.Key} (hl : ks.length ≤ 4000) (ts : List Pl.Typ) (now ahead : Int) : (dueL ts ks now ahead).length ≤ 4611686018427387904 := by
  unfold dueL; split
  · simp
  · have := dueN_len ts ks now ahead ks.length; omega
section
variable {P : Program} {w0 : World} {F : FL} {L : ML} {dst : Option Tmp} {ty t e : TypeId} {pos : String} {af : Array Edge} {gd : Option (Nat × Bool)}
/-- append to a slice of no elements that was just built -/
theorem JO.append0 (id : Nat) {s x : Operand} {tx : TypeId} {m size bytes b : Nat} {news : List Value} {xv : Value} (hE : Elem P t e size bytes) (hs : evk F s = some (.slice (some ⟨b, 0, none⟩) 0 0)) (hx : evk F x = some xv) (hr : lr L id = some (.cells b [] e (0, 0)))
    (hn : ∀ w, MemOk w0 L w → Src P w tx xv size m news) (h1 : news.all Value.oneCell' = true) (h63 : m ≤ 140737488355328) (hby : m * bytes ≤ 140737488355328) :
    JO P w0 F L ⟨dst, .call ⟨.builtin .append, #[s, x], #[t, tx]⟩, ty, pos, af, gd⟩ (fun v' w' => ∃ i : Value, v' = slv i m ∧ MemOk w0 ((id, .row (slv i m) e size m news) :: L) w') := by
  intro a w hF hL
  have h2 : MemOk w0 ((id, .row (.slice (some ⟨b, 0, none⟩) 0 0) e size 0 []) :: L) w := hL.rowOf id hr (by simp) (by decide) rfl
  have hS := hn w hL
  obtain ⟨v', w', hrun, hM⟩ := run_append h2 id hE (by rw [lr_cons, if_pos rfl]) hS h1 (by omega) (by rw [Nat.zero_add]; exact hby) ty
  rw [Nat.zero_add, List.nil_append] at hM
  have e1 := hF.at hs (by simp [Op.operands, Call.operands])
  have e2 := hF.at hx (by simp [Op.operands, Call.operands])
  have hsl := ownsRow_slv (show World.ownsRow _ _ _ _ _ _ _ from hM.ok id (.row v' e size m news) (by rw [lr_cons, if_pos rfl]))
  refine Yields.of_run (v := v') (w' := w') ?_ ⟨v', hsl, ?_⟩
  · simp only [execOp, resolve, invoke, builtin, Sem.run_bind, Sem.run_pure, Result.andThen_ok, List.map_toArray, List.map_cons, List.map_nil, e1, e2, hrun]
  · rw [← hsl]
    refine hM.sub fun j r hj => ?_
    rw [lr_cons] at hj ⊢
    split at hj
    · rename_i h; rw [if_pos h]; exact hj
    · rename_i h; rw [if_neg h, lr_cons, if_neg h]; exact hj
end
attribute [local irreducible] kcs tcs rcs Pl.ix Pl.lb Pl.getE Pl.getK Pl.fnd Pl.nextO Pl.at_ Pl.line Pl.lineL Pl.newest Pl.tyAt Pl.isTy Pl.outG Pl.outR Pl.usesG Pl.usesR Pl.nextB Pl.nextI kchk kchK life0 lifeK addT addI addE keyT keyE keyS keyI allR dueL Pl.val Pl.seed fewT vtab
set_option maxHeartbeats 1000000 in
theorem linesLaw (n : Int) (kv : Value) (ks : List Pl.Key) (hl : ks.length ≤ 9223372036854775807) (id : Int) (w : World) (hr : Reads w kv 9 ks.length (kcs ks)) (hB : Gl 0 byRule w) (hG : Gl 2 (Pl.K.map u32) w) :
    Calls Tryd.prog 6 #[.agg [iv n, kv].toArray, iv id] w fun e w' => e = .returned (.bool true) ∧ Below w.heap.size w w' := by
  
  refine enterA (vs := [_, _]) Tryd.func6 rfl 91 rfl [(902, .ro (gv 2 64) 1 64 (Pl.K.map u32)), (900, .ro (gv 0 15) 1 15 byRule), (100, .ro kv 9 ks.length (kcs ks))] (((MemOk.start1 100 hr).addRo 900 hB (ro_cons ro_nil)).addRo 902 hG (ro_cons (ro_cons ro_nil))) ?_
  refine JQ.seq ?_
  refine JQ.region ?_
  refine JQ.x (JO.box 1 rfl rfl) rfl ?_
  intro i0_0
  refine JQ.v (JV.assign rfl) rfl ?_
  refine JQ.nil ?_
  refine JQ.n_then ?_
  refine JQ.seq ?_
  refine JQ.region ?_
  refine JQ.v (JV.callM Tryd.call9 evs_nil (fun w hw => san_spec w (hw.reads (id := 900) rfl) (hw.reads (id := 902) rfl))) rfl ?_
  refine JQ.v (JV.assign rfl) rfl ?_
  refine JQ.nil ?_
  refine JQ.n_then ?_
  refine JQ.seq ?_
  refine JQ.seq ?_
  refine JQ.region ?_
  refine JQ.v (JV.build (v := .agg [str [], .slice none 0 0, .slice none 0 0, .slice none 0 0].toArray) evp_nil (fun w => by kernel_rfl)) rfl ?_
  refine JQ.v (JV.loadV 1 rfl rfl Tryd.isAgg29 Tryd.sizeOf29 rfl) rfl ?_
  refine JQ.v (JV.callM Tryd.call10 (evs_cons rfl (evs_cons rfl evs_nil)) (fun w hw => few35_spec [] (.slice none 0 0) (.slice none 0 0) (.slice none 0 0) [] [] 0 [] n kv ks hl w (reads_tnil w) (reads_rnil w) (reads_qnil w) (hw.reads (id := 100) rfl))) rfl ?_
  refine JQ.v (JV.notB rfl) rfl ?_
  refine JQ.nil ?_
  refine JQ.n_then ?_
  refine JQ.cond rfl (fun h22 => ?_) (fun h22 => ?_)
  · refine JQ.seq ?_
    refine JQ.region ?_
    refine JQ.v (JV.move rfl) rfl ?_
    refine JQ.v (JV.assign rfl) rfl ?_
    refine JQ.nil ?_
    refine JQ.n_then ?_
    refine JQ.ret ?_
    refine JQ.r_then ?_
    refine JQ.done1 Tryd.results6 rfl ?_
    exact fun w hw => ⟨rfl, hw.below⟩
  · refine JQ.skip ?_
    refine JQ.n_then ?_
    refine JQ.seq ?_
    have hok := few_tab (by simpa using h22)
    have hlen := hok.1
    refine JQ.region ?_
    refine JQ.v (JV.loadV 1 rfl rfl Tryd.isAgg29 Tryd.sizeOf29 rfl) rfl ?_
    refine JQ.v (JV.move rfl) rfl ?_
    refine JQ.v (JV.callM Tryd.call20 (evs_cons rfl (evs_cons rfl evs_nil)) (fun w hw => next1_spec n kv ks (by omega) hok.2.2.1 hok.ver id w (hw.reads (id := 100) rfl))) rfl ?_
    refine JQ.v (JV.move rfl) rfl ?_
    refine JQ.v (JV.extract rfl rfl) rfl ?_
    refine JQ.v (JV.extract rfl rfl) rfl ?_
    refine JQ.v (JV.assign rfl) rfl ?_
    refine JQ.v (JV.assign rfl) rfl ?_
    refine JQ.nil ?_
    refine JQ.n_then ?_
    refine JQ.seq ?_
    refine JQ.region ?_
    refine JQ.v (JV.loadV 1 rfl rfl Tryd.isAgg29 Tryd.sizeOf29 rfl) rfl ?_
    refine JQ.v (JV.move rfl) rfl ?_
    refine JQ.v (JV.callM Tryd.call21 (evs_cons rfl (evs_cons rfl evs_nil)) (fun w hw => rnext1_spec n kv ks (by omega) hok.ver id w (hw.reads (id := 100) rfl))) rfl ?_
    refine JQ.v (JV.move rfl) rfl ?_
    refine JQ.v (JV.extract rfl rfl) rfl ?_
    refine JQ.v (JV.extract rfl rfl) rfl ?_
    refine JQ.v (JV.assign rfl) rfl ?_
    refine JQ.v (JV.assign rfl) rfl ?_
    refine JQ.nil ?_
    refine JQ.n_then ?_
    refine JQ.seq ?_
    refine JQ.region ?_
    refine JQ.v (JV.loadV 1 rfl rfl Tryd.isAgg29 Tryd.sizeOf29 rfl) rfl ?_
    refine JQ.v (JV.move rfl) rfl ?_
    refine JQ.v (JV.callM Tryd.call12 (evs_cons rfl (evs_cons rfl evs_nil)) (fun w hw => newest_spec n kv ks (by omega) hok.2.2.1 hok.ver id w (hw.reads (id := 100) rfl))) rfl ?_
    refine JQ.v (JV.move rfl) rfl ?_
    refine JQ.v (JV.extract rfl rfl) rfl ?_
    refine JQ.v (JV.extract rfl rfl) rfl ?_
    refine JQ.v (JV.assign rfl) rfl ?_
    refine JQ.v (JV.assign rfl) rfl ?_
    refine JQ.nil ?_
    refine JQ.n_then ?_
    refine JQ.seq ?_
    refine JQ.region ?_
    refine JQ.v (JV.loadV 1 rfl rfl Tryd.isAgg29 Tryd.sizeOf29 rfl) rfl ?_
    refine JQ.v (JV.move rfl) rfl ?_
    refine JQ.v (JV.callM Tryd.call22 (evs_cons rfl (evs_cons rfl evs_nil)) (fun w hw => rnewest_spec n kv ks (by omega) hok.2.2.1 hok.ver id w (hw.reads (id := 100) rfl))) rfl ?_
    refine JQ.v (JV.move rfl) rfl ?_
    refine JQ.v (JV.extract rfl rfl) rfl ?_
    refine JQ.v (JV.extract rfl rfl) rfl ?_
    refine JQ.v (JV.assign rfl) rfl ?_
    refine JQ.v (JV.assign rfl) rfl ?_
    refine JQ.nil ?_
    refine JQ.n_then ?_
    refine JQ.seq ?_
    refine JQ.region ?_
    refine JQ.v (JV.loadV 1 rfl rfl Tryd.isAgg29 Tryd.sizeOf29 rfl) rfl ?_
    refine JQ.v (JV.move rfl) rfl ?_
    refine JQ.x (JO.callNew 50 (fun v => .tuple #[v, iv (Pl.getE ks id)]) Tryd.call14 (evs_cons rfl (evs_cons rfl evs_nil)) (fun w hw => lineS_spec n kv ks (by omega) hok.2.2.1 hok.ver id w (hw.reads (id := 100) rfl))) rfl ?_
    intro i8_2
    refine JQ.v (JV.move rfl) rfl ?_
    refine JQ.v (JV.extract rfl rfl) rfl ?_
    refine JQ.v (JV.extract rfl rfl) rfl ?_
    refine JQ.v (JV.assign rfl) rfl ?_
    refine JQ.v (JV.assign rfl) rfl ?_
    refine JQ.nil ?_
    refine JQ.n_then ?_
    refine JQ.seq ?_
    refine JQ.region ?_
    refine JQ.v (JV.loadV 1 rfl rfl Tryd.isAgg29 Tryd.sizeOf29 rfl) rfl ?_
    refine JQ.v (JV.move rfl) rfl ?_
    refine JQ.x (JO.callNew 51 (fun v => .tuple #[v, iv (Pl.getE ks id)]) Tryd.call23 (evs_cons rfl (evs_cons rfl evs_nil)) (fun w hw => rlineS_spec n kv ks (by omega) hok.2.2.1 hok.ver id w (hw.reads (id := 100) rfl))) rfl ?_
    intro i9_2
    refine JQ.v (JV.move rfl) rfl ?_
    refine JQ.v (JV.extract rfl rfl) rfl ?_
    refine JQ.v (JV.extract rfl rfl) rfl ?_
    refine JQ.v (JV.assign rfl) rfl ?_
    refine JQ.v (JV.assign rfl) rfl ?_
    refine JQ.nil ?_
    refine JQ.n_then ?_
    refine JQ.seq ?_
    refine JQ.region ?_
    refine JQ.v (JV.move rfl) rfl ?_
    refine JQ.v (JV.move rfl) rfl ?_
    refine JQ.vg rfl rfl (JV.move rfl) rfl ?_
    refine JQ.vg rfl rfl (JV.move rfl) rfl ?_
    refine JQ.vg rfl rfl (JV.known (c := true) (JV.eqlI rfl rfl) (by simp)) rfl ?_
    refine JQ.v (JV.pickT rfl rfl) rfl ?_
    refine JQ.v (JV.move rfl) rfl ?_
    refine JQ.vg rfl rfl (JV.move rfl) rfl ?_
    refine JQ.vg rfl rfl (JV.move rfl) rfl ?_
    refine JQ.vg rfl rfl (JV.known (c := true) (JV.eqlB rfl rfl Tryd.underlying4) (by simp)) rfl ?_
    refine JQ.v (JV.pickT rfl rfl) rfl ?_
    refine JQ.v (JV.move rfl) rfl ?_
    refine JQ.vg rfl rfl (JV.move rfl) rfl ?_
    refine JQ.vg rfl rfl (JV.move rfl) rfl ?_
    refine JQ.vg rfl rfl (JV.known (c := true) (JV.eqlI rfl rfl) (by simp)) rfl ?_
    refine JQ.v (JV.pickT rfl rfl) rfl ?_
    refine JQ.v (JV.move rfl) rfl ?_
    refine JQ.vg rfl rfl (JV.move rfl) rfl ?_
    refine JQ.vg rfl rfl (JV.move rfl) rfl ?_
    refine JQ.vg rfl rfl (JV.known (c := true) (JV.eqlI rfl rfl) (by simp)) rfl ?_
    refine JQ.v (JV.pickT rfl rfl) rfl ?_
    refine JQ.v (JV.move rfl) rfl ?_
    refine JQ.vg rfl rfl (JV.move rfl) rfl ?_
    refine JQ.vg rfl rfl (JV.move rfl) rfl ?_
    refine JQ.vg rfl rfl (JV.known (c := true) (JV.eqlI rfl rfl) (by simp)) rfl ?_
    refine JQ.v (JV.pickT rfl rfl) rfl ?_
    refine JQ.v (JV.move rfl) rfl ?_
    refine JQ.vg rfl rfl (JV.move rfl) rfl ?_
    refine JQ.vg rfl rfl (JV.move rfl) rfl ?_
    refine JQ.vg rfl rfl (JV.known (c := true) (JV.callM Tryd.call24 (evs_cons rfl (evs_cons rfl evs_nil)) (fun w hw => same14_spec _ _ (Pl.lineL ks id) (Pl.lineL ks id) (lineL_le hok.2.2.1 hlen id) (lineL_le hok.2.2.1 hlen id) w (hw.reads (id := 50) rfl) (hw.reads (id := 51) rfl))) (by simp)) rfl ?_
    refine JQ.v (JV.pickT rfl rfl) rfl ?_
    refine JQ.v (JV.assign rfl) rfl ?_
    refine JQ.nil ?_
    refine JQ.n_then ?_
    refine JQ.ret ?_
    refine JQ.done1 Tryd.results6 rfl ?_
    exact fun w hw => ⟨rfl, hw.below⟩

set_option maxHeartbeats 1000000 in
theorem keyLaw (pn : List UInt8) (tv rv qv : Value) (ts : List Pl.Typ) (rs : List Pl.Rule) (nq : Nat) (qx : List Value) (n : Int) (kv : Value) (ks : List Pl.Key) (hl : ks.length ≤ 9223372036854775807) (sd : List UInt8) (a0 a1 : Int) (w : World) (ht : Reads w tv 3 ts.length (tcs ts)) (hru : Reads w rv 3 rs.length (rcs rs)) (hq : Reads w qv 5 nq qx) (hr : Reads w kv 9 ks.length (kcs ks)) (hB : Gl 0 byRule w) (hG : Gl 2 (Pl.K.map u32) w) (hR : Gl 1 (Pl.K.map u32) w) :
    Calls Tryd.prog 5 #[.agg [str pn, tv, rv, qv].toArray, .agg [iv n, kv].toArray, str sd, .agg [iv a0, iv a1].toArray] w fun e w' => e = .returned (.bool true) ∧ Below w.heap.size w w' := by
  
  refine enterA (vs := [_, _, _, _]) Tryd.func5 rfl 93 rfl [(902, .ro (gv 2 64) 1 64 (Pl.K.map u32)), (901, .ro (gv 1 64) 1 64 (Pl.K.map u32)), (900, .ro (gv 0 15) 1 15 byRule), (101, .ro tv 3 ts.length (tcs ts)), (102, .ro rv 3 rs.length (rcs rs)), (103, .ro qv 5 nq qx), (100, .ro kv 9 ks.length (kcs ks))] (((((((MemOk.start1 100 hr).addRo 103 hq (ro_cons ro_nil)).addRo 102 hru (ro_cons (ro_cons ro_nil))).addRo 101 ht (ro_cons (ro_cons (ro_cons ro_nil)))).addRo 900 hB (ro_cons (ro_cons (ro_cons (ro_cons ro_nil))))).addRo 901 hR (ro_cons (ro_cons (ro_cons (ro_cons (ro_cons ro_nil)))))).addRo 902 hG (ro_cons (ro_cons (ro_cons (ro_cons (ro_cons (ro_cons ro_nil))))))) ?_
  refine JQ.seq ?_
  refine JQ.region ?_
  refine JQ.x (JO.box 1 rfl rfl) rfl ?_
  intro i0_0
  refine JQ.x (JO.box 2 rfl rfl) rfl ?_
  intro i0_1
  refine JQ.x (JO.box 3 rfl rfl) rfl ?_
  intro i0_2
  refine JQ.v (JV.assign rfl) rfl ?_
  refine JQ.nil ?_
  refine JQ.n_then ?_
  refine JQ.seq ?_
  refine JQ.region ?_
  refine JQ.v (JV.callM Tryd.call9 evs_nil (fun w hw => san_spec w (hw.reads (id := 900) rfl) (hw.reads (id := 902) rfl))) rfl ?_
  refine JQ.v (JV.assign rfl) rfl ?_
  refine JQ.nil ?_
  refine JQ.n_then ?_
  refine JQ.seq ?_
  refine JQ.seq ?_
  refine JQ.region ?_
  refine JQ.v (JV.loadV 1 rfl rfl Tryd.isAgg26 Tryd.sizeOf26 rfl) rfl ?_
  refine JQ.v (JV.loadV 2 rfl rfl Tryd.isAgg29 Tryd.sizeOf29 rfl) rfl ?_
  refine JQ.v (JV.callM Tryd.call10 (evs_cons rfl (evs_cons rfl evs_nil)) (fun w hw => few35_spec pn tv rv qv ts rs nq qx n kv ks hl w (hw.reads (id := 101) rfl) (hw.reads (id := 102) rfl) (hw.reads (id := 103) rfl) (hw.reads (id := 100) rfl))) rfl ?_
  refine JQ.v (JV.notB rfl) rfl ?_
  refine JQ.vb (JV.move rfl) rfl (fun g2_4 => ?_) (fun g2_4 => ?_)
  · refine JQ.g0 rfl rfl rfl rfl ?_
    refine JQ.g0 rfl rfl rfl rfl ?_
    refine JQ.g0 rfl rfl rfl rfl ?_
    refine JQ.v (JV.pickT rfl rfl) rfl ?_
    refine JQ.nil ?_
    refine JQ.n_then ?_
    refine JQ.condT rfl ?_
    refine JQ.seq ?_
    refine JQ.region ?_
    refine JQ.v (JV.move rfl) rfl ?_
    refine JQ.v (JV.assign rfl) rfl ?_
    refine JQ.nil ?_
    refine JQ.n_then ?_
    refine JQ.ret ?_
    refine JQ.r_then ?_
    refine JQ.done1 Tryd.results5 rfl ?_
    exact fun w hw => ⟨rfl, hw.below⟩
  · refine JQ.vg rfl rfl (JV.move rfl) rfl ?_
    refine JQ.vg rfl rfl (JV.lenStr rfl Tryd.runUnderlying9) rfl ?_
    refine JQ.vg rfl rfl (JV.gtrN (b := 100) rfl rfl) rfl ?_
    refine JQ.v (JV.pickF rfl rfl) rfl ?_
    refine JQ.nil ?_
    refine JQ.n_then ?_
    refine JQ.condP rfl (fun h27 => ?_) (fun h27 => ?_)
    · refine JQ.seq ?_
      refine JQ.region ?_
      refine JQ.v (JV.move rfl) rfl ?_
      refine JQ.v (JV.assign rfl) rfl ?_
      refine JQ.nil ?_
      refine JQ.n_then ?_
      refine JQ.ret ?_
      refine JQ.r_then ?_
      refine JQ.done1 Tryd.results5 rfl ?_
      exact fun w hw => ⟨rfl, hw.below⟩
    · refine JQ.skip ?_
      refine JQ.n_then ?_
      refine JQ.seq ?_
      have hff := few_all (by simpa using g2_4)
      have hok := hff.1
      have hlen := hok.1
      have hl2 := hff.2
      refine JQ.any [_, _, _, _, _, _, _, _, _] [fun _ => [], fun _ => [], _, fun _ => [], fun _ => [], _, fun _ => [], _, _] [⟨[], [], [], []⟩, ⟨[2], [], [], [0]⟩, ⟨[], [56], [], []⟩, ⟨[], [], [], []⟩, ⟨[2], [], [], [3]⟩, ⟨[100], [56], [2], [2, 3, 4]⟩, ⟨[], [], [2, 5], [0, 1, 2, 3, 4, 5]⟩, ⟨[], [4], [], []⟩, ⟨[], [4], [2, 5, 7], [0, 1, 2, 3, 4, 5, 6, 7]⟩] Tryd.mixed rfl (by kernel_rfl) ⟨Ob.v rfl (fun _ _ h => by cases h) (fun _ _ _ => rfl) (fun e L' hL => JV.fieldAddrK (o := 0) rfl Tryd.runUnderlying29 rfl Tryd.sizeOf3 rfl rfl),
                Ob.v rfl (fun _ _ h => by cases h) (fun _ _ _ => rfl) (fun e L' hL => JV.load1 2 rfl ((hL 2 (by decide)).trans rfl) Tryd.isAgg3 (rfl)),
                Ob.nb 56 rfl (fun _ _ h => by cases h) (fun _ _ _ => ⟨rfl, rfl⟩) (by decide) (fun e L' hL => JO.buildSlice 56 (us := []) (e := 34) evp_nil (fun w => by kernel_rfl)),
                Ob.v rfl (fun _ _ h => by cases h) (fun _ _ _ => rfl) (fun e L' hL => JV.fieldAddrK (o := 1) rfl Tryd.runUnderlying29 rfl Tryd.sizeOf27 rfl rfl),
                Ob.v rfl (fun _ _ h => by cases h) (fun _ _ _ => rfl) (fun e L' hL => JV.load1 2 rfl ((hL 2 (by decide)).trans rfl) Tryd.isAgg27 (rfl)),
                Ob.val 56 rfl (fun _ _ h => by cases h) (fun e e' he => by constructor <;> (funext z; first | rfl | simp only [he 2 (by decide)])) (by decide) (fun e L' hL => JO.append0 56 (m := ks.length) elem34 rfl rfl ((hL 56 (by decide)).trans rfl) (fun w hw => Src.rd Tryd.underlying27 (hw.reads (id := 100) ((hL 100 (by decide)).trans rfl))) (kcs_all ks) (by omega) (by omega)),
                Ob.v rfl (fun _ _ h => by cases h) (fun e e' he => by first | rfl | simp only [he 2 (by decide), he 5 (by decide)]) (fun e L' hL => JV.build (v := (.agg [iv n, (slv (e 5).2.2 ks.length)].toArray)) (evp_cons rfl (evp_cons rfl evp_nil)) (fun w => by kernel_rfl)),
                Ob.nb 4 rfl (fun _ _ h => by cases h) (fun _ _ _ => ⟨rfl, rfl⟩) (by decide) (fun e L' hL => JO.alloc 4 (zs := [iv 0, .slice none 0 0]) Tryd.zeroValue29 rfl),
                Ob.s 4 rfl (fun _ _ h => by cases h) (fun e e' he => by first | rfl | simp only [he 2 (by decide), he 5 (by decide), he 7 (by decide)]) (fun e L' hL => JO.storeV 4 rfl ((hL 4 (by decide)).trans rfl) rfl (us := [iv n, (slv (e 5).2.2 ks.length)]) rfl Tryd.sizeOf29 rfl rfl), trivial⟩ (fun ev4 => ?_)
      simp only [endF, endL, putF, List.nil_append, List.cons_append]
      refine JQ.n_then ?_
      refine JQ.seq ?_
      refine JQ.roOf 56 rfl ?_
      refine JQ.region ?_
      refine JQ.v (JV.loadV 1 rfl rfl Tryd.isAgg26 Tryd.sizeOf26 rfl) rfl ?_
      refine JQ.v (JV.loadV 2 rfl rfl Tryd.isAgg29 Tryd.sizeOf29 rfl) rfl ?_
      refine JQ.v (JV.move rfl) rfl ?_
      refine JQ.v (JV.build (v := .agg [str sd].toArray) (evp_cons rfl evp_nil) (fun w => by kernel_rfl)) rfl ?_
      refine JQ.v (JV.idxArr0 (k := 0) rfl rfl Tryd.runUnderlying48 Tryd.sizeOf3 (by omega)) rfl ?_
      refine JQ.v (JV.load1 3 rfl rfl Tryd.isAgg3 (rfl)) rfl ?_
      refine JQ.v (JV.idxArr0 (k := 1) rfl rfl Tryd.runUnderlying48 Tryd.sizeOf3 (by omega)) rfl ?_
      refine JQ.v (JV.load1 3 rfl rfl Tryd.isAgg3 (rfl)) rfl ?_
      refine JQ.x (JO.callRowV 60 (fun v => .tuple #[.agg [iv (keyT ts rs n ks a0 a1 sd).next, v].toArray, .agg [str (keyS ts rs n ks a0 a1 sd)].toArray, iv (keyI ts rs n ks a0 a1), iv (keyE ts rs n ks a0 a1)]) Tryd.call13 (evs_cons rfl (evs_cons rfl (evs_cons rfl (evs_cons rfl (evs_cons rfl evs_nil))))) (fun w hw => key_spec pn tv rv qv ts rs (by omega) (by omega) n kv ks hok sd (by omega) a0 a1 w (hw.reads (id := 101) rfl) (hw.reads (id := 102) rfl) (hw.reads (id := 100) rfl) (hw.reads (id := 900) rfl) (hw.reads (id := 902) rfl))) rfl ?_
      intro i5_8
      refine JQ.roOf 60 rfl ?_
      refine JQ.v (JV.move rfl) rfl ?_
      refine JQ.v (JV.extract rfl rfl) rfl ?_
      refine JQ.v (JV.extract rfl rfl) rfl ?_
      refine JQ.v (JV.extract rfl rfl) rfl ?_
      refine JQ.v (JV.extract rfl rfl) rfl ?_
      refine JQ.x (JO.alloc 5 (zs := [iv 0, .slice none 0 0]) Tryd.zeroValue29 rfl) rfl ?_
      intro i5_14
      refine JQ.x (JO.alloc 6 (zs := [str []]) Tryd.zeroValue39 rfl) rfl ?_
      intro i5_15
      refine JQ.s (JO.storeV 5 rfl rfl rfl (us := [iv (keyT ts rs n ks a0 a1 sd).next, slv i5_8 (keyT ts rs n ks a0 a1 sd).keys.length]) rfl Tryd.sizeOf29 rfl rfl) ?_
      refine JQ.s (JO.storeV 6 rfl rfl rfl (us := [str (keyS ts rs n ks a0 a1 sd)]) rfl Tryd.sizeOf39 rfl rfl) ?_
      refine JQ.v (JV.assign rfl) rfl ?_
      refine JQ.v (JV.assign rfl) rfl ?_
      refine JQ.nil ?_
      refine JQ.n_then ?_
      refine JQ.seq ?_
      refine JQ.region ?_
      refine JQ.v (JV.loadV 1 rfl rfl Tryd.isAgg26 Tryd.sizeOf26 rfl) rfl ?_
      refine JQ.v (JV.loadV 4 rfl rfl Tryd.isAgg29 Tryd.sizeOf29 rfl) rfl ?_
      refine JQ.v (JV.move rfl) rfl ?_
      refine JQ.v (JV.build (v := .agg [str sd].toArray) (evp_cons rfl evp_nil) (fun w => by kernel_rfl)) rfl ?_
      refine JQ.v (JV.idxArr0 (k := 0) rfl rfl Tryd.runUnderlying48 Tryd.sizeOf3 (by omega)) rfl ?_
      refine JQ.v (JV.load1 3 rfl rfl Tryd.isAgg3 (rfl)) rfl ?_
      refine JQ.v (JV.idxArr0 (k := 1) rfl rfl Tryd.runUnderlying48 Tryd.sizeOf3 (by omega)) rfl ?_
      refine JQ.v (JV.load1 3 rfl rfl Tryd.isAgg3 (rfl)) rfl ?_
      refine JQ.x (JO.callRowV 61 (fun v => .agg [iv (keyT ts rs n ks a0 a1 sd).next, v, str (keyS ts rs n ks a0 a1 sd), iv (keyI ts rs n ks a0 a1), .slice none 0 0, iv (keyE ts rs n ks a0 a1)].toArray) Tryd.call18 (evs_cons rfl (evs_cons rfl (evs_cons rfl (evs_cons rfl (evs_cons rfl evs_nil))))) (fun w hw => rkey_spec pn tv rv qv ts rs (by omega) (by omega) n _ ks hok sd (by omega) a0 a1 w (hw.reads (id := 101) rfl) (hw.reads (id := 102) rfl) (hw.reads (id := 56) rfl) (hw.reads (id := 901) rfl))) rfl ?_
      intro i6_8
      refine JQ.roOf 61 rfl ?_
      refine JQ.x (JO.alloc 7 (zs := [iv 0, .slice none 0 0, str [], iv 0, .slice none 0 0, iv 0]) Tryd.zeroValue57 rfl) rfl ?_
      intro i6_9
      refine JQ.s (JO.storeV 7 rfl rfl rfl (us := [iv (keyT ts rs n ks a0 a1 sd).next, slv i6_8 (keyT ts rs n ks a0 a1 sd).keys.length, str (keyS ts rs n ks a0 a1 sd), iv (keyI ts rs n ks a0 a1), .slice none 0 0, iv (keyE ts rs n ks a0 a1)]) rfl Tryd.sizeOf57 rfl rfl) ?_
      refine JQ.nil ?_
      refine JQ.n_then ?_
      refine JQ.seq ?_
      refine JQ.region ?_
      refine JQ.v (JV.loadV 5 rfl rfl Tryd.isAgg29 Tryd.sizeOf29 rfl) rfl ?_
      refine JQ.v (JV.fieldAddrK (o := 0) rfl Tryd.runUnderlying57 rfl Tryd.sizeOf29 rfl rfl) rfl ?_
      refine JQ.v (JV.loadA 7 rfl rfl Tryd.isAgg29 Tryd.sizeOf29 rfl rfl) rfl ?_
      refine JQ.v (JV.known (c := true) (JV.callM Tryd.call19 (evs_cons rfl (evs_cons rfl evs_nil)) (fun w hw => same27_spec (keyT ts rs n ks a0 a1 sd).next (keyT ts rs n ks a0 a1 sd).next _ _ (keyT ts rs n ks a0 a1 sd).keys (keyT ts rs n ks a0 a1 sd).keys (keyT_le hlen _ _ _) (keyT_le hlen _ _ _) w (hw.reads (id := 60) rfl) (hw.reads (id := 61) rfl))) (sameT_refl _ _)) rfl ?_
      refine JQ.v (JV.assign rfl) rfl ?_
      refine JQ.nil ?_
      refine JQ.n_then ?_
      refine JQ.seq ?_
      refine JQ.region ?_
      refine JQ.v (JV.loadV 2 rfl rfl Tryd.isAgg29 Tryd.sizeOf29 rfl) rfl ?_
      refine JQ.v (JV.loadV 4 rfl rfl Tryd.isAgg29 Tryd.sizeOf29 rfl) rfl ?_
      refine JQ.v (JV.known (c := true) (JV.callM Tryd.call19 (evs_cons rfl (evs_cons rfl evs_nil)) (fun w hw => same27_spec n n _ _ ks ks (by omega) (by omega) w (hw.reads (id := 100) rfl) (hw.reads (id := 56) rfl))) (sameT_refl _ _)) rfl ?_
      refine JQ.v (JV.assign rfl) rfl ?_
      refine JQ.nil ?_
      refine JQ.n_then ?_
      refine JQ.seq ?_
      refine JQ.region ?_
      refine JQ.v (JV.move rfl) rfl ?_
      refine JQ.v (JV.move rfl) rfl ?_
      refine JQ.vg rfl rfl (JV.move rfl) rfl ?_
      refine JQ.v (JV.pickT rfl rfl) rfl ?_
      refine JQ.v (JV.move rfl) rfl ?_
      refine JQ.vg rfl rfl (JV.move rfl) rfl ?_
      refine JQ.v (JV.pickT rfl rfl) rfl ?_
      refine JQ.v (JV.move rfl) rfl ?_
      refine JQ.vg rfl rfl (JV.fieldAddrK (o := 0) rfl Tryd.runUnderlying39 rfl Tryd.sizeOf9 rfl rfl) rfl ?_
      refine JQ.vg rfl rfl (JV.load1 6 rfl rfl Tryd.isAgg9 (rfl)) rfl ?_
      refine JQ.vg rfl rfl (JV.fieldAddrK (o := 2) rfl Tryd.runUnderlying57 rfl Tryd.sizeOf55 rfl rfl) rfl ?_
      refine JQ.vg rfl rfl (JV.fieldAddrK (o := 2) rfl Tryd.runUnderlying55 rfl Tryd.sizeOf9 rfl rfl) rfl ?_
      refine JQ.vg rfl rfl (JV.load1 7 rfl rfl Tryd.isAgg9 (rfl)) rfl ?_
      refine JQ.vg rfl rfl (JV.known (c := true) (JV.eqlS rfl rfl) (by simp)) rfl ?_
      refine JQ.v (JV.pickT rfl rfl) rfl ?_
      refine JQ.v (JV.move rfl) rfl ?_
      refine JQ.vg rfl rfl (JV.move rfl) rfl ?_
      refine JQ.vg rfl rfl (JV.fieldAddrK (o := 3) rfl Tryd.runUnderlying57 rfl Tryd.sizeOf3 rfl rfl) rfl ?_
      refine JQ.vg rfl rfl (JV.load1 7 rfl rfl Tryd.isAgg3 (rfl)) rfl ?_
      refine JQ.vg rfl rfl (JV.known (c := true) (JV.eqlI rfl rfl) (by simp)) rfl ?_
      refine JQ.v (JV.pickT rfl rfl) rfl ?_
      refine JQ.v (JV.move rfl) rfl ?_
      refine JQ.vg rfl rfl (JV.move rfl) rfl ?_
      refine JQ.vg rfl rfl (JV.fieldAddrK (o := 5) rfl Tryd.runUnderlying57 rfl Tryd.sizeOf35 rfl rfl) rfl ?_
      refine JQ.vg rfl rfl (JV.load1 7 rfl rfl Tryd.isAgg35 (rfl)) rfl ?_
      refine JQ.vg rfl rfl (JV.known (c := true) (JV.eqlI rfl rfl) (by simp)) rfl ?_
      refine JQ.v (JV.pickT rfl rfl) rfl ?_
      refine JQ.v (JV.assign rfl) rfl ?_
      refine JQ.nil ?_
      refine JQ.n_then ?_
      refine JQ.ret ?_
      refine JQ.done1 Tryd.results5 rfl ?_
      exact fun w hw => ⟨rfl, hw.below⟩

set_option maxHeartbeats 1000000 in
theorem allLaw (pn : List UInt8) (tv rv qv : Value) (ts : List Pl.Typ) (rs : List Pl.Rule) (nq : Nat) (qx : List Value) (n : Int) (kv : Value) (ks : List Pl.Key) (hl : ks.length ≤ 9223372036854775807) (a0 a1 : Int) (iw : Value) (is : List Int) (w : World) (ht : Reads w tv 3 ts.length (tcs ts)) (hru : Reads w rv 3 rs.length (rcs rs)) (hq : Reads w qv 5 nq qx) (hr : Reads w kv 9 ks.length (kcs ks)) (hi : Reads w iw 1 is.length (is.map iv)) (hB : Gl 0 byRule w) (hG : Gl 2 (Pl.K.map u32) w) (hR : Gl 1 (Pl.K.map u32) w) :
    Calls Tryd.prog 7 #[.agg [str pn, tv, rv, qv].toArray, .agg [iv n, kv].toArray, .agg [iv a0, iv a1].toArray, iw] w fun e w' => e = .returned (.bool true) ∧ Below w.heap.size w w' := by
  
  refine enterA (vs := [_, _, _, _]) Tryd.func7 rfl 95 rfl [(902, .ro (gv 2 64) 1 64 (Pl.K.map u32)), (901, .ro (gv 1 64) 1 64 (Pl.K.map u32)), (900, .ro (gv 0 15) 1 15 byRule), (101, .ro tv 3 ts.length (tcs ts)), (102, .ro rv 3 rs.length (rcs rs)), (103, .ro qv 5 nq qx), (100, .ro kv 9 ks.length (kcs ks)), (105, .ro iw 1 is.length (is.map iv))] ((((((((MemOk.start1 105 hi).addRo 100 hr (ro_cons ro_nil)).addRo 103 hq (ro_cons (ro_cons ro_nil))).addRo 102 hru (ro_cons (ro_cons (ro_cons ro_nil)))).addRo 101 ht (ro_cons (ro_cons (ro_cons (ro_cons ro_nil))))).addRo 900 hB (ro_cons (ro_cons (ro_cons (ro_cons (ro_cons ro_nil)))))).addRo 901 hR (ro_cons (ro_cons (ro_cons (ro_cons (ro_cons (ro_cons ro_nil))))))).addRo 902 hG (ro_cons (ro_cons (ro_cons (ro_cons (ro_cons (ro_cons (ro_cons ro_nil)))))))) ?_
  refine JQ.seq ?_
  refine JQ.region ?_
  refine JQ.x (JO.box 1 rfl rfl) rfl ?_
  intro i0_0
  refine JQ.x (JO.box 2 rfl rfl) rfl ?_
  intro i0_1
  refine JQ.x (JO.box 3 rfl rfl) rfl ?_
  intro i0_2
  refine JQ.v (JV.assign rfl) rfl ?_
  refine JQ.nil ?_
  refine JQ.n_then ?_
  refine JQ.seq ?_
  refine JQ.region ?_
  refine JQ.v (JV.callM Tryd.call9 evs_nil (fun w hw => san_spec w (hw.reads (id := 900) rfl) (hw.reads (id := 902) rfl))) rfl ?_
  refine JQ.v (JV.assign rfl) rfl ?_
  refine JQ.nil ?_
  refine JQ.n_then ?_
  refine JQ.seq ?_
  refine JQ.seq ?_
  refine JQ.region ?_
  refine JQ.v (JV.loadV 1 rfl rfl Tryd.isAgg26 Tryd.sizeOf26 rfl) rfl ?_
  refine JQ.v (JV.loadV 2 rfl rfl Tryd.isAgg29 Tryd.sizeOf29 rfl) rfl ?_
  refine JQ.v (JV.callM Tryd.call10 (evs_cons rfl (evs_cons rfl evs_nil)) (fun w hw => few35_spec pn tv rv qv ts rs nq qx n kv ks hl w (hw.reads (id := 101) rfl) (hw.reads (id := 102) rfl) (hw.reads (id := 103) rfl) (hw.reads (id := 100) rfl))) rfl ?_
  refine JQ.v (JV.notB rfl) rfl ?_
  refine JQ.vb (JV.move rfl) rfl (fun g2_4 => ?_) (fun g2_4 => ?_)
  · refine JQ.g0 rfl rfl rfl rfl ?_
    refine JQ.g0 rfl rfl rfl rfl ?_
    refine JQ.g0 rfl rfl rfl rfl ?_
    refine JQ.v (JV.pickT rfl rfl) rfl ?_
    refine JQ.nil ?_
    refine JQ.n_then ?_
    refine JQ.condT rfl ?_
    refine JQ.seq ?_
    refine JQ.region ?_
    refine JQ.v (JV.move rfl) rfl ?_
    refine JQ.v (JV.assign rfl) rfl ?_
    refine JQ.nil ?_
    refine JQ.n_then ?_
    refine JQ.ret ?_
    refine JQ.r_then ?_
    refine JQ.done1 Tryd.results7 rfl ?_
    exact fun w hw => ⟨rfl, hw.below⟩
  · refine JQ.vg rfl rfl (JV.move rfl) rfl ?_
    refine JQ.vg rfl rfl (JV.lenRo 105 rfl rfl Tryd.runUnderlying44) rfl ?_
    refine JQ.vg rfl rfl (JV.gtrN (b := 10) rfl rfl) rfl ?_
    refine JQ.v (JV.pickF rfl rfl) rfl ?_
    refine JQ.nil ?_
    refine JQ.n_then ?_
    refine JQ.condP rfl (fun h27 => ?_) (fun h27 => ?_)
    · refine JQ.seq ?_
      refine JQ.region ?_
      refine JQ.v (JV.move rfl) rfl ?_
      refine JQ.v (JV.assign rfl) rfl ?_
      refine JQ.nil ?_
      refine JQ.n_then ?_
      refine JQ.ret ?_
      refine JQ.r_then ?_
      refine JQ.done1 Tryd.results7 rfl ?_
      exact fun w hw => ⟨rfl, hw.below⟩
    · refine JQ.skip ?_
      refine JQ.n_then ?_
      refine JQ.seq ?_
      have hff := few_all (by simpa using g2_4)
      have hok := hff.1
      have hlen := hok.1
      have hl2 := hff.2
      have hi10 : is.length ≤ 10 := by omega
      refine JQ.region ?_
      refine JQ.v (JV.loadV 1 rfl rfl Tryd.isAgg26 Tryd.sizeOf26 rfl) rfl ?_
      refine JQ.v (JV.loadV 2 rfl rfl Tryd.isAgg29 Tryd.sizeOf29 rfl) rfl ?_
      refine JQ.v (JV.build (v := .agg [str [115, 101, 101, 100]].toArray) (evp_cons rfl evp_nil) (fun w => by kernel_rfl)) rfl ?_
      refine JQ.v (JV.idxArr0 (k := 0) rfl rfl Tryd.runUnderlying48 Tryd.sizeOf3 (by omega)) rfl ?_
      refine JQ.v (JV.load1 3 rfl rfl Tryd.isAgg3 (rfl)) rfl ?_
      refine JQ.v (JV.move rfl) rfl ?_
      refine JQ.x (JO.callNew2 114 115 100 (fun v m => .tuple #[.agg [iv (allR ts rs a0 n ks [115, 101, 101, 100] [] is).n, v].toArray, .agg [str (allR ts rs a0 n ks [115, 101, 101, 100] [] is).sd].toArray, m, iv (allR ts rs a0 n ks [115, 101, 101, 100] [] is).e]) Tryd.call25 (evs_cons rfl (evs_cons rfl (evs_cons rfl (evs_cons rfl (evs_cons rfl evs_nil))))) rfl (by decide) (fun w hw => all_spec pn tv rv qv ts rs (by omega) (by omega) n kv ks hok (by omega) [115, 101, 101, 100] (by decide) a0 iw is (by omega) w (hw.reads (id := 101) rfl) (hw.reads (id := 102) rfl) (hw.reads (id := 100) rfl) (hw.reads (id := 105) rfl) (hw.reads (id := 900) rfl) (hw.reads (id := 902) rfl))) rfl ?_
      intro i4_6
      refine JQ.v (JV.move rfl) rfl ?_
      refine JQ.v (JV.extract rfl rfl) rfl ?_
      refine JQ.v (JV.extract rfl rfl) rfl ?_
      refine JQ.v (JV.extract rfl rfl) rfl ?_
      refine JQ.v (JV.extract rfl rfl) rfl ?_
      refine JQ.x (JO.alloc 4 (zs := [iv 0, .slice none 0 0]) Tryd.zeroValue29 rfl) rfl ?_
      intro i4_12
      refine JQ.x (JO.alloc 5 (zs := [str []]) Tryd.zeroValue39 rfl) rfl ?_
      intro i4_13
      refine JQ.s (JO.storeV 4 rfl rfl rfl (us := [iv (allR ts rs a0 n ks [115, 101, 101, 100] [] is).n, slv i4_6.1 (allR ts rs a0 n ks [115, 101, 101, 100] [] is).ks.length]) rfl Tryd.sizeOf29 rfl rfl) ?_
      refine JQ.s (JO.storeV 5 rfl rfl rfl (us := [str (allR ts rs a0 n ks [115, 101, 101, 100] [] is).sd]) rfl Tryd.sizeOf39 rfl rfl) ?_
      refine JQ.v (JV.assign rfl) rfl ?_
      refine JQ.v (JV.assign rfl) rfl ?_
      refine JQ.nil ?_
      refine JQ.n_then ?_
      refine JQ.seq ?_
      refine JQ.region ?_
      refine JQ.v (JV.loadV 1 rfl rfl Tryd.isAgg26 Tryd.sizeOf26 rfl) rfl ?_
      refine JQ.v (JV.loadV 2 rfl rfl Tryd.isAgg29 Tryd.sizeOf29 rfl) rfl ?_
      refine JQ.v (JV.build (v := .agg [str [115, 101, 101, 100]].toArray) (evp_cons rfl evp_nil) (fun w => by kernel_rfl)) rfl ?_
      refine JQ.v (JV.idxArr0 (k := 0) rfl rfl Tryd.runUnderlying48 Tryd.sizeOf3 (by omega)) rfl ?_
      refine JQ.v (JV.load1 3 rfl rfl Tryd.isAgg3 (rfl)) rfl ?_
      refine JQ.v (JV.move rfl) rfl ?_
      refine JQ.x (JO.callNew2 116 117 100 (fun v m => .agg [iv (allR ts rs a0 n ks [115, 101, 101, 100] [] is).n, v, str (allR ts rs a0 n ks [115, 101, 101, 100] [] is).sd, iv 0, m, iv (allR ts rs a0 n ks [115, 101, 101, 100] [] is).e].toArray) Tryd.call26 (evs_cons rfl (evs_cons rfl (evs_cons rfl (evs_cons rfl (evs_cons rfl evs_nil))))) rfl (by decide) (fun w hw => rall_spec pn tv rv qv ts rs (by omega) (by omega) n kv ks hok (by omega) [115, 101, 101, 100] (by decide) a0 iw is (by omega) w (hw.reads (id := 101) rfl) (hw.reads (id := 102) rfl) (hw.reads (id := 100) rfl) (hw.reads (id := 105) rfl) (hw.reads (id := 901) rfl))) rfl ?_
      intro i5_6
      refine JQ.x (JO.alloc 6 (zs := [iv 0, .slice none 0 0, str [], iv 0, .slice none 0 0, iv 0]) Tryd.zeroValue57 rfl) rfl ?_
      intro i5_7
      refine JQ.s (JO.storeV 6 rfl rfl rfl (us := [iv (allR ts rs a0 n ks [115, 101, 101, 100] [] is).n, slv i5_6.1 (allR ts rs a0 n ks [115, 101, 101, 100] [] is).ks.length, str (allR ts rs a0 n ks [115, 101, 101, 100] [] is).sd, iv 0, slv i5_6.2 (allR ts rs a0 n ks [115, 101, 101, 100] [] is).ids.length, iv (allR ts rs a0 n ks [115, 101, 101, 100] [] is).e]) rfl Tryd.sizeOf57 rfl rfl) ?_
      refine JQ.nil ?_
      refine JQ.n_then ?_
      refine JQ.seq ?_
      refine JQ.region ?_
      refine JQ.v (JV.loadV 4 rfl rfl Tryd.isAgg29 Tryd.sizeOf29 rfl) rfl ?_
      refine JQ.v (JV.fieldAddrK (o := 0) rfl Tryd.runUnderlying57 rfl Tryd.sizeOf29 rfl rfl) rfl ?_
      refine JQ.v (JV.loadA 6 rfl rfl Tryd.isAgg29 Tryd.sizeOf29 rfl rfl) rfl ?_
      refine JQ.v (JV.known (c := true) (JV.callM Tryd.call19 (evs_cons rfl (evs_cons rfl evs_nil)) (fun w hw => same27_spec (allR ts rs a0 n ks [115, 101, 101, 100] [] is).n (allR ts rs a0 n ks [115, 101, 101, 100] [] is).n _ _ (allR ts rs a0 n ks [115, 101, 101, 100] [] is).ks (allR ts rs a0 n ks [115, 101, 101, 100] [] is).ks (allR_le hok hl2.2.2 hi10 _ _).1 (allR_le hok hl2.2.2 hi10 _ _).1 w (hw.reads (id := 114) rfl) (hw.reads (id := 116) rfl))) (sameT_refl _ _)) rfl ?_
      refine JQ.v (JV.assign rfl) rfl ?_
      refine JQ.nil ?_
      refine JQ.n_then ?_
      refine JQ.seq ?_
      refine JQ.region ?_
      refine JQ.v (JV.move rfl) rfl ?_
      refine JQ.v (JV.fieldAddrK (o := 4) rfl Tryd.runUnderlying57 rfl Tryd.sizeOf44 rfl rfl) rfl ?_
      refine JQ.v (JV.load1 6 rfl rfl Tryd.isAgg44 (rfl)) rfl ?_
      refine JQ.v (JV.known (c := true) (JV.callM Tryd.call24 (evs_cons rfl (evs_cons rfl evs_nil)) (fun w hw => same14_spec _ _ (allR ts rs a0 n ks [115, 101, 101, 100] [] is).ids (allR ts rs a0 n ks [115, 101, 101, 100] [] is).ids (allR_le hok hl2.2.2 hi10 _ _).2 (allR_le hok hl2.2.2 hi10 _ _).2 w (hw.reads (id := 115) rfl) (hw.reads (id := 117) rfl))) (by simp)) rfl ?_
      refine JQ.v (JV.assign rfl) rfl ?_
      refine JQ.nil ?_
      refine JQ.n_then ?_
      refine JQ.seq ?_
      refine JQ.any [_, _, _, _, _, _, _, _, _, _, _, _, _, _, _, _] [fun _ => [], fun _ => [], fun _ => [], fun _ => [], fun _ => [], fun _ => [], _, fun _ => [], fun _ => [], fun _ => [], fun _ => [], fun _ => [], fun _ => [], _, fun _ => [], fun _ => []] [⟨[1], [], [], []⟩, ⟨[2], [], [], []⟩, ⟨[], [], [], []⟩, ⟨[3], [], [], [2]⟩, ⟨[], [], [], []⟩, ⟨[3], [], [], [4]⟩, ⟨[100, 101], [118], [], [0, 1, 2, 3, 4, 5]⟩, ⟨[1], [], [], []⟩, ⟨[2], [], [], []⟩, ⟨[], [], [], []⟩, ⟨[3], [], [], [9]⟩, ⟨[], [], [], []⟩, ⟨[3], [], [], [11]⟩, ⟨[100, 101], [119], [], [0, 1, 2, 3, 4, 5, 6, 7, 8, 9, 10, 11, 12]⟩, ⟨[118, 119], [], [6, 13], [0, 1, 2, 3, 4, 5, 6, 7, 8, 9, 10, 11, 12, 13]⟩, ⟨[], [], [6, 13], [0, 1, 2, 3, 4, 5, 6, 7, 8, 9, 10, 11, 12, 13, 14]⟩] Tryd.mixed rfl (by kernel_rfl) ⟨Ob.v rfl (fun _ _ h => by cases h) (fun _ _ _ => rfl) (fun e L' hL => JV.loadV 1 rfl ((hL 1 (by decide)).trans rfl) Tryd.isAgg26 Tryd.sizeOf26 rfl),
                Ob.v rfl (fun _ _ h => by cases h) (fun _ _ _ => rfl) (fun e L' hL => JV.loadV 2 rfl ((hL 2 (by decide)).trans rfl) Tryd.isAgg29 Tryd.sizeOf29 rfl),
                Ob.v rfl (fun _ _ h => by cases h) (fun _ _ _ => rfl) (fun e L' hL => JV.idxArr0 (k := 0) rfl rfl Tryd.runUnderlying48 Tryd.sizeOf3 (by omega)),
                Ob.v rfl (fun _ _ h => by cases h) (fun _ _ _ => rfl) (fun e L' hL => JV.load1 3 rfl ((hL 3 (by decide)).trans rfl) Tryd.isAgg3 (rfl)),
                Ob.v rfl (fun _ _ h => by cases h) (fun _ _ _ => rfl) (fun e L' hL => JV.idxArr0 (k := 1) rfl rfl Tryd.runUnderlying48 Tryd.sizeOf3 (by omega)),
                Ob.v rfl (fun _ _ h => by cases h) (fun _ _ _ => rfl) (fun e L' hL => JV.load1 3 rfl ((hL 3 (by decide)).trans rfl) Tryd.isAgg3 (rfl)),
                Ob.val 118 rfl (fun _ _ h => by cases h) (fun _ _ _ => ⟨rfl, rfl⟩) (by decide) (fun e L' hL => JO.callRo 118 Tryd.call27 (evs_cons rfl (evs_cons rfl (evs_cons rfl (evs_cons rfl evs_nil)))) (fun w hw => due_spec pn tv rv qv ts rs n kv ks hok a0 a1 w (hw.reads (id := 101) ((hL 101 (by decide)).trans rfl)) (hw.reads (id := 100) ((hL 100 (by decide)).trans rfl)))),
                Ob.v rfl (fun _ _ h => by cases h) (fun _ _ _ => rfl) (fun e L' hL => JV.loadV 1 rfl ((hL 1 (by decide)).trans rfl) Tryd.isAgg26 Tryd.sizeOf26 rfl),
                Ob.v rfl (fun _ _ h => by cases h) (fun _ _ _ => rfl) (fun e L' hL => JV.loadV 2 rfl ((hL 2 (by decide)).trans rfl) Tryd.isAgg29 Tryd.sizeOf29 rfl),
                Ob.v rfl (fun _ _ h => by cases h) (fun _ _ _ => rfl) (fun e L' hL => JV.idxArr0 (k := 0) rfl rfl Tryd.runUnderlying48 Tryd.sizeOf3 (by omega)),
                Ob.v rfl (fun _ _ h => by cases h) (fun _ _ _ => rfl) (fun e L' hL => JV.load1 3 rfl ((hL 3 (by decide)).trans rfl) Tryd.isAgg3 (rfl)),
                Ob.v rfl (fun _ _ h => by cases h) (fun _ _ _ => rfl) (fun e L' hL => JV.idxArr0 (k := 1) rfl rfl Tryd.runUnderlying48 Tryd.sizeOf3 (by omega)),
                Ob.v rfl (fun _ _ h => by cases h) (fun _ _ _ => rfl) (fun e L' hL => JV.load1 3 rfl ((hL 3 (by decide)).trans rfl) Tryd.isAgg3 (rfl)),
                Ob.val 119 rfl (fun _ _ h => by cases h) (fun _ _ _ => ⟨rfl, rfl⟩) (by decide) (fun e L' hL => JO.callRo 119 Tryd.call28 (evs_cons rfl (evs_cons rfl (evs_cons rfl (evs_cons rfl evs_nil)))) (fun w hw => rdue_spec pn tv rv qv ts rs n kv ks hok a0 a1 w (hw.reads (id := 101) ((hL 101 (by decide)).trans rfl)) (hw.reads (id := 100) ((hL 100 (by decide)).trans rfl)))),
                Ob.v rfl (fun _ _ h => by cases h) (fun e e' he => by first | rfl | simp only [he 6 (by decide), he 13 (by decide)]) (fun e L' hL => JV.known (c := true) (JV.callM Tryd.call24 (evs_cons rfl (evs_cons rfl evs_nil)) (fun w hw => same14_spec _ _ (dueL ts ks a0 a1) (dueL ts ks a0 a1) (dueL_le hlen _ _ _) (dueL_le hlen _ _ _) w (hw.reads (id := 118) ((hL 118 (by decide)).trans rfl)) (hw.reads (id := 119) ((hL 119 (by decide)).trans rfl)))) (by simp)),
                Ob.v rfl (fun _ _ h => by cases h) (fun e e' he => by first | rfl | simp only [he 6 (by decide), he 13 (by decide)]) (fun e L' hL => JV.assign rfl), trivial⟩ (fun ev8 => ?_)
      simp only [endF, endL, putF, List.nil_append, List.cons_append]
      refine JQ.n_then ?_
      refine JQ.seq ?_
      refine JQ.region ?_
      refine JQ.v (JV.move rfl) rfl ?_
      refine JQ.v (JV.move rfl) rfl ?_
      refine JQ.vg rfl rfl (JV.move rfl) rfl ?_
      refine JQ.v (JV.pickT rfl rfl) rfl ?_
      refine JQ.v (JV.move rfl) rfl ?_
      refine JQ.vg rfl rfl (JV.move rfl) rfl ?_
      refine JQ.v (JV.pickT rfl rfl) rfl ?_
      refine JQ.v (JV.move rfl) rfl ?_
      refine JQ.vg rfl rfl (JV.move rfl) rfl ?_
      refine JQ.v (JV.pickT rfl rfl) rfl ?_
      refine JQ.v (JV.move rfl) rfl ?_
      refine JQ.vg rfl rfl (JV.fieldAddrK (o := 0) rfl Tryd.runUnderlying39 rfl Tryd.sizeOf9 rfl rfl) rfl ?_
      refine JQ.vg rfl rfl (JV.load1 5 rfl rfl Tryd.isAgg9 (rfl)) rfl ?_
      refine JQ.vg rfl rfl (JV.fieldAddrK (o := 2) rfl Tryd.runUnderlying57 rfl Tryd.sizeOf55 rfl rfl) rfl ?_
      refine JQ.vg rfl rfl (JV.fieldAddrK (o := 2) rfl Tryd.runUnderlying55 rfl Tryd.sizeOf9 rfl rfl) rfl ?_
      refine JQ.vg rfl rfl (JV.load1 6 rfl rfl Tryd.isAgg9 (rfl)) rfl ?_
      refine JQ.vg rfl rfl (JV.known (c := true) (JV.eqlS rfl rfl) (by simp)) rfl ?_
      refine JQ.v (JV.pickT rfl rfl) rfl ?_
      refine JQ.v (JV.move rfl) rfl ?_
      refine JQ.vg rfl rfl (JV.move rfl) rfl ?_
      refine JQ.vg rfl rfl (JV.fieldAddrK (o := 5) rfl Tryd.runUnderlying57 rfl Tryd.sizeOf35 rfl rfl) rfl ?_
      refine JQ.vg rfl rfl (JV.load1 6 rfl rfl Tryd.isAgg35 (rfl)) rfl ?_
      refine JQ.vg rfl rfl (JV.known (c := true) (JV.eqlI rfl rfl) (by simp)) rfl ?_
      refine JQ.v (JV.pickT rfl rfl) rfl ?_
      refine JQ.v (JV.assign rfl) rfl ?_
      refine JQ.nil ?_
      refine JQ.n_then ?_
      refine JQ.ret ?_
      refine JQ.done1 Tryd.results7 rfl ?_
      exact fun w hw => ⟨rfl, hw.below⟩
end Go.Fw
end
section
open Go.RowKit
set_option maxRecDepth 100000
set_option linter.unusedVariables false
set_option linter.unusedSimpArgs false
namespace Go.Fw
open Go.Proofs
open Go.ChangeShapes Go.WideShapes
section
variable {H : Type} {enc : TypeId × Value → H} {W : World} {base : Nat} {v : Value} {d0 : DataW H} {p0 : List MemPlace} {sp : Nat → Bool} {held : Bool}
theorem trod_field1 {t u : TypeId} {fuel o : Nat} {cs : List Value} {x : DataW H × List MemPlace} {fs : Array Field} (ht : Tryd.prog.underlying t = some (.struct fs)) (h : DataW.trod enc Tryd.prog W base sp held fuel t cs = some x) (i : Nat) {f : Field} (hf : fs[i]? = some f) (hft : f.type = u) (hfo : f.offset = o) (hc : Tryd.prog.cellsOf u = 1) :
    ∃ m y, DataW.trod enc Tryd.prog W base sp held m u ((cs.drop o).take 1) = some y := by
  subst hft hfo; rw [← hc]; exact trod_field ht h i hf
theorem c1i : Tryd.prog.cellsOf 3 = 1 := by kernel_rfl
theorem c1s : Tryd.prog.cellsOf 9 = 1 := by kernel_rfl
theorem c1b : Tryd.prog.cellsOf 4 = 1 := by kernel_rfl
theorem elem_key (m : Nat) (cs : List Value) (y : DataW H × List MemPlace) (h : DataW.trod enc Tryd.prog W base sp held m 34 cs = some y) : ∃ k : Pl.Key, cs = kc k := by
  have hl := struct_len Tryd.underlying34 h
  rw [show Tryd.prog.cellsOf 34 = 9 from by kernel_rfl] at hl
  obtain ⟨z0, h0⟩ := field_int Tryd.underlying34 h 0 rfl Tryd.underlying3 c1i
  obtain ⟨z1, h1⟩ := field_int Tryd.underlying34 h 1 rfl Tryd.underlying3 c1i
  obtain ⟨z2, h2⟩ := field_str Tryd.underlying34 h 2 rfl Tryd.underlying9 c1s
  obtain ⟨z3, h3⟩ := field_int Tryd.underlying34 h 3 rfl Tryd.underlying3 c1i
  obtain ⟨z4, h4⟩ := field_int Tryd.underlying34 h 4 rfl Tryd.underlying3 c1i
  obtain ⟨z5, h5⟩ := field_int Tryd.underlying34 h 5 rfl Tryd.underlying3 c1i
  obtain ⟨z6, h6⟩ := field_int Tryd.underlying34 h 6 rfl Tryd.underlying3 c1i
  obtain ⟨z7, h7⟩ := field_int Tryd.underlying34 h 7 rfl Tryd.underlying3 c1i
  obtain ⟨z8, h8⟩ := field_bool Tryd.underlying34 h 8 rfl Tryd.underlying4 c1b
  exact ⟨⟨z0, z1, z2, z3, z4, z5, z6, z7, z8⟩, List.ext_getElem? fun i => match i with
    | 0 => h0 | 1 => h1 | 2 => h2 | 3 => h3 | 4 => h4 | 5 => h5 | 6 => h6 | 7 => h7 | 8 => h8
    | i + 9 => by rw [List.getElem?_eq_none (by omega), List.getElem?_eq_none (show 9 ≤ i + 9 by omega)]⟩
theorem elem_typ (m : Nat) (cs : List Value) (y : DataW H × List MemPlace) (h : DataW.trod enc Tryd.prog W base sp held m 51 cs = some y) : ∃ k : Pl.Typ, cs = tc k := by
  have hl := struct_len Tryd.underlying51 h
  rw [show Tryd.prog.cellsOf 51 = 3 from by kernel_rfl] at hl
  obtain ⟨z0, h0⟩ := field_str Tryd.underlying51 h 0 rfl Tryd.underlying9 c1s
  obtain ⟨z1, h1⟩ := field_int Tryd.underlying51 h 1 rfl Tryd.underlying3 c1i
  obtain ⟨z2, h2⟩ := field_int Tryd.underlying51 h 2 rfl Tryd.underlying3 c1i
  exact ⟨⟨z0, z1, z2⟩, List.ext_getElem? fun i => match i with
    | 0 => h0 | 1 => h1 | 2 => h2 | i + 3 => by rw [List.getElem?_eq_none (by omega), List.getElem?_eq_none (show 3 ≤ i + 3 by omega)]⟩
theorem elem_rule (m : Nat) (cs : List Value) (y : DataW H × List MemPlace) (h : DataW.trod enc Tryd.prog W base sp held m 88 cs = some y) : ∃ k : Pl.Rule, cs = rcl k := by
  have hl := struct_len Tryd.underlying88 h
  rw [show Tryd.prog.cellsOf 88 = 3 from by kernel_rfl] at hl
  obtain ⟨z0, h0⟩ := field_int Tryd.underlying88 h 0 rfl Tryd.underlying3 c1i
  obtain ⟨z1, h1⟩ := field_int Tryd.underlying88 h 1 rfl Tryd.underlying3 c1i
  obtain ⟨z2, h2⟩ := field_int Tryd.underlying88 h 2 rfl Tryd.underlying3 c1i
  exact ⟨⟨z0, z1, z2⟩, List.ext_getElem? fun i => match i with
    | 0 => h0 | 1 => h1 | 2 => h2 | i + 3 => by rw [List.getElem?_eq_none (by omega), List.getElem?_eq_none (show 3 ≤ i + 3 by omega)]⟩
theorem elem_quor (m : Nat) (cs : List Value) (y : DataW H × List MemPlace) (h : DataW.trod enc Tryd.prog W base sp held m 158 cs = some y) : ∃ k : {l : List Value // l.length = 5}, cs = k.1 := by
  have hl := struct_len Tryd.underlying158 h
  rw [show Tryd.prog.cellsOf 158 = 5 from by kernel_rfl] at hl
  exact ⟨⟨cs, hl⟩, rfl⟩
theorem arg_table (hval : Value.okWide Tryd.prog W .any base 29 v) (h : DataW.Trod enc Tryd.prog W 0 sp held 29 v d0 p0) :
    ∃ (n : Int) (kv : Value) (ks : List Pl.Key), v = .agg [iv n, kv].toArray ∧ ks.length ≤ 9223372036854775807 ∧ Reads W kv 9 ks.length (kcs ks) := by
  simp only [Value.okWide, Tryd.underlying29] at hval
  obtain ⟨cs, rfl, hn, _⟩ := hval
  rw [show Tryd.prog.cellsOf 29 = 2 from by kernel_rfl] at hn
  obtain ⟨fuel, hf⟩ := h
  obtain ⟨z0, h0⟩ := field_int Tryd.underlying29 hf 0 rfl Tryd.underlying3 c1i
  obtain ⟨m, y, h1⟩ := trod_field1 Tryd.underlying29 hf 1 rfl rfl rfl (show Tryd.prog.cellsOf 27 = 1 by kernel_rfl)
  obtain ⟨kv, ks, h2, h3, h4⟩ := arg_sliceC (f := kc) (n := 9) (fun _ => rfl) (by decide) Tryd.underlying27 (by kernel_rfl) elem_key h1
  refine ⟨z0, kv, ks, ?_, h3, h4⟩
  have h5 := congrArg (·[0]?) h2
  have h6 : cs.toList[1]? = some kv := by simpa [Value.cells] using h5
  have h7 : cs.toList[0]? = some (iv z0) := h0
  congr 1
  rw [← Array.toArray_toList (xs := cs)]
  congr 1
  exact List.ext_getElem? fun i => match i with
    | 0 => h7 | 1 => h6 | i + 2 => by rw [List.getElem?_eq_none (by simp [hn]), List.getElem?_eq_none (show 2 ≤ i + 2 by omega)]
theorem arg_policy (hval : Value.okWide Tryd.prog W .any base 26 v) (h : DataW.Trod enc Tryd.prog W 0 sp held 26 v d0 p0) :
    ∃ (pn : List UInt8) (tv rv qv : Value) (ts : List Pl.Typ) (rs : List Pl.Rule) (nq : Nat) (qx : List Value), v = .agg [str pn, tv, rv, qv].toArray ∧ Reads W tv 3 ts.length (tcs ts) ∧ Reads W rv 3 rs.length (rcs rs) ∧ Reads W qv 5 nq qx := by
  simp only [Value.okWide, Tryd.underlying26] at hval
  obtain ⟨cs, rfl, hn, _⟩ := hval
  rw [show Tryd.prog.cellsOf 26 = 4 from by kernel_rfl] at hn
  obtain ⟨fuel, hf⟩ := h
  obtain ⟨z0, h0⟩ := field_str Tryd.underlying26 hf 0 rfl Tryd.underlying9 c1s
  obtain ⟨m1, y1, g1⟩ := trod_field1 Tryd.underlying26 hf 1 rfl rfl rfl (show Tryd.prog.cellsOf 22 = 1 by kernel_rfl)
  obtain ⟨m2, y2, g2⟩ := trod_field1 Tryd.underlying26 hf 2 rfl rfl rfl (show Tryd.prog.cellsOf 23 = 1 by kernel_rfl)
  obtain ⟨m3, y3, g3⟩ := trod_field1 Tryd.underlying26 hf 3 rfl rfl rfl (show Tryd.prog.cellsOf 24 = 1 by kernel_rfl)
  obtain ⟨tv, ts, e1, _, r1⟩ := arg_sliceC (f := tc) (n := 3) (fun _ => rfl) (by decide) Tryd.underlying22 (by kernel_rfl) elem_typ g1
  obtain ⟨rv, rs, e2, _, r2⟩ := arg_sliceC (f := rcl) (n := 3) (fun _ => rfl) (by decide) Tryd.underlying23 (by kernel_rfl) elem_rule g2
  obtain ⟨qv, qs, e3, _, r3⟩ := arg_sliceC (f := fun (k : {l : List Value // l.length = 5}) => k.1) (n := 5) (fun k => k.2) (by decide) Tryd.underlying24 (by kernel_rfl) elem_quor g3
  refine ⟨z0, tv, rv, qv, ts, rs, _, _, ?_, r1, r2, r3⟩
  have f1 := congrArg (·[0]?) e1
  have f2 := congrArg (·[0]?) e2
  have f3 := congrArg (·[0]?) e3
  have k0 : cs.toList[0]? = some (str z0) := h0
  have k1 : cs.toList[1]? = some tv := by simpa [Value.cells] using f1
  have k2 : cs.toList[2]? = some rv := by simpa [Value.cells] using f2
  have k3 : cs.toList[3]? = some qv := by simpa [Value.cells] using f3
  congr 1
  rw [← Array.toArray_toList (xs := cs)]
  congr 1
  exact List.ext_getElem? fun i => match i with
    | 0 => k0 | 1 => k1 | 2 => k2 | 3 => k3 | i + 4 => by rw [List.getElem?_eq_none (by simp [hn]), List.getElem?_eq_none (show 4 ≤ i + 4 by omega)]
theorem arg_pair (hval : Value.okWide Tryd.prog W .any base 48 v) (h : DataW.Trod enc Tryd.prog W 0 sp held 48 v d0 p0) : ∃ a b : Int, v = .agg [iv a, iv b].toArray := by
  simp only [Value.okWide, Tryd.underlying48] at hval
  obtain ⟨cs, rfl, hn, _⟩ := hval
  rw [show Tryd.prog.cellsOf 48 = 2 from by kernel_rfl] at hn
  obtain ⟨fuel, hf⟩ := h
  obtain ⟨xs, m, rfl, hx, hlen, hn3, hel⟩ := DataW.trod_array Tryd.underlying48 hf
  match cs, hn with
  | ⟨[a, b]⟩, _ =>
    have h0 := hel 0 (by decide)
    have h1 := hel 1 (by decide)
    rw [c1i, List.getElem?_eq_getElem (by omega)] at h0 h1
    obtain ⟨k, e1, _, w1⟩ := DataW.trod_int Tryd.underlying3 h0
    obtain ⟨k', e2, _, w2⟩ := DataW.trod_int Tryd.underlying3 h1
    simp [Value.cells] at e1 e2
    subst e1; subst e2
    exact ⟨_, _, rfl⟩
theorem arg_ids (h : DataW.Trod enc Tryd.prog W 0 sp held 44 v d0 p0) (hs : ∃ a l c, v = .slice a l c) : ∃ is : List Int, Reads W v 1 is.length (is.map iv) := by
  obtain ⟨a, l, c, rfl⟩ := hs
  obtain ⟨fuel, hf⟩ := h
  obtain ⟨kv, is, e, _, hr⟩ := arg_sliceC (f := fun z : Int => [iv z]) (n := 1) (fun _ => rfl) (by decide) Tryd.underlying44 c1i (elem_int Tryd.underlying3) hf
  simp [Value.cells] at e
  subst e
  rw [fm_map] at hr
  exact ⟨is, hr⟩
/-- the table of rules -/
theorem tableB {sp : Nat → Bool} {held : Bool} {f : Nat} {nm : String} {cs : Array Value} {p : List MemPlace} {g : Nat} (hg : Tryd.prog.globalNamed nm = some g) (hv : W.var? Tryd.prog nm = some cs)
    (hd : DataW.trod enc Tryd.prog W base sp held f 115 cs.toList = some (.agg [.agg [.lit (.int .i64 1), .lit (.int .i64 128), .lit (.int .i64 512)], .agg [.lit (.int .i64 2), .lit (.int .i64 128), .lit (.int .i64 0)], .agg [.lit (.int .i64 3), .lit (.int .i64 128), .lit (.int .i64 512)], .agg [.lit (.int .i64 4), .lit (.int .i64 128), .lit (.int .i64 0)], .agg [.lit (.int .i64 5), .lit (.int .i64 256), .lit (.int .i64 0)]], p)) : Gl g byRule W := by
  obtain ⟨xs, m, rfl, hx, hlen, hn, hel⟩ := DataW.trod_array Tryd.underlying115 hd
  simp only [Prod.mk.injEq, DataW.agg.injEq] at hx
  have hcB : Tryd.prog.cellsOf 114 = 3 := by kernel_rfl
  have hlen' : cs.toList.length = 15 := by rw [hlen]; kernel_rfl
  have row : ∀ (i : Nat) (a b c : Int), i < 5 → (xs.map (·.1))[i]? = some (.agg [.lit (.int .i64 a), .lit (.int .i64 b), .lit (.int .i64 c)]) → cs.toList[i * 3]? = some (iv a) ∧ cs.toList[i * 3 + 1]? = some (iv b) ∧ cs.toList[i * 3 + 2]? = some (iv c) := by
    intro i a b c hi hx
    have h1 := hel i hi
    rw [hcB, List.getElem?_eq_getElem (by omega)] at h1
    rw [List.getElem?_map, List.getElem?_eq_getElem (by omega), Option.map_some, Option.some.injEq] at hx
    obtain ⟨ys, m2, _, hy, hl2, hn2, hel2⟩ := DataW.trod_struct Tryd.underlying114 h1
    rw [hy] at hx
    simp only [DataW.agg.injEq] at hx
    have one : ∀ (o : Nat) (f : Field) (z : Int), (Tryd.prog.fieldsOf 114)[o]? = some f → f.type = 3 → f.offset = o → (ys.map (·.1))[o]? = some (.lit (.int .i64 z)) → ((cs.toList.drop (i * 3)).take 3)[o]? = some (iv z) := by
      intro o f z hf ht ho hz
      have hf' := hf
      unfold Program.fieldsOf at hf'
      rw [Tryd.underlying114] at hf'
      have h2 := hel2 o f hf'
      rw [List.getElem?_map] at hz
      have hlt : o < ys.length := by
        rcases Nat.lt_or_ge o ys.length with h | h
        · exact h
        · rw [List.getElem?_eq_none h] at hz; cases hz
      rw [List.getElem?_eq_getElem hlt] at h2 hz
      rw [Option.map_some, Option.some.injEq] at hz
      rw [ht, c1i, ho] at h2
      obtain ⟨k, e1, e2, _⟩ := DataW.trod_int Tryd.underlying3 h2
      rw [e2] at hz
      simp only [DataW.lit.injEq, Lit.int.injEq, true_and] at hz
      subst hz
      have h3 := congrArg (·[0]?) e1
      simp at h3
      simpa using h3
    have hF : Tryd.prog.fieldsOf 114 = match Tryd.prog.underlying 114 with | some (.struct fs) => fs | _ => #[] := rfl
    have q0 := one 0 _ a (by rw [hF, Tryd.underlying114]; rfl) rfl rfl (by rw [hx]; rfl)
    have q1 := one 1 _ b (by rw [hF, Tryd.underlying114]; rfl) rfl rfl (by rw [hx]; rfl)
    have q2 := one 2 _ c (by rw [hF, Tryd.underlying114]; rfl) rfl rfl (by rw [hx]; rfl)
    rw [List.getElem?_take_of_lt (by decide), List.getElem?_drop] at q0 q1 q2
    exact ⟨q0, q1, q2⟩
  obtain ⟨a0, a1, a2⟩ := row 0 1 128 512 (by decide) (by rw [← hx.1]; rfl)
  obtain ⟨b0, b1, b2⟩ := row 1 2 128 0 (by decide) (by rw [← hx.1]; rfl)
  obtain ⟨c0, c1, c2⟩ := row 2 3 128 512 (by decide) (by rw [← hx.1]; rfl)
  obtain ⟨d0, d1, d2⟩ := row 3 4 128 0 (by decide) (by rw [← hx.1]; rfl)
  obtain ⟨f0, f1, f2⟩ := row 4 5 256 0 (by decide) (by rw [← hx.1]; rfl)
  have hcs : cs.toList = byRule := List.ext_getElem? fun i => match i with
    | 0 => a0 | 1 => a1 | 2 => a2 | 3 => b0 | 4 => b1 | 5 => b2 | 6 => c0 | 7 => c1 | 8 => c2 | 9 => d0 | 10 => d1 | 11 => d2 | 12 => f0 | 13 => f1 | 14 => f2
    | i + 15 => by rw [List.getElem?_eq_none (by omega), List.getElem?_eq_none (show 15 ≤ i + 15 by omega)]
  refine ⟨by rfl, _, 15, rfl, ⟨by decide, by decide⟩, .inr ⟨_, rfl, rfl, fun j u hj => ?_⟩⟩
  rw [add_plain, Nat.zero_add, World.var?_cell hg hv j, ← hj, ← hcs]; simp
end
end Go.Fw
end
